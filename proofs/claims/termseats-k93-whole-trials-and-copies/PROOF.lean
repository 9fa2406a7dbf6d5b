import PyProof.Rows.All
import Wide.All
import OpenK.AllK
import Wide.FinOn
import HandS.ForMost
import HandS.ForExc
import HandS.Evl
import HandS.TupAny
import HandS.Lambda
import HandS.IsInst
import HandS.Property
import HandS.Conv
import HandS.Wide
import PySem.Challenge.RW_termseats_k93_whole_trials_and_copies
import HandS.Star
import HandS.OwnEq
import PyProof.InstNe
import PyProof.ReprRoads
import HandS.Walk
import HandS.Zip
import KE.GoesNew
import HandS.Finally
import HandS.HotCalls
import HandS.Nested
import KE.KWithOwn
import HandS.ExcInit
import KE.KExcSuper
import PyProof.P3Eq
import PyProof.ReprLen
import PyProof.EqLayable
import HandS.Steps
import HandS.Text
import HandS.Style
import PyProof.Rows.RegReprOcc
import PyProof.ListStr
import HandS.More
import HandS.ExcField
import HandS.HeadHook4
import HandS.HeadWalk
import HandS.Head0
import HandS.Head1
import HandS.Head2
import KE.KStateDown
set_option Elab.async false
set_option linter.all false
set_option maxRecDepth 100000
-- La
set_option maxHeartbeats 200000
/-! T93, part a: what a step keeps (Kp), data made of tuples (Tp). -/
namespace T93
open PySem L2

/-- what need not stay: a table of code objects; where a draw is made, a list whose first item is an int -/
def Soft (b : Bool) : HO → Bool
  | .lst (.int _ :: _) => b
  | .tbl _ => true
  | _ => false
def IsTb : HO → Bool
  | .tbl _ => true
  | _ => false
/-- what may be written -/
def Wr : HO → Bool
  | .lst _ => true
  | .dK _ => true
  | .dT _ => true
  | .ins _ _ _ => true
  | .own _ => true
  | .xd _ => true
  | _ => false
theorem isTb_wr {o : HO} (h : Wr o = true) : IsTb o = false := by cases o <;> first | rfl | cases h
/-- all but the objects at S (and the lists of ints) stand as they stood; tuples stand for ever; the tables T are in order -/
structure Kp (T : List (Addr × Str)) (b : Bool) (S : List Addr) (H H' : Hp) : Prop where
  keep : ∀ a o, H a = some o → a ∉ S → Soft b o = false → H' a = some o
  tup : ∀ a xs, H a = some (.tup xs) → H' a = some (.tup xs)
  frz : ∀ a o u, H a = some (.frz o u) → H' a = some (.frz o u)
  live : ∀ a o, H a = some o → IsTb o = false → ∃ o', H' a = some o' ∧ IsTb o' = false
  tabs : LamX.Tabs T H → LamX.Tabs T H'
/-- all stands -/
abbrev Ex := Evl.Ex
section
variable {T : List (Addr × Str)} {b : Bool} {S S' : List Addr} {H H1 H2 H' : Hp} {a p : Addr} {o u : HO}
theorem Kp.refl : Kp T b S H H := ⟨fun _ _ h _ _ => h, fun _ _ h => h, fun _ _ _ h => h, fun _ o h n => ⟨o, h, n⟩, id⟩
theorem Kp.trans (x : Kp T b S H H1) (y : Kp T b S H1 H2) : Kp T b S H H2 :=
  ⟨fun a o h n i => y.keep a o (x.keep a o h n i) n i, fun a xs h => y.tup a xs (x.tup a xs h), fun a o u h => y.frz a o u (x.frz a o u h), fun a o h n => by
    obtain ⟨o1, h1, n1⟩ := x.live a o h n
    exact y.live a o1 h1 n1, fun t => y.tabs (x.tabs t)⟩
theorem Kp.mono (x : Kp T b S H H1) (h : ∀ a ∈ S, a ∈ S') : Kp T b S' H H1 := ⟨fun a o e n i => x.keep a o e (fun z => n (h a z)) i, x.tup, x.frz, x.live, x.tabs⟩
theorem Kp.of_ex (x : Ex H H') : Kp T b S H H' := ⟨fun a o h _ _ => x a o h, fun a xs h => x a _ h, fun a o u h => x a _ h, fun a o h n => ⟨o, x a o h, n⟩, fun t => t.ext x⟩
theorem Kp.new (h : H p = none) : Kp T b S H (upd H p o) := .of_ex (Evl.Ex.new h)
theorem Kp.and_new (x : Kp T b S H H1) (h : H1 p = none) : Kp T b S H (upd H1 p o) := x.trans (.new h)
theorem tabs_write (hu : H a = some u) (hw : Wr u = true) (t : LamX.Tabs T H) : LamX.Tabs T (upd H a o) := fun p hp => by
  obtain ⟨ps, h1, h2, h3⟩ := t p hp
  refine ⟨ps, ?_, h2, fun pos cv hc => ?_⟩
  · rw [upd_ne (fun z => by rw [z, hu] at h1; cases h1; cases hw)]
    exact h1
  · obtain ⟨c, e1, e2⟩ := h3 pos cv hc
    refine ⟨c, e1, ?_⟩
    rw [upd_ne (fun z => by rw [z, hu] at e2; unfold LamX.CodeO at e2; cases e2; cases hw)]
    exact e2
/-- an object of S is written -/
theorem Kp.write (hu : H a = some u) (ha : a ∈ S) (hw : Wr u = true) (ho : IsTb o = false) : Kp T b S H (upd H a o) :=
  ⟨fun c v h n _ => by rw [upd_ne (fun z => n (by rw [z]; exact ha))]; exact h,
   fun c xs h => by rw [upd_ne (fun z => by rw [z, hu] at h; cases h; cases hw)]; exact h,
   fun c v w h => by rw [upd_ne (fun z => by rw [z, hu] at h; cases h; cases hw)]; exact h,
   fun c v h n => by
    by_cases e : c = a
    · rw [e]
      exact ⟨o, upd_same, ho⟩
    · exact ⟨v, by rw [upd_ne e]; exact h, n⟩,
   tabs_write hu hw⟩
/-- a list of ints is written -/
theorem Kp.writeI {i : Int} {r : List V} (hu : H a = some (.lst (.int i :: r))) (ho : IsTb o = false) : Kp T true S H (upd H a o) :=
  ⟨fun c v h _ s => by rw [upd_ne (fun z => by rw [z, hu] at h; cases h; cases s)]; exact h,
   fun c xs h => by rw [upd_ne (fun z => by rw [z, hu] at h; cases h)]; exact h,
   fun c v w h => by rw [upd_ne (fun z => by rw [z, hu] at h; cases h)]; exact h,
   fun c v h n => by
    by_cases e : c = a
    · rw [e]
      exact ⟨o, upd_same, ho⟩
    · exact ⟨v, by rw [upd_ne e]; exact h, n⟩,
   tabs_write hu rfl⟩
/-- what was new may change -/
theorem Kp.fresh (x : Kp T b S H H1) (y : Kp T b (p :: S) H1 H2) (h : H p = none) : Kp T b S H H2 :=
  ⟨fun a o e n i => y.keep a o (x.keep a o e n i) (by
      intro z
      rcases List.mem_cons.mp z with z | z
      · rw [z, h] at e
        cases e
      · exact n z) i,
   fun a xs e => y.tup a xs (x.tup a xs e), fun a o u e => y.frz a o u (x.frz a o u e), fun a o e n => by
    obtain ⟨o1, h1, n1⟩ := x.live a o e n
    exact y.live a o1 h1 n1, fun t => y.tabs (x.tabs t)⟩
theorem Kp.fresh1 (x : Kp T b S H H1) (y : Kp T b [p] H1 H2) (h : H p = none) : Kp T b S H H2 := x.fresh (y.mono fun a z => by
  rcases List.mem_cons.mp z with z | z
  · rw [z]
    exact List.mem_cons_self
  · cases z) h
theorem Kp.ne (x : Kp T b S H H') (h : H a = some o) (ho : IsTb o = false) (n : H' p = none) : a ≠ p := fun z => by
  obtain ⟨o', h', _⟩ := x.live a o h ho
  rw [z, n] at h'
  cases h'
/-- a lambda was made -/
theorem Kp.extN (x : LamX.ExtN H H') (t : LamX.Tabs T H') : Kp T b S H H' :=
  ⟨fun a o h _ i => x a o h fun ps z => (by rw [z] at i; cases i), fun a xs h => x a _ h fun ps z => (by cases z), fun a o u h => x a _ h fun ps z => (by cases z),
   fun a o h n => ⟨o, x a o h fun ps z => (by rw [z] at n; cases n), n⟩, fun _ => t⟩
theorem soft_le {o : HO} (h : Soft true o = false) : Soft b o = false := by
  cases b
  · unfold Soft at h ⊢
    split <;> first | rfl | simp_all
  · exact h
/-- no draw was made: the more so -/
theorem Kp.any (x : Kp T false S H H') : Kp T b S H H' := ⟨fun a o h n i => x.keep a o h n (by
    cases b
    · exact i
    · exact soft_le i), x.tup, x.frz, x.live, x.tabs⟩
theorem ne_none (h : H a = some o) (n : H p = none) : a ≠ p := ne_of_none h n
theorem Ex.rd {H H' : Hp} (e : Ex H H') {a : Addr} {o : HO} (h : H a = some o) : H' a = some o := e a o h
theorem Ex.upd2 (e : Ex H H1) (h : H p = none) : Ex H (upd H1 p o) := e.mut h
end

/-! ### data made of tuples -/
mutual
/-- the value v is the data d, a thing that never changes -/
inductive Tp (K : PySem.W.Frag) (H : Hp) : V → PyData → Prop
  | non : Tp K H .non .none
  | bl (b : Bool) : Tp K H (.bl b) (.bool b)
  | int (i : Int) : Tp K H (.int i) (.int i)
  | str (x : Str) : Tp K H (.str x) (.str x)
  | tup {a : Addr} {xs : List V} {ds : List PyData} : SqT K H a xs → TpAll K H xs ds → Tp K H (.ref a) (.tuple ds)
inductive TpAll (K : PySem.W.Frag) (H : Hp) : List V → List PyData → Prop
  | nil : TpAll K H [] []
  | cons {v : V} {vs : List V} {d : PyData} {ds : List PyData} : Tp K H v d → TpAll K H vs ds → TpAll K H (v :: vs) (d :: ds)
end
section
variable {K : PySem.W.Frag} {T : List (Addr × Str)} {b : Bool} {S : List Addr} {H H' : Hp} {v : V} {vs ws : List V} {d : PyData} {ds es : List PyData} {a : Addr}
theorem SqT.kp {xs : List V} (k : Kp T b S H H') (h : SqT K H a xs) : SqT K H' a xs := by
  rcases h with (h | ⟨o, h⟩) | h
  · exact .inl (.inl (k.tup _ _ h))
  · exact .inl (.inr ⟨o, k.frz _ _ _ h⟩)
  · exact .inr h
mutual
theorem Tp.kp (k : Kp T b S H H') : ∀ {v : V} {d : PyData}, Tp K H v d → Tp K H' v d
  | _, _, .non => .non
  | _, _, .bl b => .bl b
  | _, _, .int i => .int i
  | _, _, .str x => .str x
  | _, _, .tup s t => .tup (SqT.kp k s) (TpAll.kp k t)
theorem TpAll.kp (k : Kp T b S H H') : ∀ {vs : List V} {ds : List PyData}, TpAll K H vs ds → TpAll K H' vs ds
  | _, _, .nil => .nil
  | _, _, .cons x t => .cons (Tp.kp k x) (TpAll.kp k t)
end
theorem Tp.ex (k : Ex H H') (t : Tp K H v d) : Tp K H' v d := t.kp (T := []) (b := false) (S := []) (.of_ex k)
theorem TpAll.ex (k : Ex H H') (t : TpAll K H vs ds) : TpAll K H' vs ds := t.kp (T := []) (b := false) (S := []) (.of_ex k)
mutual
theorem Tp.dp : ∀ {v : V} {d : PyData}, Tp K H v d → Dp K H v d
  | _, _, .non => .non
  | _, _, .bl b => .bl b
  | _, _, .int i => .int i
  | _, _, .str x => .str x
  | _, _, .tup s t => .tup s (TpAll.dp t)
theorem TpAll.dp : ∀ {vs : List V} {ds : List PyData}, TpAll K H vs ds → DpAll K H vs ds
  | _, _, .nil => .nil
  | _, _, .cons x t => .cons (Tp.dp x) (TpAll.dp t)
end
theorem TpAll.len : ∀ {vs : List V} {ds : List PyData}, TpAll K H vs ds → vs.length = ds.length
  | _, _, .nil => rfl
  | _, _, .cons _ t => by rw [List.length_cons, List.length_cons, TpAll.len t]
theorem TpAll.get : ∀ {vs : List V} {ds : List PyData}, TpAll K H vs ds → ∀ {i : Nat} {d : PyData}, ds[i]? = some d → ∃ v, vs[i]? = some v ∧ Tp K H v d
  | _, _, .nil, _, _, e => by simp at e
  | _, _, .cons x t, 0, _, e => by
    simp at e
    subst e
    exact ⟨_, rfl, x⟩
  | _, _, .cons x t, i + 1, _, e => by
    obtain ⟨v, h, q⟩ := TpAll.get t (i := i) (by simpa using e)
    exact ⟨v, by simpa using h, q⟩
theorem TpAll.get' : ∀ {vs : List V} {ds : List PyData}, TpAll K H vs ds → ∀ {i : Nat} {v : V}, vs[i]? = some v → ∃ d, ds[i]? = some d ∧ Tp K H v d
  | _, _, .nil, _, _, e => by simp at e
  | _, _, .cons x t, 0, _, e => by
    simp at e
    subst e
    exact ⟨_, rfl, x⟩
  | _, _, .cons x t, i + 1, _, e => by
    obtain ⟨v, h, q⟩ := TpAll.get' t (i := i) (by simpa using e)
    exact ⟨v, by simpa using h, q⟩
theorem TpAll.getm {α : Type} {f : α → PyData} {l : List α} (t : TpAll K H vs (l.map f)) {i : Nat} {v : V} (e : vs[i]? = some v) : ∃ x, l[i]? = some x ∧ Tp K H v (f x) := by
  obtain ⟨d, hd, q⟩ := t.get' e
  rw [List.getElem?_map] at hd
  obtain ⟨x, hx, rfl⟩ := Option.map_eq_some_iff.mp hd
  exact ⟨x, hx, q⟩
theorem TpAll.append : ∀ {vs : List V} {ds : List PyData}, TpAll K H vs ds → TpAll K H ws es → TpAll K H (vs ++ ws) (ds ++ es)
  | _, _, .nil, y => y
  | _, _, .cons x t, y => .cons x (TpAll.append t y)
theorem TpAll.drop : ∀ {vs : List V} {ds : List PyData} (n : Nat), TpAll K H vs ds → TpAll K H (vs.drop n) (ds.drop n)
  | _, _, 0, x => x
  | _, _, n + 1, .nil => .nil
  | _, _, n + 1, .cons _ t => TpAll.drop n t
theorem TpAll.take : ∀ {vs : List V} {ds : List PyData} (n : Nat), TpAll K H vs ds → TpAll K H (vs.take n) (ds.take n)
  | _, _, 0, _ => .nil
  | _, _, n + 1, .nil => .nil
  | _, _, n + 1, .cons x t => .cons x (TpAll.take n t)
theorem TpAll.set : ∀ {vs : List V} {ds : List PyData} (n : Nat), TpAll K H vs ds → Tp K H v d → TpAll K H (vs.set n v) (ds.set n d)
  | _, _, _, .nil, _ => .nil
  | _, _, 0, .cons _ t, y => .cons y t
  | _, _, n + 1, .cons x t, y => .cons x (TpAll.set n t y)
theorem TpAll.one (h : Tp K H v d) : TpAll K H [v] [d] := .cons h .nil
theorem TpAll.ints : ∀ ns : List Int, TpAll K H (ns.map V.int) (ns.map PyData.int)
  | [] => .nil
  | n :: r => .cons (.int n) (TpAll.ints r)
theorem TpAll.strs : ∀ ns : List Str, TpAll K H (ns.map V.str) (ns.map PyData.str)
  | [] => .nil
  | n :: r => .cons (.str n) (TpAll.strs r)
/-- the texts that a row of data are -/
theorem TpAll.of_strs : ∀ {vs : List V} {ns : List Str}, TpAll K H vs (ns.map PyData.str) → vs = ns.map V.str
  | _, [], .nil => rfl
  | _, n :: r, .cons (.str _) t => by rw [TpAll.of_strs t]; rfl
theorem TpAll.of_ints : ∀ {ns : List Int} {vs : List V}, TpAll K H vs (ns.map PyData.int) → vs = ns.map V.int
  | [], _, .nil => rfl
  | n :: r, _, .cons (.int _) t => by rw [TpAll.of_ints t]; rfl
theorem TpAll.of_bls : ∀ {ns : List Bool} {vs : List V}, TpAll K H vs (ns.map PyData.bool) → vs = ns.map V.bl
  | [], _, .nil => rfl
  | n :: r, _, .cons (.bl _) t => by rw [TpAll.of_bls t]; rfl
theorem Tp.tup_inv {ds : List PyData} (h : Tp K H v (.tuple ds)) : ∃ a xs, v = .ref a ∧ SqT K H a xs ∧ TpAll K H xs ds := by
  cases h with
  | tup s t => exact ⟨_, _, rfl, s, t⟩
theorem Tp.int_inv {i : Int} (h : Tp K H v (.int i)) : v = .int i := by
  cases h
  rfl
theorem Tp.str_inv {x : Str} (h : Tp K H v (.str x)) : v = .str x := by
  cases h
  rfl
theorem Tp.non_inv (h : Tp K H v .none) : v = .non := by
  cases h
  rfl
theorem Tp.new {p : Addr} (t : TpAll K H vs ds) (h : H p = none) : Tp K (upd H p (.tup vs)) (.ref p) (.tuple ds) :=
  .tup (SqT.of upd_same) (t.ex (Evl.Ex.new h))
theorem Tp.at (h : H a = some (.tup vs)) (t : TpAll K H vs ds) : Tp K H (.ref a) (.tuple ds) := .tup (SqT.of h) t
end
end T93
-- Lb
set_option maxHeartbeats 200000
/-! T93, part b: the text by places, what the top has left (Txt), calls by name. -/
namespace T93
open PySem PySem.Spec PyProof.Rows L2
def top (i : Nat) : Stmt := PySem.Challenge.pw_termseats_k93_whole_trials_and_copies.main.body.getD i (.Pass ⟨0, 0, 0, 0⟩)

/-- a def of the top, by its name -/
structure Df (K : PySem.W.Frag) (mg : Str → Option Value) (x : Str) (st : Stmt) : Prop where
  ex : ∃ f fd, Fun K x x st f fd ∧ mg x = some (.ref f)
abbrev dn (i : Nat) (x : Str) : Nat × Str := (i, x)
def defTab : List (Nat × Str) := [dn 20 "is_whole", dn 21 "is_way", dn 22 "is_seat", dn 23 "common", dn 24 "round_of", dn 25 "need_bodies", dn 26 "need_house", dn 27 "are_letters", dn 28 "is_stand", dn 29 "need_stand", dn 30 "need_choices", dn 33 "comes_up", dn 34 "more_of", dn 35 "told_by", dn 36 "year_of", dn 41 "under", dn 45 "_law_mixed", dn 46 "_law_folded", dn 47 "_law_draw", dn 48 "_law_begun", dn 49 "_law_like", dn 50 "_law_of", dn 51 "_law_way", dn 52 "_law_seat", dn 53 "_law_house", dn 54 "_law_stand", dn 55 "_law_votes", dn 56 "_law_side", dn 57 "_law_ones", dn 58 "_law_is_due", dn 59 "_law_after", dn 60 "_law_gone_back", dn 61 "_law_gone_on", dn 62 "_law_copied", dn 63 "_law_own", dn 64 "_law_kept", dn 65 "_law_voted", dn 66 "_law_amended", dn 67 "_law_stands", dn 68 "_law_turn", dn 69 "_law_inner", dn 70 "_law_tried", dn 71 "_law_later_right", dn 72 "_law_copy_right", dn 73 "law"]
def bltTab : List Str := ["isinstance", "int", "bool", "str", "tuple", "list", "len", "zip", "enumerate", "sum", "all", "range", "repr", "min"]
def intTab : List (Str × Int) := [("MOST_BODIES", 3), ("MOST_SEATS", 9), ("MOST_TERM", 6), ("MOST_WARDS", 4), ("MOST_ROUND", 12), ("MOST_DEEDS", 400)]
def strTab : List (Str × Str) := [("SIDE_A", "a"), ("SIDE_B", "b"), ("KEPT", "kept"), ("WARD", "ward"), ("BODY", "body"), ("REST", "rest"), ("EVEN", "="), ("VOTE", "vote"), ("AMEND", "amend")]
/-- what the top has left -/
structure Txt (K : PySem.W.Frag) (mg : Str → Option Value) : Prop where
  df : ∀ p ∈ defTab, Df K mg p.2 (top p.1)
  no : ∀ x ∈ bltTab, mg x = none
  int : ∀ p ∈ intTab, ∃ t, mg p.1 = some (.int p.2 t)
  str : ∀ p ∈ strTab, ∃ t, mg p.1 = some (.str p.2 t)
  sides : ∃ a, mg "SIDES" = some (.ref a) ∧ ∀ H, SqT K H a [.str "a", .str "b"]

/-- a def that keeps its promise, by its name -/
structure GOk (P : Program) (w : World) (K : PySem.W.Frag) (mg : Str → Option Value) (base : Heap) (CX : CXT) (k : Nat) (x : Str) (ps : List Str) (sp : Sp) : Prop where
  ex : ∃ f fd, FnOk P w K mg base CX k f fd ps sp ∧ mg x = some (.ref f) ∧ PySem.W.keepIn K (.ref f) = true ∧ Binds K fd ps []
section
variable {P : Program} {w : World} {K : PySem.W.Frag} {mg : Str → Option Value} {base : Heap} {k : Nat} {x : Str} {st : Stmt} {N ps : List Str} {sp : Sp}
/-- the rule for a def that raises nothing -/
theorem gok (D : Df K mg x st) (S : FnScope N ps (defScope st))
    (hb : ∀ (kV doc pm : Value) (an : Option Addr) (cdv ct : Value) (us : List Value), us.length = ps.length → bindArgs (PySem.W.fnOf x x (defArgs st) (defBody st) (defScope st) .none kV doc pm an cdv ct) ⟨us, []⟩ = pure (ps.zip us))
    (len : ∀ vs H Q E, sp vs H Q E → vs.length = ps.length)
    (hbody : ∀ (f : Addr) (cdv : Value) (A : Around) (outer : List Env) (s : Shared) (H : Hp) (vs : List V) (Q : VK) (E : XK), Room k (A.deeper (envOfC x (defScope st) s.heap.objs.size f cdv)) → sp vs H Q E →
      ∃ t, PSs (cxOf CX0 P w K mg base N x (defScope st) f cdv A outer s H E).nox (defBody st) t ∧ t { nx := fun _ H' => Q .non H', rt := Q } (start N vs) H) : GOk P w K mg base CX0 (k + 1) x ps sp := by
  obtain ⟨f, fd, F, g⟩ := D.ex
  exact ⟨f, fd, F.ok S len fun cdv A outer s H vs Q E => hbody f cdv A outer s H vs Q E, g, F.kp, F.binds hb⟩
/-- .. for one that may raise -/
theorem gokX (D : Df K mg x st) (S : FnScope N ps (defScope st))
    (hb : ∀ (kV doc pm : Value) (an : Option Addr) (cdv ct : Value) (us : List Value), us.length = ps.length → bindArgs (PySem.W.fnOf x x (defArgs st) (defBody st) (defScope st) .none kV doc pm an cdv ct) ⟨us, []⟩ = pure (ps.zip us))
    (len : ∀ vs H Q E, sp vs H Q E → vs.length = ps.length)
    (hbody : ∀ (f : Addr) (cdv : Value) (A : Around) (outer : List Env) (s : Shared) (H : Hp) (vs : List V) (Q : VK) (E : XK), Room k (A.deeper (envOfC x (defScope st) s.heap.objs.size f cdv)) → sp vs H Q E →
      ∃ t, PSs (cxOf (L2.CX P w) P w K mg base N x (defScope st) f cdv A outer s H E) (defBody st) t ∧ t { nx := fun _ H' => Q .non H', rt := Q } (start N vs) H) : GOk P w K mg base (L2.CX P w) (k + 1) x ps sp := by
  obtain ⟨f, fd, F, g⟩ := D.ex
  exact ⟨f, fd, F.okX S len fun cdv A outer s H vs Q E => hbody f cdv A outer s H vs Q E, g, F.kp, F.binds hb⟩
end
section
variable {X : Cx} {CX : CXT} {k j : Nat} {x : Str} {ps : List Str} {sp : Sp} {E : XK} {e : Expr} {es : List Expr} {t : TA} {te : TE} {p pos p2 : Pos}
/-- f(e, ..) by name -/
theorem pe_g (G : GOk X.prog X.w X.K X.mg X.base CX k x ps sp) (hr : Room j X.A) (hx : Passes CX X E) (ha : PA X (e :: es) t) (hk : k ≤ j := by decide) (hg : Gl X x := by rfl) (hdb : (x == ("__debug__" : Str)) = false := by decide)
    (he : starEach (e :: es) X.env = (false, eval e X.env) :: starEach es X.env := by rfl) (hpl : (backTo pos (starEach es X.env)).any (·.1) = false := by rfl) :
    PE X (.Call (.Name x p) (e :: es) [] pos) (tCall sp [] E t) := by
  obtain ⟨f, fd, F, g, kp, b⟩ := G.ex
  exact pe_call F (hr.mono hk) hg g kp b .nil hx ha hdb he hpl
theorem pe_ci {i : Int} (h : ∃ t, X.mg x = some (.int i t)) (hg : Gl X x := by rfl) (hd : (x == ("__debug__" : Str)) = false := by decide) : PE X (.Name x pos) (tC (.int i)) := by
  obtain ⟨t, h⟩ := h
  exact pe_glob hg h ⟨t, rfl⟩ hd
theorem pe_cs {z : Str} (h : ∃ t, X.mg x = some (.str z t)) (hg : Gl X x := by rfl) (hd : (x == ("__debug__" : Str)) = false := by decide) : PE X (.Name x pos) (tC (.str z)) := by
  obtain ⟨t, h⟩ := h
  exact pe_glob hg h ⟨t, rfl⟩ hd
/-- isinstance(e, a built-in class) -/
def rIsiN (K : PySem.W.Frag) (n : String) : List V → Hp → VK → Prop := fun xs H Q => match xs with
  | [v, c] => c = .ty n ∧ ∃ t b, TyX K H v t ∧ PySem.W.kitOne K t (.type n) = some b ∧ Q (.bl b) H
  | _ => False
def tIsi (K : PySem.W.Frag) (n : String) (te : TE) : TE := tCB (rIsiN K n) (tCons te (tCons (tC (.ty n)) tNil))
theorem call_isiN {n : String} : CallR X (.builtin "isinstance") (rIsiN X.K n) := by
  intro pins s σ H xs us Q I r h
  match xs, h with
  | [v, c], ⟨e, t, b, h1, h2, h3⟩ =>
    subst e
    exact call_isi pins s σ H _ us Q I r ⟨v, .ty n, t, .type n, b, rfl, .ty n, h1, h2, h3⟩
theorem pe_isi (n : String) (he : PE X e te) (m1 : X.mg "isinstance" = none) (m2 : X.mg x = none) (hv : bootBuiltins x = some (.type n) := by decide +kernel) (h1 : Gl X "isinstance" := by rfl) (h2 : Gl X x := by rfl)
    (hn : x ≠ "__name__" := by decide) (hd : (x == ("__debug__" : Str)) = false := by decide)
    (hst : starEach [e, .Name x p2] X.env = (false, eval e X.env) :: starEach [.Name x p2] X.env := by rfl) :
    PE X (.Call (.Name "isinstance" p) [e, .Name x p2] [] pos) (tIsi X.K n te) :=
  pe_callB (p := p) (pos := pos) (call_isiN (X := X) (n := n)) h1 m1 (by decide +kernel) (pa_cons he (pa_cons (pe_bltn (v := .ty n) (pos := p2) h2 m2 hv rfl hn hd) pa_nil) hst) (he := hst)
/-- .. what it asks -/
theorem rd_isi {n : String} {σ : L2.St} {H : Hp} {Q : VK} {v : V} {t : Value} {b : Bool} {K : PySem.W.Frag} (h1 : TyX K H v t) (h2 : PySem.W.kitOne K t (.type n) = some b) (h3 : Q (.bl b) H) : rIsiN K n [v, .ty n] H Q := ⟨rfl, t, b, h1, h2, h3⟩
end
theorem kit_blt {K : PySem.W.Frag} {a b : String} {r : Bool} (h : kitB a b = some r) : PySem.W.kitOne K (.type a) (.type b) = some r := kit_ty h
end T93
-- Lc
set_option maxHeartbeats 200000
/-! T93, part c: the small defs of houses and years. -/
namespace T93
open PySem PySem.Spec PyProof.Rows L2
section
variable {P : Program} {w : World} {K : PySem.W.Frag} {mg : Str → Option Value} {base : Heap}

/-! ### is_whole -/
def spWhole : Sp := fun vs H Q _ => ∃ i lo hi : Int, vs = [.int i, .int lo, .int hi] ∧ Q (.bl (decide (lo ≤ i) && decide (i ≤ hi))) H
theorem sc20 : FnScope ["value", "least", "most"] ["value", "least", "most"] (defScope (top 20)) := ⟨rfl, rfl, rfl, by decide +kernel, rfl, by decide +kernel, by decide +kernel⟩
theorem ok_is_whole (T : Txt K mg) : GOk P w K mg base CX0 1 "is_whole" ["value", "least", "most"] spWhole := by
  refine gok (T.df (20, "is_whole") (by decide +kernel)) sc20 (fun _ _ _ _ _ _ us hl => match us, hl with | [_, _, _], _ => rfl) (fun vs H Q E h => ?_) (fun f cdv A outer s H vs Q E hr h => ?_)
  · obtain ⟨_, _, _, rfl, _⟩ := h
    rfl
  · obtain ⟨i, lo, hi, rfl, k⟩ := h
    have n1 := T.no "isinstance" (by decide +kernel)
    have n2 := T.no "int" (by decide +kernel)
    have n3 := T.no "bool" (by decide +kernel)
    refine ⟨_, pss_one (ps_ret (pe_and (pe_isi "int" (pv 0) n1 n2) (pe_and (pe_not (pe_isi "bool" (pv 0) n1 n3)) (pe_one (pe_chain op_le op_le (pv 1) (pv 0) (pv 2)))))), ?_⟩
    refine ⟨_, rfl, rfl, _, true, .base (.int _), kit_ty (by decide +kernel), _, rfl, iteT ?_⟩
    refine ⟨_, rfl, rfl, _, false, .base (.int _), kit_ty (by decide +kernel), _, rfl, _, rfl, iteT ?_⟩
    refine ⟨_, rfl, _, rfl, _, _, rfl, rfl, _, rfl, ?_⟩
    refine ite2 (fun h1 => ⟨_, rfl, _, _, rfl, rfl, ?_⟩) (fun h1 => ?_)
    · rw [h1, Bool.true_and] at k
      exact k
    · rw [Bool.eq_false_iff.mpr h1, Bool.false_and] at k
      exact k

/-! ### comes_up, more_of -/
/-- whether a seat of a term and a phase comes up in the year t -/
def due (t : Nat) (term phase : Nat) : Bool := decide (((t : Int) - (phase : Int)) % (term : Int) = 0)
end
end T93
-- Ld
set_option maxHeartbeats 2000000
/-! T93, part d: rules of our own: repr, len, == and != of own instances. -/
namespace T93
open PySem PySem.Spec PyProof.Rows L2
section
variable {X : Cx}
/-! ### repr of data -/
def rRepr (K : PySem.W.Frag) : List V → Hp → VK → Prop := fun xs H Q => ∃ v d, xs = [v] ∧ Dp K H v d ∧ d.showable = true ∧ d.hasDict = false ∧ d.depth ≤ 40 ∧ d.shown.length ≤ sizeLine ∧ Q (.str d.shown) H
theorem call_reprD (hg : X.A.guards = some []) (hu : X.A.units + 64 < cLine) : CallR X (.builtin "repr") (rRepr X.K) := by
  intro pins s σ H xs us Q I r h
  obtain ⟨v, d, rfl, hd, hs, hn, hp, hz, q⟩ := h
  obtain ⟨u, rfl, ru⟩ := vals1 r
  obtain ⟨as, rd⟩ := Dp.reads I d v u hd ru
  have fin : ∀ (t : Tok) (k : Nat), EP X pins σ Q (.str d.shown t) { s with toks := k } := fun t k => ⟨.str d.shown, H, I.tok k, ⟨t, rfl⟩, q⟩
  cases hd with
  | non =>
    cases (show u = Value.none from ru)
    exact PySem.P.repr_of_none (by have := fin s.toks (s.toks + 1); simpa only [PyData.shown] using this)
  | bl b =>
    cases (show u = Value.bool b from ru)
    exact PySem.P.repr_of_bool (by have := fin s.toks (s.toks + 1); simpa only [PyData.shown] using this)
  | int i =>
    obtain ⟨t, rfl⟩ := (show ∃ t, u = Value.int i t from ru)
    exact PySem.P.repr_of_int (by simpa [PyData.showable] using hs) (by have := fin s.toks (s.toks + 1); simpa only [PyData.shown] using this)
  | str x =>
    obtain ⟨t, rfl⟩ := (show ∃ t, u = Value.str x t from ru)
    exact PySem.P.repr_of_str (by have := fin s.toks (s.toks + 1); simpa only [PyData.shown] using this) (by simpa only [PyData.shown] using hz)
  | lst h1 h2 =>
    cases ru
    exact repr_of_reads' rd hs (PyData.noDict_hsm hn) hg (by omega) (fun _ _ e => e) (fun h' t tk hk => ⟨.str _, H, I.kept (t' := tk) hk, ⟨t, rfl⟩, q⟩) hz
  | tup h1 h2 =>
    cases ru
    exact repr_of_reads' rd hs (PyData.noDict_hsm hn) hg (by omega) (fun _ _ e => e) (fun h' t tk hk => ⟨.str _, H, I.kept (t' := tk) hk, ⟨t, rfl⟩, q⟩) hz

/-! ### the type of a value, looked at -/
/-- what a value's type is, to be seen at every heap that holds H -/
inductive Tl (K : PySem.W.Frag) (H : Hp) : V → Value → Prop
  | int (i : Int) : Tl K H (.int i) (.type "int")
  | lst {a : Addr} {xs : List V} (e : H a = some (.lst xs)) : Tl K H (.ref a) (.type "list")
  | ins {a C dx : Addr} {fs : List (Str × V)} (e : H a = some (.ins C dx fs)) : Tl K H (.ref a) (.ref C)
theorem Tl.looks {M : Model} {pins : List (Addr × Obj)} {σ : L2.St} {H : Hp} {s : Shared} {v : V} {u t : Value} (I : Inv X pins σ H s) (r : RelV v u) (h : Tl X.K H v t) : PySem.W.Looks M s.heap (typeOf u) t := by
  cases h with
  | int i =>
    obtain ⟨t, rfl⟩ := (show ∃ t, u = Value.int i t from r)
    exact PySem.W.Looks.of_pure rfl
  | lst e =>
    cases r
    obtain ⟨_, its, n, _, ho⟩ := I.hok _ _ e
    exact fun A Q E s k q => wpAny_typeOf_ref (k _ _ ho) q
  | ins e =>
    cases r
    obtain ⟨mA, J, _⟩ := ins_get I.hok e
    obtain ⟨od, J, _⟩ := J.look
    exact J.type

/-! ### x == y by the own __eq__ of x -/
def rOwnEq (K : PySem.W.Frag) (C : Addr) (sp : Sp) (E : XK) : R2 := fun x y H Q => ∃ a dx fs t, x = .ref a ∧ H a = some (.ins C dx fs) ∧ Tl K H y t ∧ PySem.W.notFirst K C t = true ∧ sp [x, y] H (fun v H' => ∃ b, v = .bl b ∧ Q (.bl b) H') E
variable {CX : CXT} {k : Nat} {C f : Addr} {fd : FuncData} {ps : List Str} {sp : Sp} {E : XK}
theorem op_ownEq (F : FnOk X.prog X.w X.K X.mg X.base CX k f fd ps sp) (hs : PySem.W.findIn X.K (.ref C) "__eq__" = some (some (.ref f))) (hf : PySem.W.isFn X.K (.ref f) = true) (hb : Binds X.K fd ps []) (hx : Passes CX X E) (hr : Room k X.A) :
    OpR X (compareOp .Eq) (rOwnEq X.K C sp E) := by
  intro pins s σ H x y v u Q I rx ry h
  obtain ⟨a, dx, fs, t, rfl, ha, hl, nf, h⟩ := h
  cases rx
  obtain ⟨mA, J, _⟩ := ins_get I.hok ha
  obtain ⟨od, J, _⟩ := J.look
  obtain ⟨m, hF⟩ := I.fr
  show wpAny _ _ (richCompare .Eq (.ref a) u) _ _ _
  refine PySem.W.cmp_K (op := .Eq) (tb := t) hr.units0 hF I.ok.mod.kin J (hl.looks I ry) nf hs hf ?_
  refine wpAny_mono (run_fn (us := [.ref a, u]) (vs := [.ref a, y]) F hr hb .nil hx I (.cons rfl (.cons ry .nil)) (by rw [List.append_nil]; exact h)) (fun z s' hz => ?_) fun _ _ q => q
  obtain ⟨vz, H', I', rz, b, rfl, q⟩ := hz
  cases rz
  exact ⟨.bl b, H', I', rfl, q⟩

/-! ### x != y by the own __eq__ -/
/-- a class without a base, its own __eq__ the def at f, no __ne__ -/
def neIn (K : PySem.W.Frag) (C f : Addr) : Bool := (match K.lookup C with
  | some ⟨.type "type", _, .cls cd, sl⟩ => (match cd.mro, sl.toList with
    | [.ref C', .type "object"], [_, _, _, _, some (.builtin _), _] => C' == C && !cd.hasDel && PySem.W.nsOkIn K cd.ns && PySem.W.nsIn K cd.ns "__ne__" == some none && PySem.W.nsIn K cd.ns "__eq__" == some (some (.ref f))
    | _, _ => false)
  | _ => false) && PySem.W.isFn K (.ref f)
/-- a name of a namespace that is written out -/
theorem ns_val {K : PySem.W.Frag} {h : Heap} {N : Addr} {mN : Str → Option Value} {x : Str} {v : Value} (X : K.In h) (G : h.Ns N mN) (e : PySem.W.nsIn K N x = some (some v)) : mN x = some v := by
  obtain ⟨oN, eN, pN, gN, dN, _, look⟩ := G
  cases lk : K.lookup N with
  | none => simp [PySem.W.nsIn, lk] at e
  | some oK =>
    obtain rfl : oN = oK := Option.some.inj (gN.symm.trans (X _ _ lk))
    obtain ⟨cN, dictN, dataN, slN⟩ := oN
    obtain rfl : dataN = .dict eN pN := dN
    cases fi : eN.toList.find? (·.key.isStr x) with
    | none =>
      simp only [PySem.W.nsIn, lk, fi] at e
      split at e <;> cases e
    | some en =>
      simp only [PySem.W.nsIn, lk, fi, Option.some.injEq] at e
      have q := look x
      simp only [nsFind, findBy, ← Array.find?_toList, fi, Option.map_some] at q
      rw [← q, e]
theorem ne_at {K : PySem.W.Frag} {C f : Addr} {h : Heap} (X : K.In h) (q : neIn K C f = true) {x : Addr} {o : Obj} (hx : h.get? x = some o) (hc : o.cls = .ref C) : h.OwnEqNoNe x C f "object" [.type "object"] := by
  obtain ⟨q, hf⟩ := Bool.and_eq_true_iff.mp q
  have hf' : PySem.W.typeIn K (.ref f) = some (.type "function") := beq_iff_eq.mp hf
  obtain ⟨of, hof, hcf⟩ := Option.map_eq_some_iff.mp hf'
  split at q
  · rename_i dd cd sl ho
    split at q
    · rename_i C' k0 k1 k2 k3 n k5 hm hsl
      simp only [Bool.and_eq_true, beq_iff_eq, Bool.not_eq_true'] at q
      obtain ⟨⟨⟨⟨rfl, hdel⟩, hok⟩, hne⟩, heq⟩ := q
      obtain ⟨nm, bs, mro, ns, qn, hd, sn, sub, ab, col, del⟩ := cd
      dsimp only at hm hdel hok hne heq
      subst hm hdel
      have e : sl = #[k0, k1, k2, k3, some (.builtin n), k5] := by
        obtain ⟨l⟩ := sl
        simp only at hsl
        rw [hsl]
      subst e
      have nsA : h.Ns ns (h.nsMap ns) := .of_isNs (PySem.W.isNs_of_in X hok)
      exact ⟨o, of, nm, qn, ns, bs, hd, sn, sub, ab, col, dd, k0, k1, k2, k3, k5, n, _, _, hx, hc, X _ _ ho, nsA, ns_val X nsA heq, X _ _ hof, hcf, F.cmp_object.mro, F.cmp_object.eq.lookup, PySem.W.nsMap_none_of_in X hok hne⟩
    · cases q
  · cases q
/-- a def that raises nothing, called one C level deeper -/
theorem run_in1 {pins : List (Addr × Obj)} {σ : L2.St} {H : Hp} {s : Shared} {Q : VK} {us : List Value} {vs : List V} {E2 : Value → Shared → Prop} (F : FnOk X.prog X.w X.K X.mg X.base CX0 k f fd ps sp) (hr : Room (k + 1) X.A) (hb : Binds X.K fd ps [])
    (I : Inv X pins σ H s) (r : Vals vs us) (h : sp vs H Q E0) : wpAny (model X.prog X.w) X.A.in1 (call (.ref f) us) (EP X pins σ Q) E2 s := by
  have hl : us.length = ps.length := r.length.symm.trans (F.len _ _ _ _ h)
  have b := hb s us I.kIn (by rw [List.append_nil]; exact hl)
  rw [List.append_nil] at b
  refine wpAny_call (codeAny_mono (F.run X.A.in1 X.stack s H ⟨us, []⟩ us vs Q E0 hr.in1 I.env0.in1 b r h) fun z s' hz => ?_)
  match z, hz with
  | .ok (.ret u), hz => exact I.after hz
  | .ok .next, hz => exact hz.elim
  | .ok .brk, hz => exact hz.elim
  | .ok .cont, hz => exact hz.elim
  | .error e, hz => exact hz.elim
def rOwnNe (K : PySem.W.Frag) (C : Addr) (sp : Sp) : R2 := fun x y H Q => ∃ a b dx dy fs gs, x = .ref a ∧ y = .ref b ∧ H a = some (.ins C dx fs) ∧ H b = some (.ins C dy gs) ∧ sp [x, y] H (fun v H' => ∃ b, v = .bl b ∧ Q (.bl (!b)) H') E0
theorem op_ownNe (F : FnOk X.prog X.w X.K X.mg X.base CX0 k f fd ps sp) (hn : neIn X.K C f = true) (hb : Binds X.K fd ps []) (hr : Room (k + 1) X.A) : OpR X (compareOp .NotEq) (rOwnNe X.K C sp) := by
  intro pins s σ H x y v u Q I rx ry h
  obtain ⟨a, b, dx, dy, fs, gs, rfl, rfl, ha, hb2, h⟩ := h
  cases rx
  cases ry
  obtain ⟨mA, J, _⟩ := ins_get I.hok ha
  obtain ⟨od, J, _⟩ := J.look
  obtain ⟨mB, J2, _⟩ := ins_get I.hok hb2
  obtain ⟨od2, J2, _⟩ := J2.look
  refine compareOp_ne_ownEq PySem.F.cmp_object (ne_at I.kIn hn J.1 J.2) J2.1 J2.2 (hu_of hr) ?_
  refine wpAny_mono (run_in1 (us := [.ref a, .ref b]) (vs := [.ref a, .ref b]) F hr hb I (.cons rfl (.cons rfl .nil)) h) (fun z s' hz => ?_) fun _ _ q => q
  obtain ⟨vz, H', I', rz, c, rfl, q⟩ := hz
  cases rz
  exact ⟨c, rfl, .bl (!c), H', I', rfl, q⟩

/-! ### len(x) by the own __len__ -/
def rOwnLen (C : Addr) (sp : Sp) : List V → Hp → VK → Prop := fun xs H Q => ∃ a dx fs, xs = [.ref a] ∧ H a = some (.ins C dx fs) ∧ sp [.ref a] H (fun v H' => ∃ n : Nat, v = .int n ∧ n < 2 ^ 62 ∧ Q (.int n) H') E0
theorem call_ownLen (F : FnOk X.prog X.w X.K X.mg X.base CX0 k f fd ps sp) (hs : PySem.W.findIn X.K (.ref C) "__len__" = some (some (.ref f))) (hf : PySem.W.isFn X.K (.ref f) = true) (hb : Binds X.K fd ps []) (hr : Room (k + 1) X.A) :
    CallR X (.builtin "len") (rOwnLen C sp) := by
  intro pins s σ H xs us Q I r h
  obtain ⟨a, dx, fs, rfl, ha, h⟩ := h
  obtain ⟨u, rfl, ru⟩ := vals1 r
  cases ru
  obtain ⟨mA, J, _⟩ := ins_get I.hok ha
  obtain ⟨od, J, _⟩ := J.look
  obtain ⟨m, hF⟩ := I.fr
  refine PySem.W.len_K hF I.ok.mod.kin J hs hf ?_
  refine wpAny_mono (run_in1 (us := [.ref a]) (vs := [.ref a]) F hr hb I (.cons rfl .nil) h) (fun z s' hz => ?_) fun _ _ q => q
  obtain ⟨vz, H', I', rz, n, rfl, hn, q⟩ := hz
  obtain ⟨t, rfl⟩ := rz
  exact ⟨⟨Int.natCast_nonneg n, by omega⟩, .int n, H', I'.tok _, ⟨_, rfl⟩, q⟩
end
end T93
-- Le
set_option maxHeartbeats 2000000
/-! T93, part e: zip of tuples and texts in any mix, enumerate of a tuple, as things that a loop walks. -/
namespace T93
open PySem PySem.Spec PyProof.Rows L2
/-- the items of a tuple, the signs of a text -/
inductive Src (K : PySem.W.Frag) (H : Hp) : V → List V → Prop
  | tup {a : Addr} {xs : List V} (h : SqT K H a xs) : Src K H (.ref a) xs
  | txt (z : Str) : Src K H (.str z) (z.cps.toList.map fun c => V.str ⟨#[c]⟩)
theorem Src.kp {K : PySem.W.Frag} {T : List (Addr × Str)} {b : Bool} {S : List Addr} {H H' : Hp} {v : V} {xs : List V} (k : Kp T b S H H') (h : Src K H v xs) : Src K H' v xs := by
  cases h with
  | tup h => exact .tup (SqT.kp k h)
  | txt z => exact .txt z
theorem Src.ex {K : PySem.W.Frag} {H H' : Hp} {v : V} {xs : List V} (k : Ex H H') (h : Src K H v xs) : Src K H' v xs := h.kp (T := []) (b := false) (S := []) (.of_ex k)
/-- where an iterator over it stands -/
def Pos1 (v : V) (it : Addr) (i : Nat) (h : Heap) : Prop := match v with
  | .ref a => h.IsTupleIter it a i
  | .str z => ∃ t, h.IsStrIter it (strIterType z) z t i
  | _ => False
theorem Pos1.keep {v : V} {it : Addr} {i : Nat} {h h' : Heap} (k : ∀ o, h.get? it = some o → h'.get? it = some o) (p : Pos1 v it i h) : Pos1 v it i h' := by
  cases v with
  | ref a => exact Heap.IsTupleIter.at p k
  | str z =>
    obtain ⟨t, q⟩ := p
    obtain ⟨ob, g, c, d⟩ := q
    exact ⟨t, ob, k ob g, c, d⟩
  | _ => exact p.elim
theorem Pos1.obj {v : V} {it : Addr} {i : Nat} {h : Heap} (p : Pos1 v it i h) : ∃ o, h.get? it = some o ∧ ∀ x, o.data ≠ .cell x := by
  cases v with
  | ref a =>
    obtain ⟨ob, g, c, d⟩ := p
    exact ⟨ob, g, fun x z => by rw [d] at z; cases z⟩
  | str z =>
    obtain ⟨t, ob, g, c, d⟩ := p
    exact ⟨ob, g, fun x z => by rw [d] at z; cases z⟩
  | _ => exact p.elim
/-- what such an iterator draws -/
theorem draws_of {X : Cx} {pins : List (Addr × Obj)} {σ : L2.St} {H : Hp} {s : Shared} {v : V} {xs : List V} {it : Addr} {i N : Nat} {A : Around} (hh : A.handled = none) (I : Inv X pins σ H s) (S : Src X.K H v xs) (p : Pos1 v it i s.heap)
    (hv : ∀ a : Addr, v = .ref a → a < N) (hN : N ≤ it) :
    ∃ (r : List Addr) (Pr : Nat → Value → Prop) (St : Nat → Heap → Prop), Draws X.prog X.w A it (it :: r) xs.length Pr St ∧ St i s.heap ∧ (∀ b ∈ r, b < N) ∧ (∀ j h, St j h → Pos1 v it j h) ∧ ∀ j x, Pr j x → ∃ y, xs[j]? = some y ∧ RelV y x := by
  cases S with
  | @tup a xs h =>
    obtain ⟨its, rv, q, _⟩ := I.tuple h
    have q' : s.heap.IsTuple a its.toArray := q
    have hne : a ≠ it := Nat.ne_of_lt (Nat.lt_of_lt_of_le (hv a rfl) hN)
    have D := Draws.tuple (prog := X.prog) (w := X.w) hh it a hne its.toArray
    have el : its.toArray.size = xs.length := by rw [List.size_toArray, rv.length]
    rw [el] at D
    refine ⟨[a], _, _, D, ⟨p, q'⟩, fun b hb => ?_, fun j h st => st.1, fun j x hx => ?_⟩
    · rw [List.mem_singleton.mp hb]
      exact hv a rfl
    · have hx' : its[j]? = some x := by simpa using hx
      have hj : j < xs.length := by
        rw [rv.length]
        exact (List.getElem?_eq_some_iff.mp hx').1
      obtain ⟨u, hu, ru⟩ := rv.get (List.getElem?_eq_getElem hj)
      rw [hx'] at hu
      cases hu
      exact ⟨_, List.getElem?_eq_getElem hj, ru⟩
  | txt z =>
    obtain ⟨t, p⟩ := p
    have D := Draws.text (prog := X.prog) (w := X.w) hh it z t
    have el : z.cps.size = (z.cps.toList.map fun c => V.str ⟨#[c]⟩).length := by simp
    rw [el] at D
    refine ⟨[], _, _, D, p, fun b hb => absurd hb (by simp), fun j h st => ⟨t, st⟩, fun j x hx => ?_⟩
    obtain ⟨c, u, hc, rfl⟩ := hx
    have hc' : z.cps.toList[j]? = some c := by simpa using hc
    exact ⟨.str ⟨#[c]⟩, by rw [List.getElem?_map, hc']; rfl, u, rfl⟩
/-- pairs of the items of two such things -/
def ItZ (K : PySem.W.Frag) (v1 v2 : V) (xs ys : List V) : It :=
  ⟨fun i H => i < min xs.length ys.length ∧ Src K H v1 xs ∧ Src K H v2 ys, fun i H v H' => YPair (fun i => xs[i]?) (fun i => ys[i]?) i H v H', fun i H => i = min xs.length ys.length ∧ Src K H v1 xs ∧ Src K H v2 ys⟩
theorem walk_Z {K : PySem.W.Frag} {v1 v2 : V} {xs ys : List V} : Walk (ItZ K v1 v2 xs ys) (min xs.length ys.length) (fun H => Src K H v1 xs ∧ Src K H v2 ys) (YPair (fun i => xs[i]?) (fun i => ys[i]?)) :=
  ⟨fun i H hi g => ⟨hi, g⟩, fun H g => ⟨rfl, g⟩, fun i H x H' _ _ y => y⟩
theorem mem5 {N c : Nat} (h : c ∈ [N + 4, N + 2, N + 3, N, N + 1]) : N ≤ c ∧ c < N + 5 := by
  have e : c = N + 4 ∨ c = N + 2 ∨ c = N + 3 ∨ c = N ∨ c = N + 1 := by simpa using h
  omega
def ZSt (N : Nat) (v1 v2 : V) (i : Nat) (h : Heap) : Prop := IsZip h (N + 4) (N + 2) (N + 3) .none ∧ IsTupOf2 h (N + 2) (.ref N) (.ref (N + 1)) ∧ (∃ a b, IsTupOf2 h (N + 3) a b) ∧ Pos1 v1 N i h ∧ Pos1 v2 (N + 1) i h
theorem turn_Z {P : Program} {w : World} {K : PySem.W.Frag} {elts : List Expr} {kk : Nat} {tpos : Pos} {v1 v2 : V} {xs ys : List V} {N : Nat} (h1 : ∀ a : Addr, v1 = .ref a → a < N) (h2 : ∀ a : Addr, v2 = .ref a → a < N) :
    Turn P w K (.Tuple elts kk tpos) (ItZ K v1 v2 xs ys) [N + 4, N + 2, N + 3, N, N + 1] (N + 4) (ZSt N v1 v2) where
  mem := by simp
  obj := fun i h st c hc => by
    obtain ⟨hz, hT, ⟨a, b, hO⟩, p1, p2⟩ := st
    have e : c = N + 4 ∨ c = N + 2 ∨ c = N + 3 ∨ c = N ∨ c = N + 1 := by simpa using hc
    rcases e with rfl | rfl | rfl | rfl | rfl
    · exact ⟨_, hz, fun v q => nomatch q⟩
    · exact ⟨_, hT, fun v q => nomatch q⟩
    · exact ⟨_, hO, fun v q => nomatch q⟩
    · exact p1.obj
    · exact p2.obj
  keep := fun i h h' st k => by
    obtain ⟨hz, hT, ⟨a, b, hO⟩, p1, p2⟩ := st
    exact ⟨k _ (by simp) _ hz, k _ (by simp) _ hT, ⟨a, b, k _ (by simp) _ hO⟩, p1.keep (k _ (by simp)), p2.keep (k _ (by simp))⟩
  item := by
    intro X hP hw hK hc i pins s σ H E I hf st hg
    subst hP hw hK
    obtain ⟨hz, hT, hO, p1, p2⟩ := st
    obtain ⟨hi, s1, s2⟩ := hg
    have hh : X.A.in1.handled = none := I.ok.hd hc
    obtain ⟨r1, P1, S1, D1, st1, b1, q1, g1⟩ := draws_of hh I s1 p1 h1 (Nat.le_refl _)
    obtain ⟨r2, P2, S2, D2, st2, b2, q2, g2⟩ := draws_of hh I s2 p2 h2 (Nat.le_succ _)
    have W := GoesN.zip2 (A := X.A) (elts := elts) (x1 := kk) (pos := tpos) (zip_sep2 b1 b2) D1 D2
    have lt5 : N + 4 < s.heap.objs.size := Heap.lt_size hz
    refine W.goes i s _ E hi ⟨hz, hT, hO, st1, st2⟩ fun v h' tk hY hS hk htk => ?_
    obtain ⟨T, x, y, rfl, hTn, px, py, hTt⟩ := hY
    obtain ⟨hz', hT', hO', st1', st2'⟩ := hS
    obtain ⟨a, ha, ra⟩ := g1 i x px
    obtain ⟨b, hb, rb⟩ := g2 i y py
    have new : ObjOk X.prog X.w (upd H T (.tup [a, b])) h' T (.tup [a, b]) := ⟨by show 2 ≤ sizeLine; decide, [x, y], .cons ra (.cons rb .nil), hTt⟩
    have J : Inv X pins σ (upd H T (.tup [a, b])) { s with heap := h', toks := tk } := I.turnedNew (ch := [N + 4, N + 2, N + 3, N, N + 1]) (fun c o hc e => hk c o (fun z => hc (by
        have e' : c = N + 4 ∨ c = N + 3 ∨ c = N ∨ c = N + 1 := by simpa using z
        rcases e' with rfl | rfl | rfl | rfl <;> simp)) e) hf hTn new
    refine ⟨.ref T, _, J, rfl, ⟨T, a, b, rfl, I.hok.fresh hTn, rfl, ha, hb⟩, ⟨hz', hT', hO', q1 _ _ st1', q2 _ _ st2'⟩, fun c hcm => ?_⟩
    rw [upd_ne (Nat.ne_of_lt (Nat.lt_of_lt_of_le (Nat.lt_of_lt_of_le (mem5 hcm).2 lt5) hTn))]
    exact (hf c hcm).1
  done := by
    intro X hP hw hK hc i pins s σ H E I hf st hg
    subst hP hw hK
    obtain ⟨hz, hT, hO, p1, p2⟩ := st
    obtain ⟨rfl, s1, s2⟩ := hg
    have hh : X.A.in1.handled = none := I.ok.hd hc
    obtain ⟨r1, P1, S1, D1, st1, b1, q1, g1⟩ := draws_of hh I s1 p1 h1 (Nat.le_refl _)
    obtain ⟨r2, P2, S2, D2, st2, b2, q2, g2⟩ := draws_of hh I s2 p2 h2 (Nat.le_succ _)
    have W := GoesN.zip2 (A := X.A) (elts := elts) (x1 := kk) (pos := tpos) (zip_sep2 b1 b2) D1 D2
    refine W.stops s (fun s1 => Inv X pins σ H s1) E ⟨hz, hT, hO, st1, st2⟩ fun h' tk hk htk => ?_
    exact I.turnedL (ch := [N + 4, N + 2, N + 3, N, N + 1]) (fun c o hc e => hk c o (fun z => hc (by
        have e' : c = N + 4 ∨ c = N + 3 ∨ c = N ∨ c = N + 1 := by simpa using z
        rcases e' with rfl | rfl | rfl | rfl <;> simp)) e) hf
  self := fun A i s Q E st h => wpAny_pyIter_zip st.1 h
/-- how an iterator over such a thing begins -/
theorem src_begins {X : Cx} {pins : List (Addr × Obj)} {σ : L2.St} {H : Hp} {s : Shared} {v : V} {u : Value} {xs : List V} (I : Inv X pins σ H s) (S : Src X.K H v xs) (r : RelV v u) :
    ∃ (o : Obj) (G : Heap → Prop), Begins u o G ∧ G s.heap ∧ (∀ a : Addr, v = .ref a → a < s.heap.objs.size) ∧ ∀ (h : Heap) (it : Addr), h.get? it = some o → Pos1 v it 0 h := by
  cases S with
  | @tup a xs h =>
    cases r
    obtain ⟨its, rv, q, _⟩ := I.tuple h
    have q' : s.heap.IsTuple a its.toArray := q
    refine ⟨_, _, begins_tuple a its.toArray, q', fun b e => ?_, fun h it g => ⟨_, g, rfl, rfl⟩⟩
    cases e
    exact q.lt
  | txt z =>
    obtain ⟨t, rfl⟩ := r
    exact ⟨_, _, begins_text z t, trivial, fun b e => (nomatch e), fun h it g => ⟨t, _, g, rfl, rfl⟩⟩
def iZipS (K : PySem.W.Frag) (ta : TA) : TI := fun σ H R => ta σ H fun vs H1 => ∃ v1 v2 xs ys, vs = [v1, v2] ∧ Src K H1 v1 xs ∧ Src K H1 v2 ys ∧ R (ItZ K v1 v2 xs ys) H1
/-- for .., .. in zip(e, e2) -/
theorem pi_zipS {X : Cx} {e e2 : Expr} {ta : TA} {p pos tpos : Pos} {elts : List Expr} {kk : Nat} (hm : X.mg "zip" = none) (ha : PA X [e, e2] ta) (hg : Gl X "zip" := by rfl)
    (hst : starEach [e, e2] X.env = (false, eval e X.env) :: starEach [e2] X.env := by rfl) (hpl : (backTo pos (starEach [e2] X.env)).any (·.1) = false := by rfl) :
    PI X (.Tuple elts kk tpos) (.Call (.Name "zip" p) [e, e2] [] pos) (iZipS X.K ta) := by
  refine ⟨fun pins s σ H R I h => Call_ (ld_blt I hg hm PyProof.Rows.boot_zip (PyProof.Rows.callWith_type1 (thn (ha.run pos pins s σ H _ I h) fun us s1 ⟨vs, H1, I1, r1, q1⟩ => ?_) hst hpl))⟩
  obtain ⟨v1, v2, xs, ys, rfl, s1', s2', q⟩ := q1
  obtain ⟨u1, u2, rfl, ra, rb⟩ := vals2 r1
  obtain ⟨o1, G1, B1, g1, l1, p1⟩ := src_begins I1 s1' ra
  obtain ⟨o2, G2, B2, g2, l2, p2⟩ := src_begins I1 s2' rb
  refine zip_begins2 B1 B2 g1 g2 fun h' hz hT hO e1 e2 hsz hk => wpAny_pyIter_zip hz ?_
  have I2 : Inv X pins σ H1 { s1 with heap := h' } := I1.kept (t' := s1.toks) hk
  exact ⟨s1.heap.objs.size + 4, [s1.heap.objs.size + 4, s1.heap.objs.size + 2, s1.heap.objs.size + 3, s1.heap.objs.size, s1.heap.objs.size + 1], _, _, H1, rfl, I2, turn_Z l1 l2, ⟨hz, hT, ⟨_, _, hO⟩, p1 _ _ e1, p2 _ _ e2⟩,
    fun c hc => I1.fpOk (mem5 hc).1 (I1.hok.fresh (mem5 hc).1), q⟩
/-! ### enumerate(e) -/
theorem enum_made {v : Value} {o : Obj} {G : Heap → Prop} (B : Begins v o G) :
    Meets (Builtin.«enumerate.__new__» ⟨[.type "enumerate", v], []⟩) (fun _ R s => G s.heap ∧
      R (.ok (.ret (.ref (s.heap.push o).objs.size))) { s with heap := (s.heap.push o).push { cls := .type "enumerate", data := .fields #[.none, .bool false, .ref s.heap.objs.size, rawInt 0, .none, .none] } }) :=
  .of_wp fun pg ww AA RR st hst => by
    obtain ⟨hp0, gs0, dr0, tk0, os0⟩ := st
    obtain ⟨hG, hR⟩ := hst
    have hsub := sub_enumerate
    have hit : ∀ {A' : Around} {E : Value → Shared → Prop} {Q : Value → Shared → Prop}, Q (.ref hp0.objs.size) ⟨hp0.push o, gs0, dr0, tk0, os0⟩ → wpAny (model pg ww) A' (pyIter v) Q E ⟨hp0, gs0, dr0, tk0, os0⟩ :=
      fun z => B.iter pg ww _ _ ⟨hp0, gs0, dr0, tk0, os0⟩ _ hG z
    wp_walk using hit
    refine wpAny_stack_any fun st' => wpAny_pure ?_
    split
    · rename_i c0 _ _ _ _ _
      cases (c0 == Value.type "enumerate") <;> (wp_walk using hit; exact ⟨_, rfl, hR⟩)
    · wp_walk using hit
      exact ⟨_, rfl, hR⟩
theorem call_enum1 {prog : Program} {w : World} {A : Around} {E : Value → Shared → Prop} {s : Shared} {v : Value} {o : Obj} {G : Heap → Prop} {Q : Value → Shared → Prop} (B : Begins v o G) (h1 : G s.heap)
    (h : ∀ h', IsEnum h' (s.heap.objs.size + 1) s.heap.objs.size 0 .none → h'.get? s.heap.objs.size = some o → (∀ b o, s.heap.get? b = some o → h'.get? b = some o) → Q (.ref (s.heap.objs.size + 1)) { s with heap := h' }) :
    wpAny (model prog w) A (call (.type "enumerate") [v]) Q E s := by
  refine callType_new F.called_enumerate (by decide) (F.typeCall_enumerate_1 _) (F.newCall_enumerate_1 _) (fun obj => F.args_object_init_2 obj _) F.entry_enumerate_new (enum_made B) ⟨h1, ?_⟩
  have z1 : (s.heap.push o).objs.size = s.heap.objs.size + 1 := Heap.size_push ..
  have gE := Heap.get?_push_size (s.heap.push o) (o := { cls := .type "enumerate", data := .fields #[.none, .bool false, .ref s.heap.objs.size, rawInt 0, .none, .none] }) rfl
  have gO : ((s.heap.push o).push { cls := .type "enumerate", data := .fields #[.none, .bool false, .ref s.heap.objs.size, rawInt 0, .none, .none] }).get? s.heap.objs.size = some o := Heap.get?_push_of_some _ (Heap.get?_push_size _ B.free)
  rw [z1] at gE
  show _ ∧ _
  rw [z1]
  exact ⟨⟨_, gE, rfl⟩, h _ gE gO fun b ob e => Heap.get?_push_of_some _ (Heap.get?_push_of_some _ e)⟩
def ItE (K : PySem.W.Frag) (v1 : V) (xs : List V) : It :=
  ⟨fun i H => i < xs.length ∧ Src K H v1 xs, fun i H v H' => YPair (fun i => some (.int (i : Nat))) (fun i => xs[i]?) i H v H', fun i H => i = xs.length ∧ Src K H v1 xs⟩
theorem walk_E {K : PySem.W.Frag} {v1 : V} {xs : List V} : Walk (ItE K v1 xs) xs.length (fun H => Src K H v1 xs) (YPair (fun i => some (.int (i : Nat))) (fun i => xs[i]?)) :=
  ⟨fun i H hi g => ⟨hi, g⟩, fun H g => ⟨rfl, g⟩, fun i H x H' _ _ y => y⟩
def ESt (N : Nat) (v1 : V) (i : Nat) (h : Heap) : Prop := (∃ old, IsEnum h (N + 1) N (0 + (i : Int)) old) ∧ Pos1 v1 N i h
theorem mem2 {N c : Nat} (h : c ∈ [N + 1, N]) : N ≤ c ∧ c < N + 2 := by
  have e : c = N + 1 ∨ c = N := by simpa using h
  omega
theorem turn_E {P : Program} {w : World} {K : PySem.W.Frag} {elts : List Expr} {kk : Nat} {tpos : Pos} {v1 : V} {xs : List V} {N : Nat} (h1 : ∀ a : Addr, v1 = .ref a → a < N) :
    Turn P w K (.Tuple elts kk tpos) (ItE K v1 xs) [N + 1, N] (N + 1) (ESt N v1) where
  mem := by simp
  obj := fun i h st c hc => by
    obtain ⟨⟨old, hz⟩, p1⟩ := st
    have e : c = N + 1 ∨ c = N := by simpa using hc
    rcases e with rfl | rfl
    · exact ⟨_, hz, fun v q => nomatch q⟩
    · exact p1.obj
  keep := fun i h h' st k => by
    obtain ⟨⟨old, hz⟩, p1⟩ := st
    exact ⟨⟨old, k _ (by simp) _ hz⟩, p1.keep (k _ (by simp))⟩
  item := by
    intro X hP hw hK hc i pins s σ H E I hf st hg
    subst hP hw hK
    obtain ⟨hz, p1⟩ := st
    obtain ⟨hi, s1⟩ := hg
    have hh : X.A.in1.handled = none := I.ok.hd hc
    obtain ⟨r1, P1, S1, D1, st1, b1, q1, g1⟩ := draws_of hh I s1 p1 h1 (Nat.le_refl _)
    have nm : (N + 1 : Nat) ∉ N :: r1 := fun z => by
      rcases List.mem_cons.mp z with z | z
      · exact absurd z (Nat.succ_ne_self N)
      · exact absurd (b1 _ z) (Nat.not_lt_of_le (Nat.le_succ N))
    have W := GoesN.enumFrom (A := X.A) (elts := elts) (x1 := kk) (pos := tpos) 0 D1 (N + 1) (Nat.succ_ne_self N) nm (List.mem_cons_self ..)
    obtain ⟨old, hz0⟩ := id hz
    have lt2 : N + 1 < s.heap.objs.size := Heap.lt_size hz0
    refine W.goes i s _ E hi ⟨hz, st1⟩ fun v h' tk hY hS hk htk => ?_
    obtain ⟨T, t, x, rfl, hTn, px, hTt⟩ := hY
    obtain ⟨hz', st1'⟩ := hS
    obtain ⟨a, ha, ra⟩ := g1 i x px
    have new : ObjOk X.prog X.w (upd H T (.tup [.int (i : Nat), a])) h' T (.tup [.int (i : Nat), a]) := ⟨by show 2 ≤ sizeLine; decide, [.int (0 + (i : Int)) t, x], .cons ⟨t, by rw [Int.zero_add]⟩ (.cons ra .nil), hTt⟩
    have J : Inv X pins σ (upd H T (.tup [.int (i : Nat), a])) { s with heap := h', toks := tk } := I.turnedNew (ch := [N + 1, N]) hk hf hTn new
    refine ⟨.ref T, _, J, rfl, ⟨T, .int (i : Nat), a, rfl, I.hok.fresh hTn, rfl, rfl, ha⟩, ⟨hz', q1 _ _ st1'⟩, fun c hcm => ?_⟩
    rw [upd_ne (Nat.ne_of_lt (Nat.lt_of_lt_of_le (Nat.lt_of_lt_of_le (mem2 hcm).2 lt2) hTn))]
    exact (hf c hcm).1
  done := by
    intro X hP hw hK hc i pins s σ H E I hf st hg
    subst hP hw hK
    obtain ⟨hz, p1⟩ := st
    obtain ⟨rfl, s1⟩ := hg
    have hh : X.A.in1.handled = none := I.ok.hd hc
    obtain ⟨r1, P1, S1, D1, st1, b1, q1, g1⟩ := draws_of hh I s1 p1 h1 (Nat.le_refl _)
    have nm : (N + 1 : Nat) ∉ N :: r1 := fun z => by
      rcases List.mem_cons.mp z with z | z
      · exact absurd z (Nat.succ_ne_self N)
      · exact absurd (b1 _ z) (Nat.not_lt_of_le (Nat.le_succ N))
    have W := GoesN.enumFrom (A := X.A) (elts := elts) (x1 := kk) (pos := tpos) 0 D1 (N + 1) (Nat.succ_ne_self N) nm (List.mem_cons_self ..)
    exact W.stops s (fun s1 => Inv X pins σ H s1) E ⟨hz, st1⟩ fun h' tk hk htk => I.turnedL (ch := [N + 1, N]) hk hf
  self := fun A i s Q E st h => by
    obtain ⟨old, hz⟩ := st.1
    exact wpAny_pyIter_enum hz h
def iEnumS (K : PySem.W.Frag) (ta : TA) : TI := fun σ H R => ta σ H fun vs H1 => ∃ v1 xs, vs = [v1] ∧ Src K H1 v1 xs ∧ R (ItE K v1 xs) H1
/-- for .., .. in enumerate(e), e a tuple or a text -/
theorem pi_enumS {X : Cx} {e : Expr} {ta : TA} {p pos tpos : Pos} {elts : List Expr} {kk : Nat} (hm : X.mg "enumerate" = none) (ha : PA X [e] ta) (hg : Gl X "enumerate" := by rfl)
    (hst : starEach [e] X.env = (false, eval e X.env) :: starEach [] X.env := by rfl) : PI X (.Tuple elts kk tpos) (.Call (.Name "enumerate" p) [e] [] pos) (iEnumS X.K ta) := by
  refine ⟨fun pins s σ H R I h => Call_ (ld_blt I hg hm (show bootBuiltins "enumerate" = some (.type "enumerate") by decide +kernel) (PyProof.Rows.callWith_type1 (thn (ha.run pos pins s σ H _ I h) fun us s1 ⟨vs, H1, I1, r1, q1⟩ => ?_) hst (by rfl)))⟩
  obtain ⟨v1, xs, rfl, s1', q⟩ := q1
  obtain ⟨u1, rfl, ra⟩ := vals1 r1
  obtain ⟨o1, G1, B1, g1, l1, p1⟩ := src_begins I1 s1' ra
  refine call_enum1 B1 g1 fun h' hz e1 hk => wpAny_pyIter_enum hz ?_
  have I2 : Inv X pins σ H1 { s1 with heap := h' } := I1.kept (t' := s1.toks) hk
  exact ⟨s1.heap.objs.size + 1, [s1.heap.objs.size + 1, s1.heap.objs.size], _, _, H1, rfl, I2, turn_E l1, ⟨⟨_, hz⟩, p1 _ _ e1⟩, fun c hc => I1.fpOk (mem2 hc).1 (I1.hok.fresh (mem2 hc).1), q⟩
end T93
-- Lf
set_option maxHeartbeats 2000000
/-! T93, part f: with over own __enter__ and __exit__, an exception on its way. -/
namespace T93
open PySem PySem.Spec PyProof.Rows PySem.W
section
variable {prog : Program} {w : World} {A : Around} {E EX : Value → Shared → Prop} {s : Shared} {env : Env} {K : Frag} {x C fe fx : Addr} {ox : Obj} {od : Option Obj} {pos : Pos}
/-- what is left to be done of an exception u within the with -/
def Thrown (prog : Program) (w : World) (A : Around) (E : Value → Shared → Prop) (env : Env) (x fx : Addr) (Q : Flow → Shared → Prop) (u : Value) (s' : Shared) : Prop :=
  u ≠ byPass ∧ wpAny (model prog w) A (noteFrame u env) (fun _ s1 => wpAny (model prog w) A (setFlight u none) (fun _ s2 =>
    wpAny (model prog w) A (typeOf u) (fun cv s3 => wpAny (model prog w) A (tracebackOf u) (fun tb s4 =>
      codeAny (model prog w) (A.mark (some u)) (.call (.ref fx) ⟨[.ref x, cv, u, tb], []⟩) (fun r s5 => match r with
        | .ok (.ret v) => v = .none ∧ wpAny (model prog w) A (passOn "with" u env) Q E s5
        | _ => False) s4) E s3) E s2) E s1) E s'
theorem with_core {b : Value → Sem Unit} {bdy : Sem Flow} {Q : Flow → Shared → Prop} (X : K.In s.heap) (I : InstAt s.heap x ox C od) (he : findIn K (.ref C) "__enter__" = some (some (.ref fe))) (hfe : isFn K (.ref fe) = true)
    (hx : findIn K (.ref C) "__exit__" = some (some (.ref fx))) (hfx : isFn K (.ref fx) = true)
    (h : wpAny (model prog w) A (call (.ref fe) [.ref x]) (fun v s₂ => wpAny (model prog w) A (b v) (fun _ s₃ => wpAny (model prog w) A bdy
      (fun f s₄ => wpAny (model prog w) A (call (.ref fx) [.ref x, .none, .none, .none]) (fun _ s₅ => Q f s₅) E s₄)
      (Thrown prog w A E env x fx Q) s₃) (Thrown prog w A E env x fx Q) s₂) E s) :
    wpAny (model prog w) A (withItem false pos env (pure (.ref x)) (some b) bdy) Q E s := by
  obtain ⟨cd, hcd, ae⟩ := kw_along he
  obtain ⟨cd', hcd', ax⟩ := kw_along hx
  cases hcd.symm.trans hcd'
  obtain ⟨hh, g, d, tt, os⟩ := s
  have a1 : Looks (model prog w) hh (specialOnItsLine (.ref x) "__enter__") (some (.ref fe), cd.mro) := kw_special X I hcd ae
  have a2 : Looks (model prog w) hh (specialOnItsLine (.ref x) "__exit__") (some (.ref fx), cd.mro) := kw_special X I hcd ax
  have a3 : Looks (model prog w) hh (bindSpecial (.ref fe) (.ref x)) (.ref fe, [.ref x]) := bind_fn X _ (beq_iff_eq.mp hfe)
  have a4 : Looks (model prog w) hh (bindSpecial (.ref fx) (.ref x)) (.ref fx, [.ref x]) := bind_fn X _ (beq_iff_eq.mp hfx)
  have a5 : Looks (model prog w) hh (aMethodOfAnotherBuiltinTypeStops (.ref fe) cd.mro) () := Looks.of_pure rfl
  have a6 : Looks (model prog w) hh (aMethodOfAnotherBuiltinTypeStops (.ref fx) cd.mro) () := Looks.of_pure rfl
  unfold withItem
  refine wpAny_bind (wpAny_pure (wpAny_bind (wpAny_standAt ?_)))
  simp only [Bool.false_eq_true, if_false]
  kw_lk
  refine wpAny_mono h (fun v s₂ h₂ => ?_) fun _ _ z => z
  kw_lk
  refine wpAny_attempt (kw_held ?_)
  show wpAny _ _ (b v >>= fun _ => bdy) _ _ _
  have bad : ∀ (u : Value) (s' : Shared), Thrown prog w A E env x fx Q u s' → wpAny (model prog w) A (do
      noteFrame u env
      setFlight u none
      standAt pos
      holding [u] do
      let r ← withItem.marked u (.call (.ref fx) ⟨[.ref x] ++ [← typeOf u, u, ← tracebackOf u], []⟩)
      let swallow ← match r with
        | .none => pure false
        | .bool b => pure b
        | _ => do pure ((← withItem.marked u (.call (.type "bool") ⟨[r], []⟩)) == .bool true)
      if swallow then rule "with.exit-swallows"; setFlight u none; pure .next else passOn "with" u env) Q E s' := by
    intro u s' ⟨nb, z⟩
    refine wpAny_bind (wpAny_mono z (fun _ s1 z1 => ?_) fun _ _ e => e)
    refine wpAny_bind (wpAny_mono z1 (fun _ s2 z2 => ?_) fun _ _ e => e)
    refine wpAny_bind (wpAny_standAt (wpAny_holding ?_))
    refine wpAny_bind (wpAny_mono z2 (fun cv s3 z3 => ?_) fun _ _ e => e)
    refine wpAny_bind (wpAny_mono z3 (fun tb s4 z4 => ?_) fun _ _ e => e)
    unfold withItem.marked
    refine wpAny_bind (wpAny_bind (wpAny_run (codeAny_mono z4 fun r s5 z5 => ?_) (fun q => nb (Option.some.inj q))))
    cases r with
    | error e => exact z5.elim
    | ok fl =>
      cases fl with
      | ret v =>
        obtain ⟨rfl, z6⟩ := z5
        exact wpAny_pure (wpAny_bind (wpAny_pure z6))
      | next => exact z5.elim
      | brk => exact z5.elim
      | cont => exact z5.elim
  refine wpAny_bind (wpAny_mono h₂ (fun _ s₃ h₃ => wpAny_mono h₃ (fun f s₄ h₄ => ?_) fun u s₄ h₄ => ?_) fun u s₃ h₃ => ?_)
  · kw_lk
    refine wpAny_mono h₄ (fun _ s₅ h₅ => ?_) fun _ _ z => z
    kw_lk
    exact h₅
  · exact bad u s₄ h₄
  · exact bad u s₃ h₃
end
end T93
namespace T93
open PySem PySem.Spec PyProof.Rows L2
section
variable {P : Program} {w : World} {K : PySem.W.Frag} {mg : Str → Option Value} {base : Heap}
/-! ### a def that is called while an exception is handled -/
structure FnG (P : Program) (w : World) (K : PySem.W.Frag) (mg : Str → Option Value) (base : Heap) (k : Nat) (f : Addr) (sp : Sp) : Prop where
  go : ∀ (A : Around) (outer : List Env) (s : Shared) (H : Hp) (us : List Value) (vs : List V) (Q : VK) (p : Addr × Obj), L2H.RoomH k A → L2H.PinOk outer H s p → Env0 P w K mg base A outer s H → Vals vs us → sp vs H Q E0 →
    codeAny (model P w) A (.call (.ref f) ⟨us, []⟩) (CR CX0 outer P w H s Q E0) s
theorem FnG.of {k : Nat} {f : Addr} {name qual : Str} {st : Stmt} {fd : FuncData} {N ps : List Str} {sp : Sp} (F : Fun K name qual st f fd) (S : FnScope N ps (defScope st))
    (hb : ∀ (kV doc pm : Value) (an : Option Addr) (cdv ct : Value) (us : List Value), us.length = ps.length → bindArgs (PySem.W.fnOf name qual (defArgs st) (defBody st) (defScope st) .none kV doc pm an cdv ct) ⟨us, []⟩ = pure (ps.zip us))
    (len : ∀ vs H Q E, sp vs H Q E → vs.length = ps.length)
    (hbody : ∀ (cdv : Value) (A : Around) (outer : List Env) (s : Shared) (H : Hp) (vs : List V) (Q : VK) (p : Addr × Obj), sp vs H Q E0 →
      ∃ t, PSs (L2H.cxH CX0 P w K mg base N qual (defScope st) f cdv A outer s H E0 p) (defBody st) t ∧ t { nx := fun _ H' => Q .non H', rt := Q } (start N vs) H) : FnG P w K mg base (k + 1) f sp := by
  obtain ⟨oc, od, kV, doc, pm, an, cdv, ct, osl, rfl, lk, hcd⟩ := F.ex
  refine ⟨fun A outer s H us vs Q p hr hpin e0 r hsp => ?_⟩
  have hl := len _ _ _ _ hsp
  have kin : K.In s.heap := e0.mod.kin.keeps fun b o e => (e0.bs b o e).1
  have nol : s.heap.NoLimit := e0.mod.nolimit.keeps fun b o e => (e0.bs b o e).1
  have hk : ∀ y ∈ ps.zip us, (defScope st).names.lookup y.1 = some .local ∨ ((defScope st).names.lookup y.1 = some .cell ∧ ((cellsFrom (s.heap.objs.size + 1) (defScope st).names []).lookup y.1).isSome = true) := fun ⟨n, v⟩ hy =>
    (S.par n (List.of_mem_zip hy).1).elim .inl fun q => .inr ⟨q, PySem.W.cellsFrom_some _ _ _ (.inl q)⟩
  refine codeAny_call_function hr.depth (kin _ _ lk) rfl S.co S.gen rfl (PySem.W.codeRec_of kin hcd) ?_
  rw [hb kV doc pm an cdv ct us (by rw [← r.length]; exact hl)]
  refine wpAny_pure (wpAny_newFunctionEnv_cells S.kind hk fun env he s1 x => ?_)
  subst he
  refine ⟨nol.keeps x.toInCall.keep, codeAny_func ?_⟩
  obtain ⟨t, ht, hq⟩ := hbody cdv A outer s H vs Q p hsp
  have I : Inv (L2H.cxH CX0 P w K mg base N qual (defScope st) f cdv A outer s H E0 p) [] (start N vs) H s1 := L2H.inv_startH S hpin e0 hl r x
  refine wpAny_mono (ht.run [] s1 (start N vs) H _ I hq) (fun fl s' hs => ?_) fun e s' hs => hs
  cases fl with
  | ret u =>
    obtain ⟨v, σ', H', J, rv, q⟩ := hs
    exact ⟨v, H', J.os, J.bare, J.base, J.hok, rv, q⟩
  | next =>
    obtain ⟨σ', H', J, q⟩ := hs
    exact ⟨.non, H', J.os, J.bare, J.base, J.hok, rfl, q⟩
  | brk =>
    obtain ⟨_, _, _, q⟩ := hs
    exact q.elim
  | cont =>
    obtain ⟨_, _, _, q⟩ := hs
    exact q.elim
end

/-! ### the with -/
/-- what is wished of an exception within it -/
def wWith (spX : Sp) (a : Addr) (Wout : WX) : WX := fun cls d σ H => ∃ C : Addr, cls = Value.ref C ∧ ∀ (e : Addr) (t : V), spX [V.ref a, V.ref C, V.ref e, t] H (fun v H' => v = V.non ∧ Wout cls d σ H') E0
def tWith (C : Addr) (i : Nat) (spE spX : Sp) (tc : TE) (tb : WX → TS) (Wout : WX) : TS := fun D σ H => tc σ H fun v H1 => ∃ a dx fs, v = .ref a ∧ H1 a = some (.ins C dx fs) ∧
  spE [.ref a] H1 (fun g H2 => tb (wWith spX a Wout) { nx := fun σ3 H3 => spX [.ref a, .non, .non, .non] H3 (fun _ H4 => D.nx σ3 H4) E0, rt := fun _ _ => False } (σ.set i (some g)) H2) E0
section
variable {X : Cx} {ctx : Expr} {y : Str} {py pos : Pos} {i k : Nat} {body : List Stmt} {tc : TE} {tb : WX → TS} {C fe fx : Addr} {fde fdx : FuncData} {pe px : List Str} {spE spX : Sp} {Wout : WX}
theorem with_exc {pins : List (Addr × Obj)} {x : Addr} {u : Value} {s' : Shared} {Q : Flow → Shared → Prop} (hs : X.stack = X.env :: X.outer) (hf : X.env.frame = some X.env.locals) (hex : X.ex = []) (ok : X.Ok) (tk : Takes X Wout) (hr : Room k X.A)
    (G : FnG X.prog X.w X.K X.mg X.base k fx spX) (xx : XE (X.tr (X.pn ++ pins) (Thrown X.prog X.w X.A X.xe X.env x fx Q)) (wWith spX x Wout) u s') : Thrown X.prog X.w X.A X.xe X.env x fx Q u s' := by
  have hfr : X.A.frames = some (X.env :: X.outer) := by rw [ok.frames, hs]
  obtain ⟨e, B, sI, pins', σ', H', cls, d, rfl, J', nb, up, sky, na, os, ag, Ce, rfl, hw⟩ := xx
  have J : Inv X pins σ' H' sI := J'.ofTry ok
  have sky' : Sky B (X.env :: X.outer) e (Zc (.ref Ce) d) X.env.locals s'.heap := by rw [← hs]; exact sky
  refine ⟨ref_ne_byPass e, Sky.land Zc.steady hfr hf sky' fun h3 fl3 up3 => ?_⟩
  have J3 : Inv X pins σ' H' { s' with heap := h3 } := J.landed nb fl3.1 (up.trans up3) os ag
  obtain ⟨k1, k2, k3, oe, vs, T, oT, ts, he3, hz, hd, hv1, hnT, hTe, hT, hdT, ht3⟩ := id fl3
  have nT : H' T = none := (J.inGround nb).gone hnT
  have notFr : ∀ (b : Addr) (o : Obj) (fv : Array Value), h3.get? b = some o → o.data = .fields fv → b ∉ frs (X.env :: X.outer) := fun b o fv q dd hm => by
    obtain ⟨_, o', e', hnf⟩ := k3.mem hm
    rw [q] at e'
    cases e'
    exact hnf _ dd
  have locF : X.env.locals ∈ frs (X.env :: X.outer) := List.mem_filterMap.mpr ⟨X.env, List.mem_cons_self, hf⟩
  have fsF : ∀ b ∈ X.fs, b ∈ frs (X.env :: X.outer) := fun b hm => by
    obtain ⟨v, hv, q⟩ := List.mem_filterMap.mp hm
    exact List.mem_filterMap.mpr ⟨v, List.mem_cons_of_mem _ hv, q⟩
  have fa := notFr e oe vs he3 hd
  have fT := notFr T oT ts hT hdT
  have pinOk : ∀ (b : Addr) (o : Obj) (fv : Array Value), h3.get? b = some o → o.data = .fields fv → H' b = none → b ∉ frs (X.env :: X.outer) → h3.get? b = some o ∧ H' b = none ∧ b ≠ X.env.locals ∧ b ∉ X.fs ∧ ∀ v, o.data ≠ .cell v :=
    fun b o fv q dd n nf => ⟨q, n, fun z => nf (by rw [z]; exact locF), fun z => nf (fsF _ z), fun v z => by rw [dd] at z; cases z⟩
  have S3 : Inv (X.suite e ((e, oe) :: (T, oT) :: (X.pn ++ pins))) [] σ' H' { s' with heap := h3 } :=
    ⟨J3.ok.suite _ _, J3.os, J3.bare, J3.base, J3.loc, J3.cell, J3.free, J3.freeC, fun p hp => by
      rw [List.append_nil] at hp
      rcases List.mem_cons.mp hp with z | hp
      · rw [z]
        exact pinOk e oe vs he3 hd na fa
      · rcases List.mem_cons.mp hp with z | hp
        · rw [z]
          exact pinOk T oT ts hT hdT nT fT
        · exact J3.pin p hp, J3.hok, J3.len⟩
  refine wpAny_typeOf_ref he3 ?_
  rw [hz.1]
  unfold tracebackOf
  refine wpAny_bind (wpAny_field he3 hd hv1 ?_)
  have h1s : 1 < ts.size := by
    have := (Array.getElem?_eq_some_iff.mp ht3).1
    omega
  have main : ∀ (tv : V) (tu : Value), RelV tv tu → codeAny (model X.prog X.w) (X.A.mark (some (.ref e))) (.call (.ref fx) ⟨[.ref x, .ref Ce, .ref e, tu], []⟩) (fun r s5 => match r with
      | .ok (.ret v) => v = .none ∧ wpAny (model X.prog X.w) X.A (PySem.passOn "with" (.ref e) X.env) Q X.xe s5
      | _ => False) { s' with heap := h3 } := fun tv tu rt => by
    refine codeAny_mono (G.go (X.A.mark (some (.ref e))) X.stack { s' with heap := h3 } H' _ [.ref x, .ref Ce, .ref e, tv] _ (e, oe) ⟨hr.dp, hr.un⟩ ⟨he3, na, by rw [hs]; exact fa, fun v z => by
      have z : oe.data = .cell v := z
      rw [hd] at z
      cases z⟩ S3.env0 (.cons rfl (.cons rfl (.cons rfl (.cons rt .nil)))) (hw e tv)) fun r s6 hq => ?_
    cases r with
    | error e => exact False.elim hq
    | ok fl =>
      cases fl with
      | next => exact False.elim hq
      | brk => exact False.elim hq
      | cont => exact False.elim hq
      | ret u =>
        obtain ⟨v6, H6, S6, r6, rfl, q6⟩ := S3.after hq
        cases r6
        refine ⟨rfl, ?_⟩
        have J6 : Inv X pins σ' H6 s6 := ⟨ok, S6.os, S6.bare, S6.base, S6.loc, S6.cell, S6.free, S6.freeC, fun p hp => S6.pin p (List.mem_append_left _ (List.mem_cons_of_mem _ (List.mem_cons_of_mem _ hp))), S6.hok, S6.len⟩
        have pa := S6.pin (e, oe) (List.mem_append_left _ List.mem_cons_self)
        have pT := S6.pin (T, oT) (List.mem_append_left _ (List.mem_cons_of_mem _ List.mem_cons_self))
        have ga : s6.heap.get? e = some oe := pa.1
        have gT : s6.heap.get? T = some oT := pT.1
        have far : ∀ b o, sI.heap.get? b = some o → b ≠ e ∧ b ≠ T := fun b o q => by
          by_cases hb : b ∈ frs X.stack
          · rw [hs] at hb
            exact ⟨fun z => fa (by rw [← z]; exact hb), fun z => fT (by rw [← z]; exact hb)⟩
          · have q2 := nb b o q hb
            exact ⟨fun z => (by rw [z, k2] at q2; cases q2), fun z => (by rw [z, hnT] at q2; cases q2)⟩
        have far0 : ∀ b o, X.s_0.heap.get? b = some o → b ≠ e ∧ b ≠ T := fun b o q => by
          obtain ⟨o', q2⟩ := J.base.there b o q (by rw [hex]; simp)
          exact far b o' q2
        have farP : ∀ p ∈ X.pn ++ pins, p.1 ≠ e ∧ p.1 ≠ T := fun p hp => far p.1 p.2 (J.pin p hp).1
        obtain ⟨G, g1, g2⟩ := restrict s6.heap fun b => !(decide (b = e) || decide (b = T))
        have gIn : ∀ b o, G.get? b = some o → s6.heap.get? b = some o ∧ b ≠ e ∧ b ≠ T := fun b o q => by
          by_cases h : b = e ∨ b = T
          · rw [g2 b (by rcases h with h | h <;> simp [h])] at q
            cases q
          · rw [g1 b (by rw [not_or] at h; simp [h.1, h.2])] at q
            exact ⟨q, fun z => h (.inl z), fun z => h (.inr z)⟩
        have gOf : ∀ b o, b ≠ e → b ≠ T → s6.heap.get? b = some o → G.get? b = some o := fun b o h1 h2 q => (g1 b (by simp [h1, h2])).trans q
        have I6 : Inv X pins σ' H6 { s6 with heap := G } := Inv.less J6 (fun b o q => (gIn b o q).1) gOf ⟨oe, vs, ga, hd⟩ ⟨oT, ts, gT, hdT⟩ pa.2.1 pT.2.1 far0 farP
        have gone : ∀ b, (b = e ∨ b = T) → (PySem.W.hideAll G (frs X.stack)).get? b = none := fun b hb => by
          cases q : (PySem.W.hideAll G (frs X.stack)).get? b with
          | none => rfl
          | some o =>
            obtain ⟨_, n1, n2⟩ := gIn b o (PySem.W.of_hideAll _ q)
            exact (hb.elim n1 n2).elim
        have fl6 : HandSPX.FlyingZ (PySem.W.hideAll G (frs X.stack)) (X.env :: X.outer) e (Zc (.ref Ce) d) s6.heap := by
          refine ⟨fun b o q => (gIn b o (PySem.W.of_hideAll _ q)).1, gone e (.inl rfl), ?_, oe, vs, T, oT, ts, ga, hz, hd, hv1, gone T (.inr rfl), hTe, gT, hdT, ht3⟩
          rw [← hs]
          exact funFrames_none (B := PySem.W.hideAll G (frs X.stack)) J6.stack fun b hb => PySem.W.hideAll_none _ hb
        unfold PySem.passOn
        refine wpAny_bind (wpAny_field ga hd hv1 ?_)
        rw [if_neg (show ¬ ((Value.ref T == Value.none) = true) from by simp)]
        have fin : wpAny (model X.prog X.w) X.A (setFlight (.ref e) X.env.frame) (fun _ s7 => wpAny (model X.prog X.w) X.A (throw (.ref e) : Sem Flow) Q X.xe s7) X.xe s6 := by
          rw [hf]
          refine HandSPX.setFlight_upZ fl6 fun h7 hh7 up7 => wpAny_throw (tk _ _ ?_)
          exact ⟨e, PySem.W.hideAll G (frs X.stack), { s6 with heap := G }, pins, σ', H6, .ref Ce, d, rfl, I6, fun b o q hb => PySem.W.hideAll_get _ q hb, (Heap.UpToSlots.of_keeps fun b o q => (gIn b o q).1).trans up7, .inr (.inr (by rw [← hs] at hh7; exact hh7)), pa.2.1, rfl, J6.bare, q6⟩
        first
          | exact wpAny_bind (wpAny_pure (wpAny_bind fin))
          | exact wpAny_bind fin
  dsimp only
  refine wpAny_bind (wpAny_field hT hdT (Array.getElem?_eq_getElem h1s) ?_)
  split
  · exact wpAny_pure (main .non .none rfl)
  · exact wpAny_pure (main (.ref T) (.ref T) rfl)
theorem ps_with (hs : X.stack = X.env :: X.outer) (hf : X.env.frame = some X.env.locals) (hex : X.ex = []) (tk : Takes X Wout) (hr : Room k X.A) (hN : X.N.Nodup) (hi : X.N[i]? = some y) (hl : X.env.scope.names.lookup y = some .local)
    (hctx : PE X ctx tc) (Fe : FnOk X.prog X.w X.K X.mg X.base CX0 k fe fde pe spE) (hbe : Binds X.K fde pe []) (Fx : FnOk X.prog X.w X.K X.mg X.base CX0 k fx fdx px spX) (hbx : Binds X.K fdx px []) (G : FnG X.prog X.w X.K X.mg X.base k fx spX)
    (he : PySem.W.findIn X.K (.ref C) "__enter__" = some (some (.ref fe))) (hfe : PySem.W.isFn X.K (.ref fe) = true) (hx : PySem.W.findIn X.K (.ref C) "__exit__" = some (some (.ref fx))) (hfx : PySem.W.isFn X.K (.ref fx) = true)
    (hb : ∀ (W : WX) (pn : List (Addr × Obj)) (xe : Value → Shared → Prop), Takes (X.tr pn xe) W → PSs (X.tr pn xe) body (tb W)) : PS X (.With [⟨ctx, some (.Name y py)⟩] body pos) (tWith C i spE spX tc tb Wout) := by
  refine ⟨fun pins s σ H D I h => ?_⟩
  have ok := I.ok
  refine PySem.W.kw_execN (thn (hctx.run pins s σ H _ I h) fun u s1 ⟨v, H1, I1, r1, a, dx, fs, ev, ea, q⟩ => ?_)
  subst ev
  cases r1
  obtain ⟨mA, J, _⟩ := ins_get I1.hok ea
  obtain ⟨od, J, _⟩ := J.look
  unfold PySem.W.KwIn
  refine with_core (K := X.K) (C := C) I1.kIn J he hfe hx hfx ?_
  refine wpAny_mono (run_fn Fe hr hbe .nil pass0 I1 (us := [.ref a]) (vs := [.ref a]) (.cons rfl .nil) q) (fun z s2 hz => ?_) fun _ _ e => e
  obtain ⟨v2, H2, I2, r2, q2⟩ := hz
  refine wpAny_assign_Name (store_ok I2 hN hi (.inl hl) r2 (fun s3 I3 => ?_) (.inr hl))
  refine wpAny_mono ((hb (wWith spX a Wout) (X.pn ++ pins) (Thrown X.prog X.w X.A X.xe X.env a fx (SP X pins D)) fun u s' xx => with_exc hs hf hex ok tk hr G xx).run [] s3 _ H2 _ (I3.toTry _) q2) (fun f s4 hsp => ?_) fun _ _ e => e
  cases f with
  | next =>
    obtain ⟨σ4, H4, J4, q4⟩ := hsp
    refine wpAny_mono (run_fn Fx hr hbx .nil pass0 (J4.ofTry ok) (us := [.ref a, .none, .none, .none]) (vs := [.ref a, .non, .non, .non]) (.cons rfl (.cons rfl (.cons rfl (.cons rfl .nil)))) q4) (fun z s5 hz => ?_) fun _ _ e => e
    obtain ⟨v5, H5, I5, r5, q5⟩ := hz
    exact ⟨σ4, H5, I5, q5⟩
  | brk =>
    obtain ⟨_, _, _, q⟩ := hsp
    exact q.elim
  | cont =>
    obtain ⟨_, _, _, q⟩ := hsp
    exact q.elim
  | ret u =>
    obtain ⟨_, _, _, _, _, q⟩ := hsp
    exact q.elim
end
end T93
-- Lg
set_option maxHeartbeats 2000000
/-! T93, part g: defs that know that no repr is under way; a lambda with a parameter; under. -/
namespace T93
open PySem PySem.Spec PyProof.Rows L2 LamX NdefX
/-! ### promises where no repr is under way -/
structure FnZ (P : Program) (w : World) (K : PySem.W.Frag) (mg : Str → Option Value) (base : Heap) (CX : CXT) (k : Nat) (f : Addr) (fd : FuncData) (ps : List Str) (sp : Sp) : Prop where
  len : ∀ vs H Q E, sp vs H Q E → vs.length = ps.length
  run : ∀ (A : Around) (outer : List Env) (s : Shared) (H : Hp) (args : Args) (us : List Value) (vs : List V) (Q : VK) (E : XK), Room k A → A.guards = some [] → Env0 P w K mg base A outer s H →
    BindsTo s fd args (ps.zip us) → Vals vs us → sp vs H Q E → codeAny (model P w) A (.call (.ref f) args) (CR CX outer P w H s Q E) s
structure GZ (P : Program) (w : World) (K : PySem.W.Frag) (mg : Str → Option Value) (base : Heap) (CX : CXT) (k : Nat) (x : Str) (ps : List Str) (sp : Sp) : Prop where
  ex : ∃ f fd, FnZ P w K mg base CX k f fd ps sp ∧ mg x = some (.ref f) ∧ PySem.W.keepIn K (.ref f) = true ∧ Binds K fd ps []
section
variable {P : Program} {w : World} {K : PySem.W.Frag} {mg : Str → Option Value} {base : Heap} {CX : CXT} {j k : Nat} {f : Addr} {fd : FuncData} {x : Str} {st : Stmt} {N ps : List Str} {sp : Sp}
theorem fn_z (F : FnOk P w K mg base CX k f fd ps sp) : FnZ P w K mg base CX k f fd ps sp := ⟨F.len, fun A outer s H args us vs Q E hr _ => F.run A outer s H args us vs Q E hr⟩
theorem GOk.z (G : GOk P w K mg base CX k x ps sp) : GZ P w K mg base CX k x ps sp := by
  obtain ⟨f, fd, F, g⟩ := G.ex
  exact ⟨f, fd, fn_z F, g⟩
theorem FnZ.mono (F : FnZ P w K mg base CX j f fd ps sp) (h : j ≤ k) : FnZ P w K mg base CX k f fd ps sp := ⟨F.len, fun A outer s H args us vs Q E hr => F.run A outer s H args us vs Q E (hr.mono h)⟩
/-- a def by its body -/
theorem gz (D : Df K mg x st) (S : FnScope N ps (defScope st))
    (hb : ∀ (kV doc pm : Value) (an : Option Addr) (cdv ct : Value) (us : List Value), us.length = ps.length → bindArgs (PySem.W.fnOf x x (defArgs st) (defBody st) (defScope st) .none kV doc pm an cdv ct) ⟨us, []⟩ = pure (ps.zip us))
    (len : ∀ vs H Q E, sp vs H Q E → vs.length = ps.length)
    (hbody : ∀ (f : Addr) (cdv : Value) (A : Around) (outer : List Env) (s : Shared) (H : Hp) (vs : List V) (Q : VK) (E : XK), Room k (A.deeper (envOfC x (defScope st) s.heap.objs.size f cdv)) → A.guards = some [] → sp vs H Q E →
      ∃ t, PSs (cxOf CX P w K mg base N x (defScope st) f cdv A outer s H E) (defBody st) t ∧ t { nx := fun _ H' => Q .non H', rt := Q } (start N vs) H) : GZ P w K mg base CX (k + 1) x ps sp := by
  obtain ⟨f, fd, F, g⟩ := D.ex
  have b := F.binds hb
  obtain ⟨oc, od, kV, doc, pm, an, cdv, ct, osl, rfl, lk, hcd⟩ := F.ex
  exact ⟨f, _, ⟨len, fun A outer s H args us vs Q E hr hg e0 hbd r hsp => run_ofS lk hcd S hr e0 hbd r (len _ _ _ _ hsp) fun hr' => hbody f cdv A outer s H vs Q E hr' hg hsp⟩, g, F.kp, b⟩
end
section
variable {X : Cx} {CX : CXT} {j k : Nat} {f : Addr} {fd : FuncData} {ps : List Str} {sp : Sp} {E : L2.St → XK} {x : Str} {e : Expr} {es : List Expr} {t : TA} {p pos : Pos}
theorem run_z {pins : List (Addr × Obj)} {σ : L2.St} {H : Hp} {s : Shared} {Q : VK} {us : List Value} {vs : List V} (F : FnZ X.prog X.w X.K X.mg X.base CX k f fd ps sp) (hr : Room k X.A) (hg : X.A.guards = some []) (hb : Binds X.K fd ps []) (hx : PassesAt CX X σ (E σ))
    (I : L2.Inv X pins σ H s) (r : Vals vs us) (h : sp vs H Q (E σ)) : wpAny (model X.prog X.w) X.A (call (.ref f) us) (EP X pins σ Q) X.xe s := by
  have hl : us.length = ps.length := r.length.symm.trans (F.len _ _ _ _ h)
  have b := hb s us I.kIn (by rw [List.append_nil]; exact hl)
  rw [List.append_nil] at b
  refine wpAny_call (codeAny_mono (F.run X.A X.stack s H ⟨us, []⟩ us vs Q (E σ) hr hg I.env0 b r h) fun z s' hz => ?_)
  match z, hz with
  | .ok (.ret u), hz => exact I.after hz
  | .ok .next, hz => exact hz.elim
  | .ok .brk, hz => exact hz.elim
  | .ok .cont, hz => exact hz.elim
  | .error e, hz => exact hx pins H s e s' I hz
/-- f(e, ..) by name -/
theorem pe_zS (G : GZ X.prog X.w X.K X.mg X.base CX k x ps sp) (hr : Room j X.A) (gd : X.A.guards = some []) (hx : ∀ σ, PassesAt CX X σ (E σ)) (ha : PA X (e :: es) t) (hk : k ≤ j := by decide) (hg : Gl X x := by rfl) (hdb : (x == ("__debug__" : Str)) = false := by decide)
    (he : starEach (e :: es) X.env = (false, eval e X.env) :: starEach es X.env := by rfl) (hpl : (backTo pos (starEach es X.env)).any (·.1) = false := by rfl) : PE X (.Call (.Name x p) (e :: es) [] pos) (tCallS sp E t) := by
  obtain ⟨f, fd, F, g, kp, b⟩ := G.ex
  refine ⟨fun pins s σ H Q I h => wpAny_Call_Name_kw (ld_glob I hg g ?_ hdb)⟩
  refine PySem.W.callWith_K (h₀ := X.base) I.ok.mod.kin kp (thn (ha.run pos pins s σ H _ I h) fun us s1 ⟨vs, H1, I1, r, q⟩ => ⟨I1.kIn, ?_⟩) he hpl
  exact run_z F (hr.mono hk) gd b (hx σ) I1 r q
theorem at0 {σ : L2.St} : PassesAt CX0 X σ E0 := fun _ _ _ _ _ _ h => h.elim
theorem atL {σ : L2.St} : PassesAt (L2.CX X.prog X.w) X σ E0 := fun pins H s e s' I h => passL pins σ H s e s' I h
/-- .. that raises nothing -/
theorem pe_z (G : GZ X.prog X.w X.K X.mg X.base CX k x ps sp) (hr : Room j X.A) (gd : X.A.guards = some []) (hx : ∀ σ, PassesAt CX X σ E0) (ha : PA X (e :: es) t) (hk : k ≤ j := by decide) (hg : Gl X x := by rfl) (hdb : (x == ("__debug__" : Str)) = false := by decide)
    (he : starEach (e :: es) X.env = (false, eval e X.env) :: starEach es X.env := by rfl) (hpl : (backTo pos (starEach es X.env)).any (·.1) = false := by rfl) : PE X (.Call (.Name x p) (e :: es) [] pos) (tCallS sp (fun _ => E0) t) := pe_zS G hr gd hx ha hk hg hdb he hpl
end
/-! ### a lambda with one parameter, called -/
abbrev lamF (q : Str) (params : Arguments) (scope : Scope) (cl : List (Str × Addr)) (c' : Addr) : NF := ⟨"<lambda>", q, params, [], scope, cl, c'⟩
section
variable {X : Cx} {pins : List (Addr × Obj)} {σ : L2.St} {H : Hp} {s : Shared} {g f c' : Addr} {cdg : Value} {E E2 : XK} {W : WX} {q y : Str} {params : Arguments} {body : Expr} {scope : Scope} {cl : List (Str × Addr)} {fr N : List Str} {ws : List (Option V)} {pm ctv : Value}
  {k : Nat} {tb : TE} {p1 p2 p3 : Pos} {pn : List (Addr × Obj)} {xe : Value → Shared → Prop} {Nu : List Str} {sg : Scope} {xg a b : Str} {ia ib : Nat}
theorem pe_deed (C : CellsAt cl fr ws s.heap H) (nfs : ∀ y c, cl.lookup y = some c → c ∉ frs X.stack) (hf : s.heap.get? f = some (PySem.W.kla_obj "<lambda>" q params body scope cl pm c' ctv)) (hfn : H f = none) (hfr : f ∉ frs X.stack)
    (S : NScope N [y] fr scope) (hbind : ∀ u : Value, bindArgs (PySem.W.kla_fn "<lambda>" q params body scope cl pm (.ref c') ctv) ⟨[u], []⟩ = pure [(y, u)])
    (tk : Takes ((cxOf (L2.CX X.prog X.w) X.prog X.w X.K X.mg X.base Nu xg sg g cdg X.A X.stack s H E).tr pn xe) W) (hW : ∀ cls d σ' H', E2 cls d H' → W cls d σ' H') (hr : Room (k + 1) (X.A.deeper (envOfC xg sg s.heap.objs.size g cdg)))
    (hbody : ∀ (A : Around) (outer : List Env) (s' : Shared) (H' : Hp), Room k (A.deeper (envF (lamF q params scope cl c') f s'.heap.objs.size)) → A.guards = X.A.guards → PE (ncx (L2.CX X.prog X.w) X.prog X.w X.K X.mg X.base N (lamF q params scope cl c') f A outer s' H' E2) body tb)
    (h1 : PE ((cxOf (L2.CX X.prog X.w) X.prog X.w X.K X.mg X.base Nu xg sg g cdg X.A X.stack s H E).tr pn xe) (.Name a p1) (tVar ia))
    (h2 : PE ((cxOf (L2.CX X.prog X.w) X.prog X.w X.K X.mg X.base Nu xg sg g cdg X.A X.stack s H E).tr pn xe) (.Name b p2) (tVar ib)) :
    PE ((cxOf (L2.CX X.prog X.w) X.prog X.w X.K X.mg X.base Nu xg sg g cdg X.A X.stack s H E).tr pn xe) (.Call (.Name a p1) [.Name b p2] [] p3)
      (fun σZ HZ Q => ∃ v, σZ[ia]? = some (some (.ref f)) ∧ σZ[ib]? = some (some v) ∧ HZ c' = some (CodeO c' q) ∧ tb (startF N [v] ws) HZ Q) := by
  refine ⟨fun pinsZ sZ σZ HZ Q IZ h => ?_⟩
  obtain ⟨v, e1, e2, hc, ht⟩ := h
  refine wpAny_Call_Name_kw (thn (h1.run pinsZ sZ σZ HZ (fun v H1 => v = .ref f ∧ H1 = HZ) IZ ⟨.ref f, e1, rfl, rfl⟩) fun u s1 ⟨z, H1, I1, r1, q1⟩ => ?_)
  obtain ⟨rfl, rfl⟩ := q1
  cases r1
  have keepF : ∀ {sX : Shared} {σX : L2.St} {HX : Hp} {pX : List (Addr × Obj)}, L2.Inv ((cxOf (L2.CX X.prog X.w) X.prog X.w X.K X.mg X.base Nu xg sg g cdg X.A X.stack s H E).tr pn xe) pX σX HX sX → sX.heap.get? f = some (PySem.W.kla_obj "<lambda>" q params body scope cl pm c' ctv) :=
    fun I => I.base.keep f _ hf hfn hfr (fun z => nomatch (show f ∈ ([] : List Addr) from z))
  refine PySem.W.callWith_F ⟨_, _, _, _, keepF I1⟩ (thn ((pa_cons h2 pa_nil rfl).run p3 pinsZ s1 σZ H1 (fun vs H2 => vs = [v] ∧ H2 = H1) I1 ⟨v, e2, rfl, rfl⟩) fun us s2 hz => ?_) rfl rfl
  obtain ⟨vs, H2, I2, rv, rfl, rfl⟩ := hz
  obtain ⟨u, rfl, ru⟩ := vals1 rv
  have of2 := keepF I2
  refine ⟨⟨_, _, _, _, of2⟩, ?_⟩
  have CZ : CellsAt cl fr ws s2.heap H2 := CellsAt.later (X := (cxOf (L2.CX X.prog X.w) X.prog X.w X.K X.mg X.base Nu xg sg g cdg X.A X.stack s H E).tr pn xe) C nfs (fun y c _ z => nomatch (show c ∈ ([] : List Addr) from z)) I2
  obtain ⟨⟨oc, fv, t, hoc, hdc, hvc⟩, _, _⟩ := I2.hok c' _ hc
  have rc : codeAny (model X.prog X.w) (X.A.deeper (envOfC xg sg s.heap.objs.size g cdg)) (.call (.ref f) ⟨[u], []⟩) (CR (L2.CX X.prog X.w) (envOfC xg sg s.heap.objs.size g cdg :: X.stack) X.prog X.w H2 s2 Q E2) s2 := by
    refine PySem.W.kla_callFunE hr.depth of2 rfl S.co S.gen rfl ⟨c', oc, fv, t, rfl, hoc, hdc, hvc⟩ ?_
    rw [hbind]
    refine wpAny_pure (wpAny_newFunctionEnv S.nocell (fun z hz => by
      rw [List.mem_singleton] at hz
      rw [hz]
      exact S.par y List.mem_cons_self) (fun h₁ hns hsb => ⟨I2.nolimit.fresh _ hsb, ?_⟩) S.kind)
    show codeAny _ _ (.expr body (envF (lamF q params scope cl c') f s2.heap.objs.size)) _ _
    have kp : ∀ b o, s2.heap.get? b = some o → h₁.get? b = some o := fun b o e => hsb.extBut b o (Nat.ne_of_lt (Heap.lt_size e)) (Heap.get?_push_of_some _ e)
    have J := inv_startN (CX := L2.CX X.prog X.w) (F := lamF q params scope cl c') (f := f) (E := E2) (tk := s2.toks + 1) S hr.hd I2.env0 (vs := [v]) rfl (.cons ru .nil) CZ hns kp
    refine PySem.W.kla_codeExpr (wpAny_mono ((hbody _ _ s2 H2 (hr.deeper _) rfl).run [] _ _ H2 Q J ht) (fun v s' hq => ?_) fun e s' hq => hq)
    obtain ⟨w', H', J', rv, q⟩ := hq
    exact ⟨w', H', J'.os, J'.bare, J'.base, J'.hok, rv, q⟩
  have hx : Passes (L2.CX X.prog X.w) ((cxOf (L2.CX X.prog X.w) X.prog X.w X.K X.mg X.base Nu xg sg g cdg X.A X.stack s H E).tr pn xe) E2 := passes_call tk hW
  refine wpAny_call (codeAny_mono rc fun r s' hq => ?_)
  cases r with
  | error e => exact hx pinsZ σZ H2 s2 e s' I2 hq
  | ok fl =>
    cases fl with
    | ret u => exact I2.after hq
    | next => exact hq.elim
    | brk => exact hq.elim
    | cont => exact hq.elim
end
/-! ### under -/
/-- what is known of a manager's class -/
structure TrF (P : Program) (w : World) (K : PySem.W.Frag) (mg : Str → Option Value) (base : Heap) (C : Addr) (k : Nat) (spE spX : Sp) : Prop where
  ex : ∃ (fe fx : Addr) (fde fdx : FuncData) (pe px : List Str), FnOk P w K mg base CX0 k fe fde pe spE ∧ Binds K fde pe [] ∧ FnOk P w K mg base CX0 k fx fdx px spX ∧ Binds K fdx px [] ∧ FnG P w K mg base k fx spX ∧
    PySem.W.findIn K (.ref C) "__enter__" = some (some (.ref fe)) ∧ PySem.W.isFn K (.ref fe) = true ∧ PySem.W.findIn K (.ref C) "__exit__" = some (some (.ref fx)) ∧ PySem.W.isFn K (.ref fx) = true
  mono : ∀ vs H (Q Q' : VK), (∀ v H, Q v H → Q' v H) → spE vs H Q E0 → spE vs H Q' E0
abbrev NU : List Str := ["manager", "deed", "given", "told"]
theorem sc41 : FnScope NU ["manager", "deed"] (defScope (top 41)) := ⟨rfl, rfl, rfl, by decide +kernel, rfl, by decide +kernel, by decide +kernel⟩
/-- what an exception of the deed is wished to be -/
def eUnder (spX : Sp) (a : Addr) (E : XK) : XK := fun cls d H => wWith spX a (fun cls d _ H' => E cls d H') cls d [] H
def tUnder (T : List (Addr × Str)) (C : Addr) (q : Str) (spE spX : Sp) (te : TE) (tb : XK → TE) (N : List Str) (js : List Nat) (W : WX) : TE := fun σ H Q => te σ H fun v H1 => Tabs T H1 ∧ ∀ (c' : Addr) (H2 : Hp), ExtN H1 H2 → Tabs T H2 → H2 c' = some (CodeO c' q) →
  ∃ a dx fs, v = .ref a ∧ H2 a = some (.ins C dx fs) ∧ spE [.ref a] H2 (fun g H3 => H3 c' = some (CodeO c' q) ∧ tb (eUnder spX a (WE W σ)) (startF N [g] (js.map (slotAt σ))) H3
    (fun told H4 => spX [.ref a, .non, .non, .non] H4 (fun _ H5 => ∃ v, some (some told) = some (some v) ∧ Q v H5) E0)) E0
section
variable {X : Cx} {e : Expr} {te : TE} {C P c : Addr} {T : List (Addr × Str)} {W : WX} {k : Nat} {spE spX : Sp} {y : Str} {params : Arguments} {body : Expr} {scope : Scope} {fr N : List Str} {js : List Nat} {tb : XK → TE} {p lpos pos : Pos}
theorem pe_under (U : Df X.K X.mg "under" (top 41)) (tr : TrF X.prog X.w X.K X.mg X.base C k spE spX) (he : PE X e te) (TB : TabB X.base X.mg c P) (hcode : X.env.code = .ref c) (hm : (P, X.env.qual ++ "<lambda>") ∈ T)
    (hu : ∀ p ∈ T, p.1 = P → p.2 = X.env.qual ++ "<lambda>") (hr : Room (k + 2) X.A) (hfree : ∀ y ∈ scope.names, y.2 = .free → X.env.scope.names.lookup y.1 = some .cell ∨ X.env.scope.names.lookup y.1 = some .free) (hdef : defaultsOf params X.env = ([], []))
    (S : NScope N [y] fr scope) (hfr : ∀ y ∈ fr, (y, NameKind.free) ∈ scope.names) (hjs : js.map (fun j => X.N[j]?) = fr.map some)
    (hbind : ∀ (q : Str) (cl : List (Str × Addr)) (pm cv ctv u : Value), bindArgs (PySem.W.kla_fn "<lambda>" q params body scope cl pm cv ctv) ⟨[u], []⟩ = pure [(y, u)]) (tk : Takes X W)
    (hbody : ∀ (A : Around) (outer : List Env) (s' : Shared) (H' : Hp) (f c' : Addr) (E2 : XK), Room k (A.deeper (envF (lamF (X.env.qual ++ "<lambda>") params scope (cloFrom X.env.cells scope.names []) c') f s'.heap.objs.size)) → A.guards = X.A.guards →
      PE (ncx (L2.CX X.prog X.w) X.prog X.w X.K X.mg X.base N (lamF (X.env.qual ++ "<lambda>") params scope (cloFrom X.env.cells scope.names []) c') f A outer s' H' E2) body (tb E2))
    (hown : ∀ z, X.fn z = true := by exact fun _ => rfl) (hg : Gl X "under" := by rfl) (he1 : starEach [e, .Lambda params body scope lpos] X.env = (false, eval e X.env) :: starEach [.Lambda params body scope lpos] X.env := by rfl) :
    PE X (.Call (.Name "under" p) [e, .Lambda params body scope lpos] [] pos) (tUnder T C (X.env.qual ++ "<lambda>") spE spX te tb N js W) := by
  obtain ⟨g, fd, F, gm⟩ := U.ex
  have bU := F.binds (ps := ["manager", "deed"]) (fun _ _ _ _ _ _ us hl => match us, hl with | [_, _], _ => rfl)
  obtain ⟨fe, fx, fde, fdx, pe, px, Fe, be, Fx, bx, G, i1, i2, i3, i4⟩ := tr.ex
  have kp := F.kp
  obtain ⟨oc, od, kV, doc, pm0, an, cdv, ct, osl, rfl, lk, hcd⟩ := F.ex
  refine ⟨fun pins s σ H Q I h => wpAny_Call_Name_kw (ld_glob I hg gm ?_ (by decide))⟩
  have ok := I.ok
  have hcl : ∀ z ∈ scope.names, z.2 = .free → ∃ c, X.env.cells.lookup z.1 = some c := fun z hz e => (hfree z hz e).elim (fun q => ok.has _ (.inl q)) fun q => ok.has _ (.inr q)
  refine PySem.W.callWith_K (h₀ := X.base) I.ok.mod.kin kp ?_ he1 (by rfl)
  rw [he1]
  show wpAny _ _ (spliced ((false, eval e X.env) :: backTo pos (starEach [.Lambda params body scope lpos] X.env))) _ _ s
  refine Calls.spliced_cons (thn (he.run pins s σ H _ I h) fun u s1 ⟨v, H1, I1, r1, q1⟩ => ?_)
  obtain ⟨hT, q1⟩ := q1
  show wpAny _ _ (spliced ((false, eval (.Lambda params body scope lpos) X.env) :: backTo pos (starEach [] X.env))) _ _ s1
  refine Calls.spliced_cons (lam_make2 I1 TB hcode hm hu hT hdef hcl fun f c' pm' ctv H2 s2 I2 eN T2 hf hfn hfr' hco => ?_)
  refine Calls.spliced_nil ⟨I2.kIn, ?_⟩
  obtain ⟨a, dx, fs, rfl, ea, q2⟩ := q1 c' H2 eN T2 hco
  cases r1
  have caps : Caps X (cloFrom X.env.cells scope.names []) fr js := Caps.made ok hfree hfr hjs
  have CA := cells_of I2 caps
  have nfs : ∀ z c, (cloFrom X.env.cells scope.names []).lookup z = some c → c ∉ frs X.stack := fun z c hz hm => by
    rcases List.mem_cons.mp (I2.stkSub c hm) with e | e
    · exact I2.cne z c (clo_cm hcl hz) e
    · obtain ⟨_, o', e', _⟩ := ok.funs.mem e
      exact Nat.lt_irrefl _ (Nat.lt_of_lt_of_le (Heap.lt_size e') (ok.cab z c (hown z) (clo_cm hcl hz)))
  have rc : codeAny (model X.prog X.w) X.A (.call (.ref g) ⟨[.ref a, .ref f], []⟩) (CR (L2.CX X.prog X.w) X.stack X.prog X.w H2 s2 Q (WE W σ)) s2 := by
    refine run_ofS (N := NU) (ps := ["manager", "deed"]) (vs := [.ref a, .ref f]) lk hcd sc41 hr I2.env0 (by
      have b := bU s2 [.ref a, .ref f] I2.kIn rfl
      exact b) (.cons rfl (.cons rfl .nil)) rfl fun hr' => ?_
    refine ⟨_, pss_cons (ps_with (k := k) (i := 2) (C := C) (tb := fun W' D σ3 H3 => ∃ E2 : XK, (∀ cls d σ' H', E2 cls d H' → W' cls d σ' H') ∧ ∃ v, σ3[1]? = some (some (.ref f)) ∧ σ3[2]? = some (some v) ∧ H3 c' = some (CodeO c' (X.env.qual ++ "<lambda>")) ∧
      tb E2 (startF N [v] (js.map (slotAt σ))) H3 fun told H4 => D.nx (σ3.set 3 (some told)) H4) rfl rfl rfl (takes_of rfl rfl rfl rfl) (hr'.mono (Nat.le_succ k)) (show NU.Nodup from by decide) rfl rfl (pv 0) Fe be Fx bx G i1 i2 i3 i4 fun W' pn xe tkW => ?_) (pss_one (ps_ret (pv 3))), ?_⟩
    · refine ⟨fun pinsB sB σB HB D IB hB => ?_⟩
      obtain ⟨E2, hW, v, h1, h2, h3, h4⟩ := hB
      have pd := pe_deed (X := X) (Nu := NU) (sg := defScope (top 41)) (xg := "under") (cdg := cdv) (g := g) (pn := pn) (xe := xe) (p1 := ⟨136, 15, 136, 19⟩) (p2 := ⟨136, 20, 136, 25⟩) (p3 := ⟨136, 15, 136, 26⟩) (ia := 1) (ib := 2) (a := "deed") (b := "given") CA nfs hf hfn hfr' S (hbind _ _ _ _ _) tkW hW hr' (fun A outer s' H' r g => hbody A outer s' H' f c' E2 r g) (pv 1) (pv 2)
      exact (pss_one (ps_set (i := 3) (show NU.Nodup from by decide) rfl (.inl rfl) pd)).run pinsB sB σB HB D IB ⟨v, h1, h2, h3, h4⟩
    · refine ⟨.ref a, rfl, a, dx, fs, rfl, ea, ?_⟩
      exact tr.mono _ _ _ _ (fun g3 H3 hq => ⟨_, fun _ _ _ _ x => x, g3, rfl, rfl, hq.1, hq.2⟩) q2
  refine wpAny_call (codeAny_mono rc fun r s3 hq => ?_)
  cases r with
  | error e => exact passAt tk σ pins H2 s2 e s3 I2 hq
  | ok fl =>
    cases fl with
    | ret u => exact I2.after hq
    | next => exact hq.elim
    | brk => exact hq.elim
    | cont => exact hq.elim
end
end T93
-- Lh
set_option maxHeartbeats 400000
/-! T93, part h: an own exception over an own base whose __init__ says super().__init__(text) and keeps its argument. -/
namespace T93
open PySem PySem.Spec PyProof.Rows L2 NdefX
/-- the __init__ of such a class at C, as the text st has it -/
structure XiF (P : Program) (K : PySem.W.Frag) (mg : Str → Option Value) (C f : Addr) (fd : FuncData) (st : Stmt) (qual : Str) : Prop where
  oex : OexC K C
  fn : ∃ (cc cda : Addr) (oc : Value) (od : Option Addr) (osl : Array (Option Value)) (kV doc pm ct : Value) (an : Option Addr), fd = PySem.W.ksFn "__init__" qual (defArgs st) (defBody st) (defScope st) .none kV doc pm an (.ref cda) ct cc ∧
    K.lookup f = some ⟨oc, od, .func fd, osl⟩ ∧ PySem.W.codeIn K (.ref cda) qual = true ∧
    (∃ (c1 : Value) (c2 : Option Addr) (c3 : Array (Option Value)) (vs : Array Value) (tf : Tok), K.lookup cda = some ⟨c1, c2, .fields vs, c3⟩ ∧ vs[2]? = some (.str P.main.file tf)) ∧
    ∃ (c1 : Value) (c2 : Option Addr) (c3 : Array (Option Value)), K.lookup cc = some ⟨c1, c2, .cell (some (.ref C)), c3⟩
  sup : PySem.W.ks_superIn K C C "__init__" = some (some (.builtin "ValueError.__init__"))
  sub : PySem.W.subIn K (.ref C) (.type "ValueError") = some true
  self : PySem.W.mroIn K C (.ref C) = some true
  opq : PySem.W.nsIn K cStatics "thirdparty.any" = some none
  nosup : mg "super" = none
  notop : (P.main.scope.names.lookup ("super" : Str)).isSome = false
  noplace : PySem.W.findIn K (.ref C) "place" = some none
def xiText : Stmt := inClass (top 4) 0
theorem nsc4 : NScope ["self", "place", "__class__"] ["self", "place"] ["__class__"] (defScope xiText) := nscope_by (by decide +kernel)
/-- what it does: the exception at a keeps its argument -/
def spXi (C : Addr) : Sp := fun vs H Q _ => ∃ a v, vs = [.ref a, v] ∧ H a = some (exo a C none) ∧ ∀ dx, H dx = none → dx ≠ a → Q .non (upd (upd H dx (exd dx [("place", v)])) a (exo a C (some dx)))
section
variable {P : Program} {w : World} {K : PySem.W.Frag} {mg : Str → Option Value} {base : Heap} {C f : Addr} {fd : FuncData} {qual : Str}
theorem xi_binds (F : XiF P K mg C f fd xiText qual) : Binds K fd ["self", "place"] [] := by
  obtain ⟨cc, cda, oc, od, osl, kV, doc, pm, ct, an, rfl, lk, _⟩ := F.fn
  refine .all fun us hl => ?_
  match us, hl with
  | [_, _], _ => rfl
theorem xi_ok (F : XiF P K mg C f fd xiText qual) : FnOk P w K mg base CX0 1 f fd ["self", "place"] (spXi C) := by
  refine ⟨fun vs H Q E h => by obtain ⟨_, _, rfl, _⟩ := h; rfl, fun A outer s H args us vs Q E hr e0 hb r hsp => ?_⟩
  obtain ⟨a, v, rfl, ha, hq⟩ := hsp
  obtain ⟨cc, cda, oc, od, osl, kV, doc, pm, ct, an, rfl, lk, hcd, ⟨c1, c2, c3, fv, tf, lkc, hfv⟩, ⟨d1, d2, d3, lkl⟩⟩ := F.fn
  obtain ⟨ua, uv, rfl, ra, rv⟩ := vals2 r
  cases ra
  have kin : K.In s.heap := e0.mod.kin.keeps fun b o e => (e0.bs b o e).1
  have nol : s.heap.NoLimit := e0.mod.nolimit.keeps fun b o e => (e0.bs b o e).1
  have hcc := kin _ _ lkl
  have ncc : H cc = none := (e0.bs cc _ (e0.mod.kin _ _ lkl)).2
  have CA : CellsAt [("__class__", cc)] ["__class__"] [some (.ref C)] s.heap H := by
    refine ⟨rfl, fun y c e => ?_, fun x y c e1 e2 => ?_, fun i y e => ?_⟩
    · have m := PySem.mem_of_lookup e
      rw [List.mem_singleton] at m
      cases m
      exact ⟨ncc, _, _, hcc, rfl⟩
    · have m1 := PySem.mem_of_lookup e1
      have m2 := PySem.mem_of_lookup e2
      rw [List.mem_singleton] at m1 m2
      cases m1
      cases m2
      rfl
    · match i, e with
      | 0, e =>
        cases e
        exact ⟨cc, rfl, fun v ev => by
          cases ev
          exact ⟨.ref C, rfl, _, hcc, rfl⟩⟩
      | j + 1, e => simp at e
  refine ks_codeAny_call_defAt (fd := PySem.W.ksFn "__init__" qual (defArgs xiText) (defBody xiText) (defScope xiText) .none kV doc pm an (.ref cda) ct cc) (body := defBody xiText) (binds := (["self", "place"] : List Str).zip [Value.ref a, uv]) hr.depth (kin _ _ lk) rfl nol (PySem.W.codeRec_of kin hcd) rfl hb nsc4.nocell (fun y hy => nsc4.par _ (List.of_mem_zip hy).1) (fun h₁ hns kp => ?_) rfl rfl rfl
  have I := inv_startN (CX := CX0) (N := ["self", "place", "__class__"]) (F := ⟨"__init__", qual, defArgs xiText, defBody xiText, defScope xiText, [("__class__", cc)], cda⟩) (f := f) (E := E) (tk := s.toks + 2) nsc4 hr.hd e0 (vs := [.ref a, v]) rfl (.cons rfl (.cons rv .nil)) CA hns kp
  obtain ⟨nm, qn, NC, bs, bm, sn, sub, ab, col, dd, k0, k1, k2, k3, k5, hC, hbm⟩ := F.oex.cls
  have hC1 := (I.kIn) _ _ hC
  obtain ⟨mb, hmb1, hmb2⟩ := e0.mod.blt
  have bk : ∀ b o, base.get? b = some o → h₁.get? b = some o := fun b o e => kp b o (e0.bs b o e).1
  obtain ⟨t1, hx⟩ := exo_at I.hok ha
  refine ks_wpAt_execs_cons (ks_wpAt_Expr_any (ks_wpAt_MethodCall (ks_wpAt_super_base (fd := PySem.W.ksFn "__init__" qual (defArgs xiText) (defBody xiText) (defScope xiText) .none kV doc pm an (.ref cda) ct cc) rfl rfl rfl rfl (I.kIn _ _ lk) rfl rfl rfl (I.kIn _ _ lkc) rfl hfv (by simp) F.notop ?_)))
  refine PySem.W.ks_loadName_global rfl rfl (Calls.loadGlobal_builtin (e0.mod.glob.keeps bk) F.nosup (hmb1.keeps bk) ((hmb2 "super" (by decide)).trans (show bootBuiltins "super" = some (.type "super") by decide +kernel)) ⟨rfl, ?_⟩)
  refine wpAny_loadName_free rfl rfl rfl ⟨_, I.kIn _ _ lkl, rfl⟩ ?_
  refine wpAny_loadName_local rfl rfl hns (v := .ref a) (by rfl) ?_
  refine ks_wpAny_isType_cls hC1 rfl ⟨rfl, ?_⟩
  refine ks_wpAny_call_super hC1 rfl hx rfl (fun c e => by cases e) (PySem.W.looks_mroIn I.kIn F.self) (fun h2 e2 k2 => ?_)
  have I2 := I.kept (t' := s.toks + 2) k2
  have hcl : PySem.W.clsIn K C = some { name := nm, bases := bs, mro := .ref C :: bm, ns := NC, qualname := qn, hasDict := true, slotNames := sn, subclasses := sub, abstract := ab, collection := col, hasDel := false } := by unfold PySem.W.clsIn; rw [hC] <;> rfl
  have hsup : PySem.W.alongIn K "__init__" (((Value.ref C :: bm).dropWhile (· != .ref C)).drop 1) = some (some (.builtin "ValueError.__init__")) := by
    have z := F.sup
    unfold PySem.W.ks_superIn at z
    rw [hcl] at z
    exact z
  have hx2 := k2 _ _ hx
  have hne : a ≠ C := fun z => by
    rw [z, hC1] at hx
    cases hx
  refine PySem.W.kxs_getMethod PySem.W.kxs_ValueError e2 (PySem.W.looks_opaque I2.kIn F.opq) (l₀ := .ref C :: bm) ((PySem.W.looks_clsIn I2.kIn hcl).andThen .now) rfl I2.kIn hsup ?_ hne (by decide) ?_
  · exact PySem.W.Looks.andThen (fun A Q E s k q => wpAny_typeOf_ref (k _ _ hx2) q) (PySem.W.looks_subIn I2.kIn F.sub)
  have k3 : ∀ b o, h2.get? b = some o → (h2.push (PySem.W.kxs_mw "ValueError.__init__" a)).get? b = some o := fun b o e => Heap.get?_push_of_some _ e
  have I3 := I2.kept (t' := s.toks + 2 + 1) k3
  have hu : (h2.push (PySem.W.kxs_mw "ValueError.__init__" a)).get? h2.objs.size = some (PySem.W.kxs_mw "ValueError.__init__" a) := Heap.get?_push_at rfl rfl
  have hx3 := k3 _ _ hx2
  refine PySem.W.kxs_callWith (i := "ValueError.__init__") (x := a) (by rfl) (Calls.evalArgs_plain (Calls.spliced_cons (Calls.Constant_str (k := 0) (pos := ⟨17, 25, 17, 38⟩) (Calls.spliced_nil ⟨hu, ?_⟩))))
  refine wpAny_call (codeAny_of_tree ?_)
  show wpAny _ _ (callAny (.ref h2.objs.size) _) _ _ _
  simp only [callAny]
  refine wpAny_bind (wpAny_load hu ?_)
  simp only [PySem.W.kxs_mw, show (Value.type "method-wrapper" == Value.type "method" || Value.type "method-wrapper" == Value.type "builtin_function_or_method" || Value.type "method-wrapper" == Value.type "method-wrapper") = true from by decide, if_true]
  refine PySem.W.KFB.if_so (by decide) ?_
  refine wpAny_bind (PySem.W.check_bound_init PySem.F.excBase_ValueError.toExcCallFacts (I3.kIn _ _ hC) hx3 rfl ?_)
  refine wpAny_bind (wpAny_pure (wpAny_pure ?_))
  refine ⟨plainId_quiet PySem.F.excBase_ValueError.init.plain _, codeAny_builtin PySem.F.excBase_ValueError.initEntry ?_⟩
  refine PySem.W.exc_init_tree (cls := .ref C) (t0 := t1) (dv := none) (c2 := .none) (c3 := .none) (b4 := .bool false) hx3 (by show 1 ≤ sizeLine; decide) fun h4 k4 e4 _ => ?_
  have J := I3.write (t' := s.toks + 2 + 1 + 1) (x := a) (e := a) (o := exo a C none) (by rw [ha]; exact True.intro) (.inl rfl) k4 ⟨_, e4⟩ (exo_ok e4)
  have eu : upd H a (exo a C none) = H := by
    funext b
    by_cases hb : b = a
    · rw [hb, upd_same, ha]
    · rw [upd_ne hb]
  rw [eu] at J
  refine PySem.wpAt_of_wpAny (wpAny_mono ((pss_one (ps_ost (f := "place") (pv 0) (pv 1))).run [] _ _ H { nx := fun _ H' => Q .non H', rt := Q } J ?_) (fun fl s5 hs => ?_) fun _ _ z => z)
  · exact ⟨v, rfl, .ref a, rfl, a, C, rfl, F.oex, F.noplace, .inl ⟨ha, hq⟩⟩
  · cases fl with
    | ret u =>
      obtain ⟨v, σ', H', J, rv, q⟩ := hs
      exact ⟨v, H', J.os, J.bare, J.base, J.hok, rv, q⟩
    | next =>
      obtain ⟨σ', H', J, q⟩ := hs
      exact ⟨.non, H', J.os, J.bare, J.base, J.hok, rfl, q⟩
    | brk =>
      obtain ⟨_, _, _, q⟩ := hs
      exact q.elim
    | cont =>
      obtain ⟨_, _, _, q⟩ := hs
      exact q.elim
end
end T93
-- Li
set_option maxHeartbeats 2000000
/-! T93, part i: the classes: what the top has left of them, methods and properties by their bodies. -/
namespace T93
open PySem PySem.Spec PyProof.Rows L2
abbrev tn (j : Nat) (x q : Str) : Nat × Str × Str := (j, x, q)
def propTab : List (Nat × Str × Str) := [tn 1 "house" "Led.house", tn 2 "stand" "Led.stand", tn 3 "number" "Led.number"]
def mthTab : List (Nat × Str × Str) := [tn 4 "__len__" "Led.__len__", tn 5 "votes" "Led.votes", tn 6 "need_room" "Led.need_room", tn 7 "keep" "Led.keep", tn 8 "vote" "Led.vote", tn 9 "amend" "Led.amend", tn 10 "undo" "Led.undo", tn 11 "redo" "Led.redo", tn 12 "copy" "Led.copy", tn 13 "trial" "Led.trial", tn 14 "__eq__" "Led.__eq__"]
def tmTab : List (Nat × Str × Str) := [tn 1 "__enter__" "Trial.__enter__", tn 2 "__exit__" "Trial.__exit__"]
structure MtD (K : PySem.W.Frag) (C : Addr) (m q : Str) (st : Stmt) : Prop where
  ex : ∃ f fd, Meth K C m f ∧ Fun K m q st f fd
structure MkD (K : PySem.W.Frag) (C : Addr) (q : Str) (st : Stmt) : Prop where
  ex : ∃ f fd, Mk K C f ∧ Fun K "__init__" q st f fd
structure PrD (K : PySem.W.Frag) (C : Addr) (m q : Str) (st : Stmt) : Prop where
  ex : ∃ p f fd, PropOf K C m p f ∧ Fun K m q st f fd
/-- Led -/
structure LedF (K : PySem.W.Frag) (mg : Str → Option Value) (C : Addr) : Prop where
  nm : mg "Led" = some (.ref C)
  kp : PySem.W.keepIn K (.ref C) = true
  cls : Cls K C
  make : MkD K C "Led.__init__" (inClass (top 43) 0)
  pr : ∀ p ∈ propTab, PrD K C p.2.1 p.2.2 (inClass (top 43) p.1)
  mt : ∀ p ∈ mthTab, MtD K C p.2.1 p.2.2 (inClass (top 43) p.1)
  ne : ∀ f, PySem.W.findIn K (.ref C) "__eq__" = some (some (.ref f)) → neIn K C f = true
  past : NoAttr K C "past"
  later : NoAttr K C "later"
  isL : PySem.W.kitOne K (.ref C) (.ref C) = some true
  isList : PySem.W.kitOne K (.type "list") (.ref C) = some false
  isInt : PySem.W.kitOne K (.type "int") (.ref C) = some false
  fL : PySem.W.notFirst K C (.ref C) = true
  fList : PySem.W.notFirst K C (.type "list") = true
  fInt : PySem.W.notFirst K C (.type "int") = true
  tyA : PySem.W.findIn K (.ref C) "__class__" = some (some (.builtin "object.__class__"))
  tyB : PySem.W.specialIn K (.builtin "object.__class__") "__get__" = some (some (.builtin "getset_descriptor.__get__"))
  tyC : PySem.W.takesIn K (.builtin "object.__class__") = some true
  tyD : PySem.W.mroIn K C (.type "object") = some true
/-- Trial -/
structure TriF (K : PySem.W.Frag) (mg : Str → Option Value) (C : Addr) : Prop where
  nm : mg "Trial" = some (.ref C)
  cls : Cls K C
  make : MkD K C "Trial.__init__" (inClass (top 42) 0)
  mt : ∀ p ∈ tmTab, MtD K C p.2.1 p.2.2 (inClass (top 42) p.1)
  held : NoAttr K C "held_led"
  past : NoAttr K C "kept_past"
  later : NoAttr K C "kept_later"
/-- BadChoices -/
structure BadF (P : Program) (K : PySem.W.Frag) (mg : Str → Option Value) (C : Addr) : Prop where
  nm : mg "BadChoices" = some (.ref C)
  ex : ∃ f fd qual, XiF P K mg C f fd xiText qual ∧ PySem.W.findIn K (.ref C) "__init__" = some (some (.ref f)) ∧ PySem.W.typeIn K (.ref f) = some (.type "function")
  ext : PySem.W.exmOne K (.ref C) (.ref C) = some true

/-! ### a method that keeps its promise -/
structure GM (P : Program) (w : World) (K : PySem.W.Frag) (mg : Str → Option Value) (base : Heap) (CX : CXT) (k : Nat) (C : Addr) (m : Str) (ps : List Str) (sp : Sp) : Prop where
  ex : ∃ f fd, Meth K C m f ∧ FnOk P w K mg base CX k f fd ps sp ∧ Binds K fd ps []
structure GP (P : Program) (w : World) (K : PySem.W.Frag) (mg : Str → Option Value) (base : Heap) (k : Nat) (C : Addr) (m : Str) (ps : List Str) (sp : Sp) : Prop where
  ex : ∃ p f fd, PropOf K C m p f ∧ FnOk P w K mg base CX0 k f fd ps sp ∧ Binds K fd ps []
structure GI (P : Program) (w : World) (K : PySem.W.Frag) (mg : Str → Option Value) (base : Heap) (k : Nat) (C : Addr) (ps : List Str) (sp : Sp) : Prop where
  ex : ∃ f fd, Mk K C f ∧ FnOk P w K mg base CX0 k f fd ps sp ∧ Binds K fd ps []
section
variable {P : Program} {w : World} {K : PySem.W.Frag} {mg : Str → Option Value} {base : Heap} {k : Nat} {C : Addr} {x q : Str} {st : Stmt} {N ps : List Str} {sp : Sp}
abbrev BindsF (x q : Str) (st : Stmt) (ps : List Str) : Prop := ∀ (kV doc pm : Value) (an : Option Addr) (cdv ct : Value) (us : List Value), us.length = ps.length → bindArgs (PySem.W.fnOf x q (defArgs st) (defBody st) (defScope st) .none kV doc pm an cdv ct) ⟨us, []⟩ = pure (ps.zip us)
abbrev BodyF (P : Program) (w : World) (K : PySem.W.Frag) (mg : Str → Option Value) (base : Heap) (CX : CXT) (k : Nat) (q : Str) (st : Stmt) (N : List Str) (sp : Sp) : Prop := ∀ (f : Addr) (cdv : Value) (A : Around) (outer : List Env) (s : Shared) (H : Hp) (vs : List V) (Q : VK) (E : XK),
  Room k (A.deeper (envOfC q (defScope st) s.heap.objs.size f cdv)) → sp vs H Q E → ∃ t, PSs (cxOf CX P w K mg base N q (defScope st) f cdv A outer s H E) (defBody st) t ∧ t { nx := fun _ H' => Q .non H', rt := Q } (start N vs) H
abbrev Body0 (P : Program) (w : World) (K : PySem.W.Frag) (mg : Str → Option Value) (base : Heap) (k : Nat) (q : Str) (st : Stmt) (N : List Str) (sp : Sp) : Prop := ∀ (f : Addr) (cdv : Value) (A : Around) (outer : List Env) (s : Shared) (H : Hp) (vs : List V) (Q : VK) (E : XK),
  Room k (A.deeper (envOfC q (defScope st) s.heap.objs.size f cdv)) → sp vs H Q E → ∃ t, PSs (cxOf CX0 P w K mg base N q (defScope st) f cdv A outer s H E).nox (defBody st) t ∧ t { nx := fun _ H' => Q .non H', rt := Q } (start N vs) H
theorem gm (D : MtD K C x q st) (S : FnScope N ps (defScope st)) (hb : BindsF x q st ps) (len : ∀ vs H Q E, sp vs H Q E → vs.length = ps.length) (hbody : Body0 P w K mg base k q st N sp) : GM P w K mg base CX0 (k + 1) C x ps sp := by
  obtain ⟨f, fd, M, F⟩ := D.ex
  exact ⟨f, fd, M, F.ok S len fun cdv A outer s H vs Q E hr h => by
    obtain ⟨t, a, b⟩ := hbody f cdv A outer s H vs Q E hr h
    exact ⟨t, a, b⟩, F.binds hb⟩
theorem gmX (D : MtD K C x q st) (S : FnScope N ps (defScope st)) (hb : BindsF x q st ps) (len : ∀ vs H Q E, sp vs H Q E → vs.length = ps.length) (hbody : BodyF P w K mg base (L2.CX P w) k q st N sp) : GM P w K mg base (L2.CX P w) (k + 1) C x ps sp := by
  obtain ⟨f, fd, M, F⟩ := D.ex
  exact ⟨f, fd, M, F.okX S len fun cdv A outer s H vs Q E => hbody f cdv A outer s H vs Q E, F.binds hb⟩
theorem gp (D : PrD K C x q st) (S : FnScope N ps (defScope st)) (hb : BindsF x q st ps) (len : ∀ vs H Q E, sp vs H Q E → vs.length = ps.length) (hbody : Body0 P w K mg base k q st N sp) : GP P w K mg base (k + 1) C x ps sp := by
  obtain ⟨p, f, fd, M, F⟩ := D.ex
  exact ⟨p, f, fd, M, F.ok S len fun cdv A outer s H vs Q E hr h => by
    obtain ⟨t, a, b⟩ := hbody f cdv A outer s H vs Q E hr h
    exact ⟨t, a, b⟩, F.binds hb⟩
theorem gi (D : MkD K C q st) (S : FnScope N ps (defScope st)) (hb : BindsF "__init__" q st ps) (len : ∀ vs H Q E, sp vs H Q E → vs.length = ps.length) (hbody : Body0 P w K mg base k q st N sp) : GI P w K mg base (k + 1) C ps sp := by
  obtain ⟨f, fd, M, F⟩ := D.ex
  exact ⟨f, fd, M, F.ok S len fun cdv A outer s H vs Q E hr h => by
    obtain ⟨t, a, b⟩ := hbody f cdv A outer s H vs Q E hr h
    exact ⟨t, a, b⟩, F.binds hb⟩
end
section
variable {X : Cx} {CX : CXT} {j k : Nat} {C : Addr} {m x : Str} {ps : List Str} {sp : Sp} {E : XK} {e o : Expr} {es : List Expr} {to : TE} {t : TA} {p pos apos : Pos}
/-- o.m(e, ..) -/
theorem pe_gm {pl : Sem Bool} (G : GM X.prog X.w X.K X.mg X.base CX k C m ps sp) (c : Cls X.K C) (hr : Room j X.A) (hx : Passes CX X E) (ho : PE X o to) (ha : PA X (e :: es) t) (hk : k ≤ j := by decide)
    (hst : starEach (e :: es) X.env = (false, eval e X.env) :: starEach es X.env := by rfl) (hpl : (backTo pos (starEach es X.env)).any (·.1) = false := by rfl)
    (ht : eval (.Call (.Attribute o m apos) (e :: es) [] pos) X.env = (do
      let ov ← eval o X.env
      standAt apos.atName
      let (f, first) ← holding [ov] (getMethod ov m pl)
      callWith pos f first (backTo pos (starEach (e :: es) X.env)) (backToKw pos (keywordEach [] X.env))) := by rfl) : PE X (.Call (.Attribute o m apos) (e :: es) [] pos) (tMeth C m sp [] E to t) := by
  obtain ⟨f, fd, M, F, b⟩ := G.ex
  exact pe_meth ho c M F (hr.mono hk) b .nil hx ha hst hpl ht
/-- o.m() -/
theorem pe_gm0 {pl : Sem Bool} (G : GM X.prog X.w X.K X.mg X.base CX k C m ps sp) (c : Cls X.K C) (hr : Room j X.A) (hx : Passes CX X E) (ho : PE X o to) (hk : k ≤ j := by decide)
    (ht : eval (.Call (.Attribute o m apos) [] [] pos) X.env = (do
      let ov ← eval o X.env
      standAt apos.atName
      let (f, first) ← holding [ov] (getMethod ov m pl)
      callWith pos f first (backTo pos (starEach [] X.env)) (backToKw pos (keywordEach [] X.env))) := by rfl) : PE X (.Call (.Attribute o m apos) [] [] pos) (tMeth C m sp [] E to tNil) := by
  obtain ⟨f, fd, M, F, b⟩ := G.ex
  exact pe_meth0 ho c M F (hr.mono hk) b .nil hx ht
/-- o.m, a property -/
theorem pe_gp (G : GP X.prog X.w X.K X.mg X.base k C m ps sp) (c : Cls X.K C) (hr : Room j X.A) (ho : PE X o to) (hk : k + 1 ≤ j := by decide) (hab : attributeBase o m X.env (eval o X.env) = eval o X.env := by rfl) : PE X (.Attribute o m pos) (tProp C sp [] E0 to) := by
  obtain ⟨p, f, fd, M, F, b⟩ := G.ex
  exact pe_prop ho c M F (hr.mono hk) b .nil (fun _ _ _ _ _ _ _ h => h.elim) hab
/-- C(e, ..) -/
theorem pe_gi (G : GI X.prog X.w X.K X.mg X.base k C ps sp) (hr : Room j X.A) (hm : X.mg x = some (.ref C)) (ha : PA X (e :: es) t) (hk : k + 1 ≤ j := by decide) (hg : Gl X x := by rfl) (hdb : (x == ("__debug__" : Str)) = false := by decide)
    (he : starEach (e :: es) X.env = (false, eval e X.env) :: starEach es X.env := by rfl) (hpl : (backTo pos (starEach es X.env)).any (·.1) = false := by rfl) : PE X (.Call (.Name x p) (e :: es) [] pos) (tMake C sp [] E0 t) := by
  obtain ⟨f, fd, M, F, b⟩ := G.ex
  exact pe_make M F (hr.mono hk) hg hm b .nil (fun _ _ _ _ _ _ _ h => h.elim) ha hdb he hpl
end
end T93
-- Lm
set_option maxHeartbeats 2000000
/-! T93, part m: houses, stands, deeds as plain things; how they are told as data. -/
namespace T93
open PySem
inductive Way where
  | ward (i : Nat)
  | far (rest : Bool) (i : Nat) (s : Option Bool)
  | kept
structure Seat where
  term : Nat
  phase : Nat
  way : Way
structure House where
  bodies : List (List Seat)
  wards : Nat
abbrev Row := List Bool
abbrev Stand := List Row
inductive Deed where
  | vote (v : Row)
  | amend (k spot : Nat) (s : Seat)
structure Entry where
  deed : Option Deed
  house : House
  stand : Stand
/-- the letter of a side -/
def lt (b : Bool) : Str := if b then "a" else "b"
def txt (l : Row) : Str := ⟨(l.map fun b => (if b then 97 else 98 : Nat)).toArray⟩
def sideS : Option Bool → Str
  | some b => lt b
  | none => "kept"
def dWay : Way → PyData
  | .ward i => .tuple [.str "ward", .int i]
  | .far r i s => .tuple [.str (if r then "rest" else "body"), .int i, .str (sideS s)]
  | .kept => .tuple [.str "kept"]
def dSeat (s : Seat) : PyData := .tuple [.int s.term, .int s.phase, dWay s.way]
def dBody (b : List Seat) : PyData := .tuple (b.map dSeat)
def dBodies (b : List (List Seat)) : PyData := .tuple (b.map dBody)
def dHouse (h : House) : PyData := .tuple [dBodies h.bodies, .int h.wards]
def dRow (r : Row) : PyData := .str (txt r)
def dStand (s : Stand) : PyData := .tuple (s.map dRow)
def dDeed : Option Deed → PyData
  | none => .none
  | some (.vote v) => .tuple [.str "vote", dRow v]
  | some (.amend k p s) => .tuple [.str "amend", .int k, .int p, dSeat s]
def dEntry (e : Entry) : PyData := .tuple [dDeed e.deed, dHouse e.house, dStand e.stand]
/-! ### what is in order -/
def Way.Ok (B W : Nat) : Way → Prop
  | .ward i => i < W
  | .far _ i _ => i < B
  | .kept => True
structure Seat.Ok (L B W : Nat) (s : Seat) : Prop where
  one : 1 ≤ s.term
  most : s.term ≤ 6
  dvd : s.term ∣ L
  ph : s.phase < s.term
  way : s.way.Ok B W
structure House.OkL (L : Nat) (h : House) : Prop where
  l0 : 0 < L
  l12 : L ≤ 12
  b1 : 1 ≤ h.bodies.length
  b3 : h.bodies.length ≤ 3
  sz : ∀ b ∈ h.bodies, 1 ≤ b.length ∧ b.length ≤ 9
  tot : (h.bodies.map List.length).sum ≤ 9
  wd : h.wards ≤ 4
  seats : ∀ b ∈ h.bodies, ∀ s ∈ b, s.Ok L h.bodies.length h.wards
def House.Ok (h : House) : Prop := ∃ L, h.OkL L
def Shape (h : House) (s : Stand) : Prop := s.map List.length = h.bodies.map List.length
/-! ### the year -/
def dueB (t : Nat) (s : Seat) : Bool := decide (((t : Int) - (s.phase : Int)) % (s.term : Int) = 0)
/-- by how many a is ahead -/
def ahead (r : Row) : Int := 2 * (r.count true : Int) - (r.length : Int)
/-- who is ahead, none: even -/
def most (r : Row) : Option Bool := if ahead r = 0 then none else some (decide (0 < ahead r))
def stay (t : Nat) (r : Row) (b : List Seat) : Row := ((r.zip b).filter fun p => !dueB t p.2).map (·.1)
def tell (h : House) (s : Stand) (t : Nat) (v : Row) : Way → Option Bool
  | .ward i => v[i]?
  | .kept => none
  | .far r i x => match most (if r then stay t (s.getD i []) (h.bodies.getD i []) else s.getD i []) with
    | none => x
    | some b => some b
def seatYear (h : House) (s : Stand) (t : Nat) (v : Row) (p : Seat × Bool) : Bool := if dueB t p.1 then (tell h s t v p.1.way).getD p.2 else p.2
def year (h : House) (s : Stand) (t : Nat) (v : Row) : Stand := (h.bodies.zip s).map fun p => (p.1.zip p.2).map (seatYear h s t v)
theorem txt_len (r : Row) : (txt r).length = r.length := by
  show (r.map fun b => (if b then 97 else 98 : Nat)).toArray.size = _
  simp
/-! ### data that may be compared and shown -/
structure Nice (n W : Nat) (d : PyData) : Prop where
  can : d.canLay0 = true
  dep : d.depth ≤ n
  sh : d.showable = true
  short : d.leavesShort 64 = true
  wt : d.weight ≤ W
structure NiceL (n W : Nat) (xs : List PyData) : Prop where
  can : PyData.canLayAll0 xs = true
  dep : PyData.depthAll xs ≤ n
  sh : PyData.showableAll xs = true
  short : PyData.leavesShortAll 64 xs = true
  wt : PyData.weightAll xs ≤ W
section
variable {n m W V : Nat} {d : PyData} {xs : List PyData}
theorem Nice.mono (h : Nice n W d) (a : n ≤ m) (b : W ≤ V) : Nice m V d := ⟨h.can, Nat.le_trans h.dep a, h.sh, h.short, Nat.le_trans h.wt b⟩
theorem Nice.shaped (h : Nice n W d) (hn : n ≤ 64) : SeqAt.shaped d = true := Bool.and_eq_true_iff.mpr ⟨h.can, decide_eq_true (Nat.le_trans h.dep hn)⟩
theorem Nice.refl (h : Nice n W d) : PyData.eqv d d = true := SeqAt.eqv_refl d h.can
theorem Nice.noDict (h : Nice n W d) : d.hasDict = false := PyData.hasDict_of_canLay d h.can
theorem Nice.shown (h : Nice n W d) (hW : W ≤ 200000) : d.shown.length ≤ sizeLine := by
  have := PyData.shown_le 64 (by decide) d h.short
  have hw := h.wt
  show _ ≤ 2 ^ 24
  omega
theorem Nice.non : Nice n W .none := ⟨rfl, Nat.zero_le _, rfl, rfl, Nat.zero_le _⟩
theorem Nice.bl {b : Bool} : Nice n W (.bool b) := ⟨rfl, Nat.zero_le _, rfl, rfl, Nat.zero_le _⟩
theorem int_short : ∀ i : Fin 1001, (PyData.shown (.int ((i.val : Nat) : Int))).length ≤ 64 := by decide +kernel
theorem Nice.int {i : Nat} (h : i ≤ 1000) (hW : 11 ≤ W) : Nice n W (.int i) := by
  have hl : (i : Int).natAbs.log2 < 11 := by
    rw [Int.natAbs_natCast]
    by_cases hz : i = 0
    · rw [hz]
      decide
    · exact (Nat.log2_lt hz).mpr (by omega)
  refine ⟨by rw [PyData.canLay0], by rw [PyData.depth]; exact Nat.zero_le _, ?_, ?_, ?_⟩
  · rw [PyData.showable]
    exact decide_eq_true (by omega)
  · rw [PyData.leavesShort]
    exact decide_eq_true (int_short ⟨i, by omega⟩)
  · rw [PyData.weight]
    split <;> omega
theorem Nice.str {x : Str} (hc : ∀ c ∈ x.cps.toList, c < 128) (hW : x.length ≤ W) : Nice n W (.str x) := by
  refine ⟨?_, by rw [PyData.depth]; exact Nat.zero_le _, by rw [PyData.showable], ?_, by rw [PyData.weight]; exact hW⟩
  · rw [PyData.canLay0]
    unfold PyData.strOk
    rw [← Array.all_toList]
    exact List.all_eq_true.mpr fun c h => decide_eq_true (by have := hc c h; omega)
  · rw [PyData.leavesShort]
    exact List.all_eq_true.mpr fun c h => decide_eq_true (by have := hc c h; omega)
theorem Nice.tup (h : NiceL n W xs) : Nice (n + 1) W (.tuple xs) :=
  ⟨by rw [PyData.canLay0]; exact h.can, by rw [PyData.depth]; exact Nat.succ_le_succ h.dep, by rw [PyData.showable]; exact h.sh, by rw [PyData.leavesShort]; exact h.short, by rw [PyData.weight]; exact h.wt⟩
theorem Nice.lst (h : NiceL n W xs) : Nice (n + 1) W (.list xs) :=
  ⟨by rw [PyData.canLay0]; exact h.can, by rw [PyData.depth]; exact Nat.succ_le_succ h.dep, by rw [PyData.showable]; exact h.sh, by rw [PyData.leavesShort]; exact h.short, by rw [PyData.weight]; exact h.wt⟩
theorem NiceL.nil : NiceL n W [] := ⟨rfl, Nat.zero_le _, rfl, rfl, Nat.zero_le _⟩
theorem NiceL.cons (h : Nice n W d) (t : NiceL n V xs) : NiceL n (W + 1 + V) (d :: xs) := by
  refine ⟨?_, ?_, ?_, ?_, ?_⟩
  · rw [PyData.canLayAll0, h.can, t.can]
    rfl
  · rw [PyData.depthAll]
    exact Nat.max_le.mpr ⟨h.dep, t.dep⟩
  · rw [PyData.showableAll, h.sh, t.sh]
    rfl
  · rw [PyData.leavesShortAll, h.short, t.short]
    rfl
  · rw [PyData.weightAll]
    have := h.wt
    have := t.wt
    omega
theorem NiceL.of : ∀ {xs : List PyData}, (∀ x ∈ xs, Nice n W x) → NiceL n (xs.length * (W + 1)) xs
  | [], _ => NiceL.nil
  | x :: xs, h => by
    have z := NiceL.cons (h x List.mem_cons_self) (NiceL.of fun y hy => h y (List.mem_cons_of_mem _ hy))
    refine ⟨z.can, z.dep, z.sh, z.short, Nat.le_trans z.wt ?_⟩
    rw [List.length_cons, Nat.succ_mul]
    omega
theorem NiceL.mono (h : NiceL n W xs) (a : n ≤ m) (b : W ≤ V) : NiceL m V xs := ⟨h.can, Nat.le_trans h.dep a, h.sh, h.short, Nat.le_trans h.wt b⟩
end
theorem lt_ok (b : Bool) : ∀ c ∈ (lt b).cps.toList, c < 128 := by cases b <;> decide +kernel
theorem txt_ok (r : Row) : ∀ c ∈ (txt r).cps.toList, c < 128 := by
  intro c h
  have h : c ∈ r.map fun b => (if b then 97 else 98 : Nat) := by simpa [txt] using h
  obtain ⟨b, _, rfl⟩ := List.mem_map.mp h
  cases b <;> decide
theorem nice_row {r : Row} (h : r.length ≤ 9) : Nice 0 9 (dRow r) := Nice.str (txt_ok r) (by rw [txt_len]; exact h)
theorem nice_way {x : Way} {B W : Nat} (h : x.Ok B W) (hB : B ≤ 1000) (hW : W ≤ 1000) : Nice 1 28 (dWay x) := by
  cases x with
  | ward i =>
    have h : i < W := h
    exact (Nice.tup (NiceL.cons (Nice.str (n := 0) (W := 4) (by decide +kernel) (by decide +kernel)) (NiceL.cons (Nice.int (W := 11) (by omega) (by decide)) (NiceL.nil (W := 0))))).mono (by decide) (by decide)
  | far r i s =>
    have h : i < B := h
    refine (Nice.tup (NiceL.cons (Nice.str (n := 0) (W := 4) ?_ ?_) (NiceL.cons (Nice.int (W := 11) (by omega) (by decide)) (NiceL.cons (Nice.str (n := 0) (W := 4) ?_ ?_) (NiceL.nil (W := 0)))))).mono (by decide) (by decide)
    · cases r <;> decide +kernel
    · cases r <;> decide +kernel
    · rcases s with _ | _ | _ <;> decide +kernel
    · rcases s with _ | _ | _ <;> decide +kernel
  | kept => exact (Nice.tup (NiceL.cons (Nice.str (n := 0) (W := 4) (by decide +kernel) (by decide +kernel)) (NiceL.nil (W := 0)))).mono (by decide) (by decide)
theorem nice_seat {s : Seat} {L B W : Nat} (h : s.Ok L B W) (hB : B ≤ 1000) (hW : W ≤ 1000) : Nice 2 60 (dSeat s) := by
  have h1 := h.most
  have h2 := h.ph
  exact (Nice.tup (NiceL.cons (Nice.int (n := 1) (W := 11) (by omega) (by decide)) (NiceL.cons (Nice.int (W := 11) (by omega) (by decide)) (NiceL.cons (nice_way h.way hB hW) (NiceL.nil (W := 0)))))).mono (by decide) (by decide)
theorem nice_house {h : House} {L : Nat} (k : h.OkL L) : Nice 5 2000 (dHouse h) := by
  have hb : ∀ b ∈ h.bodies, Nice 3 549 (dBody b) := fun b hm => by
    have z : NiceL 2 ((b.map dSeat).length * 61) (b.map dSeat) := NiceL.of fun x hx => by
      obtain ⟨s, hs, rfl⟩ := List.mem_map.mp hx
      have := k.b3
      have := k.wd
      exact nice_seat (k.seats b hm s hs) (by omega) (by omega)
    have q := (k.sz b hm).2
    rw [List.length_map] at z
    exact (Nice.tup z).mono (by decide) (by omega)
  have z : NiceL 3 ((h.bodies.map dBody).length * 550) (h.bodies.map dBody) := NiceL.of fun x hx => by
    obtain ⟨b, hm, rfl⟩ := List.mem_map.mp hx
    exact hb b hm
  rw [List.length_map] at z
  have h3 := k.b3
  have hw := k.wd
  exact (Nice.tup (NiceL.cons ((Nice.tup z).mono (Nat.le_refl _) (show _ ≤ 1650 by omega)) (NiceL.cons (Nice.int (W := 11) (by omega) (by decide)) (NiceL.nil (W := 0))))).mono (by decide) (by decide)
theorem shape_len {h : House} {s : Stand} (k : Shape h s) : s.length = h.bodies.length := by
  have := congrArg List.length k
  simpa using this
theorem shape_row {h : House} {s : Stand} (k : Shape h s) {i : Nat} {r : Row} (e : s[i]? = some r) : ∃ b, h.bodies[i]? = some b ∧ r.length = b.length := by
  have q : (s.map List.length)[i]? = (h.bodies.map List.length)[i]? := by rw [k]
  rw [List.getElem?_map, List.getElem?_map, e] at q
  cases hb : h.bodies[i]? with
  | none =>
    rw [hb] at q
    cases q
  | some b =>
    rw [hb] at q
    exact ⟨b, rfl, Option.some.inj q⟩
theorem nice_stand {h : House} {L : Nat} {s : Stand} (k : h.OkL L) (hs : Shape h s) : Nice 1 30 (dStand s) := by
  have z : NiceL 0 ((s.map dRow).length * 10) (s.map dRow) := NiceL.of fun x hx => by
    obtain ⟨r, hr, rfl⟩ := List.mem_map.mp hx
    obtain ⟨i, hi⟩ := List.mem_iff_getElem?.mp hr
    obtain ⟨b, hb, e⟩ := shape_row hs hi
    have q := (k.sz b (List.mem_of_getElem? hb)).2
    exact nice_row (by omega)
  have := shape_len hs
  have := k.b3
  rw [List.length_map] at z
  exact (Nice.tup z).mono (by decide) (by omega)
end T93
-- Ln
set_option maxHeartbeats 2000000
/-! T93, part n: comprehensions that make lists of data. -/
namespace T93
open PySem PySem.Spec PyProof.Rows L2
section
variable {K : PySem.W.Frag} {T : List (Addr × Str)} {J : It} {n : Nat} {G : Hp → Prop} {Y : Nat → Hp → V → Hp → Prop} {g : TG} {tt : TT} {te : TE} {vs : List Nat} {σ : L2.St} {H1 : Hp} {D : Addr} {Qd : Hp → Prop}
/-! ### rules with the written part told apart (within a comprehension) -/
theorem call_lenK {X : Cx} (K : PySem.W.Frag) (h : X.K = K) : CallR X (.builtin "len") (fun xs H Q => ∃ p ys, xs = [.ref p] ∧ (SqL K H p ys ∨ SqT K H p ys) ∧ Q (.int ys.length) H) := by
  subst h
  exact call_len_seq
theorem ix_tupK {X : Cx} (K : PySem.W.Frag) (h : X.K = K) : IxR X (rIxT K) := by
  subst h
  exact ix_tup
theorem ix_listK {X : Cx} (K : PySem.W.Frag) (h : X.K = K) : IxR X (rIxL K) := by
  subst h
  exact ix_list
theorem op_inK {X : Cx} (K : PySem.W.Frag) (h : X.K = K) : OpR X (compareOp .In) (rIn K false) := by
  subst h
  exact op_in_seq
theorem pg_tupK {X : Cx} (K : PySem.W.Frag) (n : Nat) {es : List Expr} {k : Nat} {t : TGs} {pos : Pos} (h : X.K = K) (hc : X.calm = true) (hp : PGs X es t) (hn : (assignEach es X.env).length = n := by rfl) (hst : (assignEach es X.env).findIdx? (·.1) = none := by rfl) :
    PG X (.Tuple es k pos) (gTup K n t) := by
  subst h
  exact pg_tup hc hp hn hst
theorem pi_tupK {X : Cx} (K : PySem.W.Frag) (h : X.K = K) {tg e : Expr} {te : TE} (he : PE X e te) : PI X tg e (iTup K te) := by
  subst h
  exact pi_tup he
theorem pe_joinK {X : Cx} (K : PySem.W.Frag) (h : X.K = K) {o e : Expr} {to te : TE} {apos pos : Pos} (ho : PE X o to) (he : PE X e te) (hs : starEach [e] X.env = [(false, eval e X.env)] := by rfl) (hbase : attributeBase o "join" X.env (eval o X.env) = eval o X.env := by rfl) (hline : (apos.endLine == pos.line) = true := by rfl) :
    PE X (.Call (.Attribute o "join" apos) [e] [] pos) (tM1 (fun x xs H Q => ∃ a p, ∃ ys : List Str, x = .str a ∧ xs = [.ref p] ∧ (SqL K H p (ys.map V.str) ∨ SqT K H p (ys.map V.str)) ∧ (ys.map (·.length)).sum + ys.length * a.length ≤ 16777216 ∧ Q (.str (Txt.join a ys)) H) to te) := by
  subst h
  exact pe_join ho he hs hbase hline
/-- text += text -/
theorem ip_addS {X : Cx} : PIp X .Add (fun x y H Q => ∃ i j : Str, x = .str i ∧ y = .str j ∧ i.length + j.length ≤ sizeLine ∧ Q (.str (i ++ j)) H) := fun pins s σ H x y u v Q I rx ry h => iop_add_str pins s σ H x y u v Q I rx ry h
/-- a list that stands at D grows; the data that its items are stay -/
theorem grow {H H4 : Hp} {zs : List V} {ds : List PyData} {y : V} {d : PyData} (hD : H D = some (.lst zs)) (e : Ex H H4) (t : TpAll K H zs ds) (ty : Tp K H4 y d) : TpAll K (upd H4 D (.lst (zs ++ [y]))) (zs ++ [y]) (ds ++ [d]) := by
  have k : Kp [] false [D] H4 (upd H4 D (.lst (zs ++ [y]))) := Kp.write (e D _ hD) List.mem_cons_self rfl rfl
  exact ((t.ex e).append (.cons ty .nil)).kp k
/-- one for, with a test or none: what is made of the i-th thing (none: it is left out) -/
theorem lc_flt (w : Walk J n G Y) (fs : List (Option PyData)) (hn : n = fs.length) (hz : fs.length < sizeLine) (hD : H1 D = none) (hG : ∀ H, Ex H1 H → G H)
    (hs : ∀ (i : Nat) (o : Option PyData) (x : V) (H H' : Hp) (Kx : V → Hp → Prop) (Kn : Hp → Prop), fs[i]? = some o → Ex H1 H → Y i H x H' → (∀ y H4 d, o = some d → Ex H H4 → Tp K H4 y d → Kx y H4) → (∀ H4, o = none → Ex H H4 → Kn H4) →
      g x (wipe σ vs) H' fun σ2 H2 => wipe σ2 vs = wipe σ vs ∧ tt σ2 H2 fun b H3 => if b = true then te σ2 H3 Kx else Kn H3)
    (hd : ∀ H zs, Ex H1 H → H D = some (.lst zs) → TpAll K H zs (fs.filterMap id) → Qd H) :
    ∃ W : Nat → Nat → Hp → Prop, (∃ m, W 0 m (upd H1 D (.lst []))) ∧ ∀ i m H, W i m H →
      (J.stop i H ∧ Qd H) ∨ (J.go i H ∧ ∃ Nx : Hp → Prop, (∀ H', Nx H' → ∃ m', m' < m ∧ W (i + 1) m' H') ∧ ∀ x H', J.yld i H x H' → g x (wipe σ vs) H' fun σ2 H2 => wipe σ2 vs = wipe σ vs ∧ tt σ2 H2 fun b H3 =>
        if b = true then te σ2 H3 fun y H4 => ∃ acc, H4 D = some (.lst acc) ∧ acc.length < sizeLine ∧ Nx (upd H4 D (.lst (acc ++ [y]))) else Nx H3) := by
  refine lc_it w (fun i H => Ex H1 H ∧ ∃ zs, H D = some (.lst zs) ∧ TpAll K H zs ((fs.take i).filterMap id)) ⟨Evl.Ex.mut (.refl _) hD, [], upd_same, .nil⟩ (fun i H _ p => hG H p.1) (fun i x H H' hi p y => ?_) (fun H p => ?_)
  · obtain ⟨e, zs, hz1, tz⟩ := p
    have hi' : i < fs.length := by omega
    have hf : fs[i]? = some fs[i] := List.getElem?_eq_getElem hi'
    have tk : fs.take (i + 1) = fs.take i ++ [fs[i]] := by rw [List.take_succ, hf]; rfl
    have ln : zs.length ≤ fs.length := by
      rw [tz.len]
      refine Nat.le_trans (List.length_filterMap_le _ _) ?_
      rw [List.length_take]
      omega
    refine hs i fs[i] x H H' _ _ hf e y (fun y4 H4 d ho e4 t4 => ?_) (fun H4 ho e4 => ?_)
    · refine ⟨zs, e4 D _ hz1, by omega, Evl.Ex.mut (e.trans e4) hD, zs ++ [y4], upd_same, ?_⟩
      rw [tk, List.filterMap_append, ho]
      exact grow hz1 e4 tz t4
    · refine ⟨e.trans e4, zs, e4 D _ hz1, ?_⟩
      rw [tk, List.filterMap_append, ho]
      show TpAll K H4 zs (List.filterMap id (List.take i fs) ++ [])
      rw [List.append_nil]
      exact tz.ex e4
  · obtain ⟨e, zs, hz1, tz⟩ := p
    rw [hn, List.take_length] at tz
    exact hd H zs e hz1 tz
/-- .. without a test -/
theorem lc_data (w : Walk J n G Y) (ds : List PyData) (hn : n = ds.length) (hz : ds.length < sizeLine) (hD : H1 D = none) (hG : ∀ H, Ex H1 H → G H)
    (hs : ∀ (i : Nat) (d : PyData) (x : V) (H H' : Hp) (Kx : V → Hp → Prop), ds[i]? = some d → Ex H1 H → Y i H x H' → (∀ y H4, Ex H H4 → Tp K H4 y d → Kx y H4) → g x (wipe σ vs) H' fun σ2 H2 => wipe σ2 vs = wipe σ vs ∧ te σ2 H2 Kx)
    (hd : ∀ H zs, Ex H1 H → H D = some (.lst zs) → TpAll K H zs ds → Qd H) :
    ∃ W : Nat → Nat → Hp → Prop, (∃ m, W 0 m (upd H1 D (.lst []))) ∧ ∀ i m H, W i m H →
      (J.stop i H ∧ Qd H) ∨ (J.go i H ∧ ∃ Nx : Hp → Prop, (∀ H', Nx H' → ∃ m', m' < m ∧ W (i + 1) m' H') ∧ ∀ x H', J.yld i H x H' → g x (wipe σ vs) H' fun σ2 H2 => wipe σ2 vs = wipe σ vs ∧ tYes σ2 H2 fun b H3 =>
        if b = true then te σ2 H3 fun y H4 => ∃ acc, H4 D = some (.lst acc) ∧ acc.length < sizeLine ∧ Nx (upd H4 D (.lst (acc ++ [y]))) else Nx H3) := by
  have fm : (ds.map some).filterMap id = ds := by rw [List.filterMap_map]; exact List.filterMap_some
  refine lc_flt w (ds.map some) (by rw [List.length_map]; exact hn) (by rw [List.length_map]; exact hz) hD hG (fun i o x H H' Kx Kn ho e y k1 k2 => ?_) (fun H zs e h t => hd H zs e h (by rw [fm] at t; exact t))
  rw [List.getElem?_map] at ho
  obtain ⟨d, hd', rfl⟩ := Option.map_eq_some_iff.mp ho
  have q := hs i d x H H' Kx hd' e y fun y4 H4 e4 t4 => k1 y4 H4 d rfl e4 t4
  have f : (fun (σ2 : L2.St) (H2 : Hp) => wipe σ2 vs = wipe σ vs ∧ tYes σ2 H2 fun b H3 => if b = true then te σ2 H3 Kx else Kn H3) = fun σ2 H2 => wipe σ2 vs = wipe σ vs ∧ te σ2 H2 Kx := by
    funext σ2 H2
    show (wipe σ2 vs = wipe σ vs ∧ if true = true then te σ2 H2 Kx else Kn H2) = _
    rw [if_pos rfl]
  rw [f]
  exact q
/-! ### comprehensions whose items are drawn -/
/-- not an int -/
def notInt : PyData → Bool
  | .int _ => false
  | _ => true
theorem soft_l {H : Hp} {zs : List V} {ds : List PyData} (t : TpAll K H zs ds) (h : ∀ d ∈ ds, notInt d = true) (b : Bool) : Soft b (.lst zs) = false := by
  cases t with
  | nil => rfl
  | cons x t =>
    have := h _ List.mem_cons_self
    cases x with
    | int i => cases this
    | _ => rfl
theorem tyes_eq {Kx : V → Hp → Prop} {Kn : Hp → Prop} : (fun (σ2 : L2.St) (H2 : Hp) => wipe σ2 vs = wipe σ vs ∧ tYes σ2 H2 fun b H3 => if b = true then te σ2 H3 Kx else Kn H3) = fun σ2 H2 => wipe σ2 vs = wipe σ vs ∧ te σ2 H2 Kx := by
  funext σ2 H2
  show (wipe σ2 vs = wipe σ vs ∧ if true = true then te σ2 H2 Kx else Kn H2) = _
  rw [if_pos rfl]
theorem tyes_of {x : V} {σ0 : L2.St} {H' : Hp} {Kx : V → Hp → Prop} {Kn : Hp → Prop} (q : g x σ0 H' fun σ2 H2 => wipe σ2 vs = wipe σ vs ∧ te σ2 H2 Kx) : g x σ0 H' fun σ2 H2 => wipe σ2 vs = wipe σ vs ∧ tYes σ2 H2 fun b H3 => if b = true then te σ2 H3 Kx else Kn H3 := by
  rw [tyes_eq]
  exact q
/-- St n H: how the drawing machine stands after n draws; the list's items are told by as -/
theorem lc_draw {α : Type} {m : Addr} {St : Nat → Hp → Prop} {n0 cost : Nat} (f : α → PyData) (okA : α → Prop) (w : Walk J n G Y) (hz : n < sizeLine) (hD : H1 D = none) (hDm : D ≠ m) (st0 : St n0 (upd H1 D (.lst [])))
    (stD : ∀ n' H zs ys, St n' H → H D = some (.lst zs) → Soft true (.lst zs) = false → St n' (upd H D (.lst ys))) (hf : ∀ a, notInt (f a) = true)
    (hG : ∀ H, Kp T true [m] H1 H → G H)
    (hs : ∀ (i : Nat) (x : V) (H H' : Hp) (n' : Nat) (Kx : V → Hp → Prop), i < n → Kp T true [m] H1 H → St n' H → n' ≤ n0 + i * cost → Y i H x H' →
      (∀ y a H4 n4, okA a → Tp K H4 y (f a) → Kp T true [m] H H4 → St n4 H4 → n4 ≤ n' + cost → Kx y H4) → g x (wipe σ vs) H' fun σ2 H2 => wipe σ2 vs = wipe σ vs ∧ te σ2 H2 Kx)
    (hd : ∀ (H : Hp) (zs : List V) (as : List α) (n' : Nat), as.length = n → (∀ a ∈ as, okA a) → Kp T true [m] H1 H → H D = some (.lst zs) → TpAll K H zs (as.map f) → St n' H → n' ≤ n0 + n * cost → Qd H) :
    ∃ W : Nat → Nat → Hp → Prop, (∃ m, W 0 m (upd H1 D (.lst []))) ∧ ∀ i m H, W i m H →
      (J.stop i H ∧ Qd H) ∨ (J.go i H ∧ ∃ Nx : Hp → Prop, (∀ H', Nx H' → ∃ m', m' < m ∧ W (i + 1) m' H') ∧ ∀ x H', J.yld i H x H' → g x (wipe σ vs) H' fun σ2 H2 => wipe σ2 vs = wipe σ vs ∧ tYes σ2 H2 fun b H3 =>
        if b = true then te σ2 H3 fun y H4 => ∃ acc, H4 D = some (.lst acc) ∧ acc.length < sizeLine ∧ Nx (upd H4 D (.lst (acc ++ [y]))) else Nx H3) := by
  have sd : ∀ {H : Hp} {zs : List V} {as : List α}, TpAll K H zs (as.map f) → Soft true (.lst zs) = false := fun {H zs as} t => soft_l t (fun d hd => by
    obtain ⟨a, _, rfl⟩ := List.mem_map.mp hd
    exact hf a) true
  refine lc_it w (fun i H => Kp T true [m] H1 H ∧ ∃ (zs : List V) (as : List α) (n' : Nat), H D = some (.lst zs) ∧ as.length = i ∧ (∀ a ∈ as, okA a) ∧ TpAll K H zs (as.map f) ∧ St n' H ∧ n' ≤ n0 + i * cost) ⟨.new hD, [], [], n0, upd_same, rfl, fun a h => absurd h List.not_mem_nil, .nil, st0, by omega⟩ (fun i H _ p => hG H p.1) (fun i x H H' hi p y => ?_) (fun H p => ?_)
  · obtain ⟨k, zs, as, n', hz1, hl, ho, tz, st, hn'⟩ := p
    have ln : zs.length = i := by rw [tz.len, List.length_map, hl]
    have q := hs i x H H' n' (fun y H4 => ∃ acc, H4 D = some (.lst acc) ∧ acc.length < sizeLine ∧ (Kp T true [m] H1 (upd H4 D (.lst (acc ++ [y]))) ∧ ∃ (zs : List V) (as : List α) (n' : Nat), upd H4 D (.lst (acc ++ [y])) D = some (.lst zs) ∧ as.length = i + 1 ∧ (∀ a ∈ as, okA a) ∧ TpAll K (upd H4 D (.lst (acc ++ [y]))) zs (as.map f) ∧ St n' (upd H4 D (.lst (acc ++ [y]))) ∧ n' ≤ n0 + (i + 1) * cost)) hi k st hn' y (fun y4 a H4 n4 oa ta k4 st4 hn4 => ?_)
    · exact tyes_of q
    · have hz4 : H4 D = some (.lst zs) := k4.keep D _ hz1 (fun z => hDm (List.mem_singleton.mp z)) (sd tz)
      have kw : Kp T true [D] H4 (upd H4 D (.lst (zs ++ [y4]))) := .write hz4 List.mem_cons_self rfl rfl
      refine ⟨zs, hz4, by omega, ?_, zs ++ [y4], as ++ [a], n4, upd_same, by rw [List.length_append, hl]; rfl, fun b hb => ?_, ?_, stD _ _ _ _ st4 hz4 (sd tz), by rw [Nat.succ_mul]; omega⟩
      · exact Kp.fresh (p := D) (k.trans k4) (kw.mono fun b hb => by
          rw [List.mem_singleton.mp hb]
          exact List.mem_cons_self) hD
      · rcases List.mem_append.mp hb with hb | hb
        · exact ho b hb
        · rw [List.mem_singleton.mp hb]
          exact oa
      · rw [List.map_append]
        exact ((tz.kp k4).append (.cons ta .nil)).kp kw
  · obtain ⟨k, zs, as, n', hz1, hl, ho, tz, st, hn'⟩ := p
    exact hd H zs as n' hl ho k hz1 tz st hn'
end
end T93
-- Lj
set_option maxHeartbeats 2000000
/-! T93, part j: the defs of houses. -/
namespace T93
open PySem PySem.Spec PyProof.Rows L2
section
variable {P : Program} {w : World} {K : PySem.W.Frag} {mg : Str → Option Value} {base : Heap}
theorem sqt_ty {H : Hp} {a : Addr} {xs : List V} (h : SqT K H a xs) : TyX K H (.ref a) (.type "tuple") := by
  rcases h with (h | ⟨o, h⟩) | ⟨o, its, n, hl, hc, _⟩
  · exact .base (.tup h)
  · exact .fTuple h
  · exact .kTuple hl hc
theorem isT {H : Hp} {v : V} {ds : List PyData} (h : Tp K H v (.tuple ds)) : TyX K H v (.type "tuple") := by
  obtain ⟨a, xs, rfl, s, _⟩ := h.tup_inv
  exact sqt_ty s
theorem TpAll.cons_inv {H : Hp} {vs : List V} {d : PyData} {ds : List PyData} (h : TpAll K H vs (d :: ds)) : ∃ v r, vs = v :: r ∧ Tp K H v d ∧ TpAll K H r ds := by
  cases h with
  | cons x t => exact ⟨_, _, rfl, x, t⟩
theorem TpAll.nil_inv {H : Hp} {vs : List V} (h : TpAll K H vs []) : vs = [] := by
  cases h
  rfl
/-! ### is_way -/
def spIsWay (K : PySem.W.Frag) : Sp := fun vs H Q _ => ∃ (v : V) (x : Way) (B W : Nat), vs = [v, .int B, .int W] ∧ Tp K H v (dWay x) ∧ x.Ok B W ∧ B ≤ 1000 ∧ W ≤ 1000 ∧ ∀ H', Ex H H' → Q (.bl true) H'
theorem sc21 : FnScope ["value", "bodies", "wards"] ["value", "bodies", "wards"] (defScope (top 21)) := ⟨rfl, rfl, rfl, by decide +kernel, rfl, by decide +kernel, by decide +kernel⟩
theorem ok_is_way (T : Txt K mg) : GOk P w K mg base CX0 2 "is_way" ["value", "bodies", "wards"] (spIsWay K) := by
  have G_is_whole := ok_is_whole (P := P) (w := w) (base := base) T
  refine gok (T.df (21, "is_way") (by decide +kernel)) sc21 (fun _ _ _ _ _ _ us hl => match us, hl with | [_, _, _], _ => rfl) (fun vs H Q E h => ?_) (fun f cdv A outer s H vs Q E hr h => ?_)
  · obtain ⟨_, _, _, _, rfl, _⟩ := h
    rfl
  · obtain ⟨v, x, B, W, rfl, hv, hx, hB, hW, hQ⟩ := h
    have mb_isinstance := T.no "isinstance" (by decide +kernel)
    have mb_len := T.no "len" (by decide +kernel)
    have mb_str := T.no "str" (by decide +kernel)
    have mb_tuple := T.no "tuple" (by decide +kernel)
    have cBODY := T.str ("BODY", "body") (by decide +kernel)
    have cKEPT := T.str ("KEPT", "kept") (by decide +kernel)
    have cREST := T.str ("REST", "rest") (by decide +kernel)
    have cSIDE_A := T.str ("SIDE_A", "a") (by decide +kernel)
    have cSIDE_B := T.str ("SIDE_B", "b") (by decide +kernel)
    have cWARD := T.str ("WARD", "ward") (by decide +kernel)
    refine ⟨_, (pss_cons (ps_if (PW.pt (pw_or (pt_not (pt_val (pe_isi "tuple" (pv 0) mb_isinstance mb_tuple))) (pw_or (pt_cmpR (op_eqD hr.units) (pv 0) (pe_tup pa_nil) (nomark _)) (pw_or1 (pt_not (pt_val (pe_isi "str" (pe_ix ix_tup (pv 0) (pe_int) (fun _ _ => rfl)) mb_isinstance mb_str))))))) (pss_one (ps_ret (pe_bl))) pss_nil)
       (pss_cons (ps_if (pt_cmpR op_eq (pe_ix ix_tup (pv 0) (pe_int) (fun _ _ => rfl)) (pe_cs cWARD) (nomark _)) (pss_one (ps_ret (pe_and (pe_cmpR op_eq (pe_callB call_len_seq rfl mb_len PySem.boot_len (pa_cons (pv 0) pa_nil)) (pe_int) (nomark _)) (pe_one (pe_g G_is_whole hr pass0 (pa_cons (pe_ix ix_tup (pv 0) (pe_int) (fun _ _ => rfl)) (pa_cons (pe_int) (pa_cons (pe_op op_sub (pv 2) (pe_int)) pa_nil)))))))) pss_nil)
       (pss_cons (ps_if (pt_cmpR op_in_seq (pe_ix ix_tup (pv 0) (pe_int) (fun _ _ => rfl)) (pe_tup (pa_cons (pe_cs cBODY) (pa_cons (pe_cs cREST) pa_nil))) rfl) (pss_cons (ps_if (PW.pt (pw_or (pt_cmpR op_ne (pe_callB call_len_seq rfl mb_len PySem.boot_len (pa_cons (pv 0) pa_nil)) (pe_int) (nomark _)) (pw_or1 (pt_not (pt_val (pe_g G_is_whole hr pass0 (pa_cons (pe_ix ix_tup (pv 0) (pe_int) (fun _ _ => rfl)) (pa_cons (pe_int) (pa_cons (pe_op op_sub (pv 1) (pe_int)) pa_nil))))))))) (pss_one (ps_ret (pe_bl))) pss_nil)
       (pss_one (ps_ret (pe_and (pe_isi "str" (pe_ix ix_tup (pv 0) (pe_int) (fun _ _ => rfl)) mb_isinstance mb_str) (pe_one (pe_cmpR op_in_seq (pe_ix ix_tup (pv 0) (pe_int) (fun _ _ => rfl)) (pe_tup (pa_cons (pe_cs cSIDE_A) (pa_cons (pe_cs cSIDE_B) (pa_cons (pe_cs cKEPT) pa_nil)))) rfl)))))) pss_nil)
       (pss_one (ps_ret (pe_cmpR (op_eqD hr.units) (pv 0) (pe_tup (pa_cons (pe_cs cKEPT) pa_nil)) (nomark _))))))), ?_⟩
    obtain ⟨a, xs, rfl, s, t⟩ : ∃ a xs, v = .ref a ∧ SqT K H a xs ∧ TpAll K H xs (match x with | .ward i => [.str "ward", .int i] | .far r i s => [.str (if r then "rest" else "body"), .int i, .str (sideS s)] | .kept => [.str "kept"]) := by
      cases x <;> exact hv.tup_inv
    have nc := nice_way hx hB hW
    refine ⟨_, rfl, rfl, _, true, sqt_ty s, kit_ty (by decide +kernel), _, rfl, iteF ?_⟩
    refine ⟨_, rfl, by decide, fun p hp => ⟨dWay x, .tuple [], (hv.ex (.new hp)).dp, (Tp.new .nil hp).dp, nc.shaped (by decide), rfl, _, rfl, ?_⟩⟩
    have e1 : PyData.eqv (dWay x) (.tuple []) = false := by cases x <;> rfl
    rw [e1]
    have s1 := SqT.kp (T := []) (b := false) (S := []) (.new (o := .tup []) hp) s
    refine iteF ?_
    cases x with
    | ward i =>
      obtain ⟨_, _, rfl, h0, t⟩ := t.cons_inv
      obtain ⟨_, _, rfl, h1, t⟩ := t.cons_inv
      obtain rfl := t.nil_inv
      obtain rfl := h0.str_inv
      obtain rfl := h1.int_inv
      have hi : i < W := hx
      refine ⟨_, rfl, a, _, _, _, rfl, rfl, s1, atI_nat (j := 0) rfl, rfl, _, true, .base (.str _), kit_ty (by decide +kernel), _, rfl, iteF ?_⟩
      refine ⟨_, rfl, a, _, _, _, rfl, rfl, s1, atI_nat (j := 0) rfl, rfl, _, rfl, ?_⟩
      refine iteT ?_
      refine ⟨_, rfl, a, _, rfl, .inr s1, rfl, _, rfl, iteT ?_⟩
      refine ⟨_, rfl, a, _, _, _, rfl, rfl, s1, atI_nat (j := 1) rfl, _, rfl, _, _, rfl, rfl, i, 0, (W : Int) - 1, rfl, ?_⟩
      have e : (decide ((0 : Int) ≤ i) && decide ((i : Int) ≤ (W : Int) - 1)) = true := by
        rw [Bool.and_eq_true]
        exact ⟨decide_eq_true (by omega), decide_eq_true (by omega)⟩
      rw [e]
      exact hQ _ (.new hp)
    | far r i y =>
      obtain ⟨_, _, rfl, h0, t⟩ := t.cons_inv
      obtain ⟨_, _, rfl, h1, t⟩ := t.cons_inv
      obtain ⟨_, _, rfl, h2, t⟩ := t.cons_inv
      obtain rfl := t.nil_inv
      obtain rfl := h0.str_inv
      obtain rfl := h1.int_inv
      obtain rfl := h2.str_inv
      have hi : i < B := hx
      refine ⟨_, rfl, a, _, _, _, rfl, rfl, s1, atI_nat (j := 0) rfl, rfl, _, true, .base (.str _), kit_ty (by decide +kernel), _, rfl, iteF ?_⟩
      refine ⟨_, rfl, a, _, _, _, rfl, rfl, s1, atI_nat (j := 0) rfl, rfl, _, rfl, ?_⟩
      have e2 : decide (V.str (if r = true then "rest" else "body") = V.str "ward") = false := by cases r <;> decide +kernel
      rw [e2]
      refine iteF ?_
      refine ⟨_, rfl, a, _, _, _, rfl, rfl, s1, atI_nat (j := 0) rfl, by show 2 ≤ sizeLine; decide, fun p2 hp2 => ?_⟩
      have s2 := SqT.kp (T := []) (b := false) (S := []) (.new (o := .tup [V.str "body", V.str "rest"]) hp2) s1
      refine ⟨p2, _, rfl, .inr (SqT.of upd_same), rfl, rfl, _, rfl, ?_⟩
      have e3 : inV (V.str (if r = true then "rest" else "body")) [V.str "body", V.str "rest"] = true := by cases r <;> decide +kernel
      refine (show (if inV (V.str (if r = true then "rest" else "body")) [V.str "body", V.str "rest"] = true then _ else _) from ?_)
      rw [e3]
      refine iteT ?_
      refine ⟨_, rfl, a, _, rfl, .inr s2, rfl, _, rfl, iteF ?_⟩
      refine ⟨_, rfl, a, _, _, _, rfl, rfl, s2, atI_nat (j := 1) rfl, _, rfl, _, _, rfl, rfl, i, 0, (B : Int) - 1, rfl, ?_⟩
      have e : (decide ((0 : Int) ≤ i) && decide ((i : Int) ≤ (B : Int) - 1)) = true := by
        rw [Bool.and_eq_true]
        exact ⟨decide_eq_true (by omega), decide_eq_true (by omega)⟩
      rw [e]
      refine ⟨_, rfl, iteF ?_⟩
      refine ⟨_, rfl, a, _, _, _, rfl, rfl, s2, atI_nat (j := 2) rfl, rfl, _, true, .base (.str _), kit_ty (by decide +kernel), _, rfl, iteT ?_⟩
      refine ⟨_, rfl, a, _, _, _, rfl, rfl, s2, atI_nat (j := 2) rfl, by show 3 ≤ sizeLine; decide, fun p3 hp3 => ⟨p3, _, rfl, .inr (SqT.of upd_same), rfl, rfl, ?_⟩⟩
      have e4 : inV (V.str (sideS y)) [V.str "a", V.str "b", V.str "kept"] = true := by rcases y with _ | _ | _ <;> decide +kernel
      refine (show Q (.bl (inV (V.str (sideS y)) [V.str "a", V.str "b", V.str "kept"])) _ from ?_)
      rw [e4]
      exact hQ _ (((Evl.Ex.new hp).trans (.new hp2)).trans (.new hp3))
    | kept =>
      obtain ⟨_, _, rfl, h0, t⟩ := t.cons_inv
      obtain rfl := t.nil_inv
      obtain rfl := h0.str_inv
      refine ⟨_, rfl, a, _, _, _, rfl, rfl, s1, atI_nat (j := 0) rfl, rfl, _, true, .base (.str _), kit_ty (by decide +kernel), _, rfl, iteF ?_⟩
      refine ⟨_, rfl, a, _, _, _, rfl, rfl, s1, atI_nat (j := 0) rfl, rfl, _, rfl, iteF ?_⟩
      refine ⟨_, rfl, a, _, _, _, rfl, rfl, s1, atI_nat (j := 0) rfl, by show 2 ≤ sizeLine; decide, fun p2 hp2 => ⟨p2, _, rfl, .inr (SqT.of upd_same), rfl, rfl, _, rfl, iteF ?_⟩⟩
      have x2 : Ex H (upd (upd H p (.tup [])) p2 (.tup [V.str "body", V.str "rest"])) := (Evl.Ex.new hp).trans (.new hp2)
      refine ⟨_, rfl, by show 1 ≤ sizeLine; decide, fun p3 hp3 => ⟨dWay .kept, .tuple [.str "kept"], (hv.ex (x2.trans (.new hp3))).dp, (Tp.new (.cons (.str _) .nil) hp3).dp, nc.shaped (by decide), nc.shaped (by decide), ?_⟩⟩
      rw [show PyData.eqv (dWay .kept) (.tuple [.str "kept"]) = true from nc.refl]
      exact hQ _ (x2.trans (.new hp3))
end
end T93
-- Lk
set_option maxHeartbeats 2000000
/-! T93, part k: more defs of houses. -/
namespace T93
open PySem PySem.Spec PyProof.Rows L2
section
variable {P : Program} {w : World} {K : PySem.W.Frag} {mg : Str → Option Value} {base : Heap}
theorem dec2 {p q : Prop} [Decidable p] [Decidable q] (h1 : p) (h2 : q) : (decide p && decide q) = true := by
  rw [decide_eq_true h1, decide_eq_true h2]
  rfl
theorem ne_true {p : Prop} [Decidable p] (h : ¬ p) : (!decide p) = true := by
  rw [decide_eq_false h]
  rfl
theorem iteD {p A B : Prop} [Decidable p] (h : p) (a : A) : if decide p = true then A else B := by
  rw [if_pos (decide_eq_true h)]
  exact a
theorem iteDF {p A B : Prop} [Decidable p] (h : ¬ p) (a : B) : if decide p = true then A else B := by
  rw [if_neg (by rw [decide_eq_false h]; exact Bool.false_ne_true)]
  exact a
theorem iteND {p A B : Prop} [Decidable p] (h : p) (b : B) : if (!decide p) = true then A else B := by
  rw [if_neg (by rw [decide_eq_true h]; exact Bool.false_ne_true)]
  exact b
/-! ### is_seat -/
def spIsSeat (K : PySem.W.Frag) : Sp := fun vs H Q _ => ∃ (v : V) (x : Seat) (L B W : Nat), vs = [v, .int B, .int W] ∧ Tp K H v (dSeat x) ∧ x.Ok L B W ∧ B ≤ 1000 ∧ W ≤ 1000 ∧ ∀ H', Ex H H' → Q (.bl true) H'
theorem sc22 : FnScope ["value", "bodies", "wards"] ["value", "bodies", "wards"] (defScope (top 22)) := ⟨rfl, rfl, rfl, by decide +kernel, rfl, by decide +kernel, by decide +kernel⟩
theorem ok_is_seat (T : Txt K mg) : GOk P w K mg base CX0 3 "is_seat" ["value", "bodies", "wards"] (spIsSeat K) := by
  have G_is_whole := ok_is_whole (P := P) (w := w) (base := base) T
  have G_is_way := ok_is_way (P := P) (w := w) (base := base) T
  refine gok (T.df (22, "is_seat") (by decide +kernel)) sc22 (fun _ _ _ _ _ _ us hl => match us, hl with | [_, _, _], _ => rfl) (fun vs H Q E h => ?_) (fun f cdv A outer s H vs Q E hr h => ?_)
  · obtain ⟨_, _, _, _, _, rfl, _⟩ := h
    rfl
  · obtain ⟨v, x, L, B, W, rfl, hv, hx, hB, hW, hQ⟩ := h
    have mb_isinstance := T.no "isinstance" (by decide +kernel)
    have mb_len := T.no "len" (by decide +kernel)
    have mb_tuple := T.no "tuple" (by decide +kernel)
    have cMOST_TERM := T.int ("MOST_TERM", 6) (by decide +kernel)
    refine ⟨_, (pss_cons (ps_if (PW.pt (pw_or (pt_not (pt_val (pe_isi "tuple" (pv 0) mb_isinstance mb_tuple))) (pw_or (pt_cmpR op_ne (pe_callB call_len_seq rfl mb_len PySem.boot_len (pa_cons (pv 0) pa_nil)) (pe_int) (nomark _)) (pw_or1 (pt_not (pt_val (pe_g G_is_whole hr pass0 (pa_cons (pe_ix ix_tup (pv 0) (pe_int) (fun _ _ => rfl)) (pa_cons (pe_int) (pa_cons (pe_ci cMOST_TERM) pa_nil)))))))))) (pss_one (ps_ret (pe_bl))) pss_nil)
       (pss_one (ps_ret (pe_and (pe_g G_is_whole hr pass0 (pa_cons (pe_ix ix_tup (pv 0) (pe_int) (fun _ _ => rfl)) (pa_cons (pe_int) (pa_cons (pe_op op_sub (pe_ix ix_tup (pv 0) (pe_int) (fun _ _ => rfl)) (pe_int)) pa_nil)))) (pe_one (pe_g G_is_way hr pass0 (pa_cons (pe_ix ix_tup (pv 0) (pe_int) (fun _ _ => rfl)) (pa_cons (pv 1) (pa_cons (pv 2) pa_nil))))))))), ?_⟩
    obtain ⟨a, xs, rfl, s, t⟩ := hv.tup_inv
    obtain ⟨_, _, rfl, h0, t⟩ := t.cons_inv
    obtain ⟨_, _, rfl, h1, t⟩ := t.cons_inv
    obtain ⟨_, _, rfl, h2, t⟩ := t.cons_inv
    obtain rfl := t.nil_inv
    obtain rfl := h0.int_inv
    obtain rfl := h1.int_inv
    have q1 := hx.one
    have q2 := hx.most
    have q3 := hx.ph
    refine ⟨_, rfl, rfl, _, true, sqt_ty s, kit_ty (by decide +kernel), _, rfl, iteF ?_⟩
    refine ⟨_, rfl, a, _, rfl, .inr s, rfl, _, rfl, iteF ?_⟩
    refine ⟨_, rfl, a, _, _, _, rfl, rfl, s, atI_nat (j := 0) rfl, x.term, 1, 6, rfl, ?_⟩
    rw [dec2 (by omega) (by omega)]
    refine ⟨_, rfl, iteF ?_⟩
    refine ⟨_, rfl, a, _, _, _, rfl, rfl, s, atI_nat (j := 1) rfl, _, rfl, a, _, _, _, rfl, rfl, s, atI_nat (j := 0) rfl, _, _, rfl, rfl, x.phase, 0, (x.term : Int) - 1, rfl, ?_⟩
    rw [dec2 (by omega) (by omega)]
    refine ⟨_, rfl, iteT ?_⟩
    exact ⟨_, rfl, a, _, _, _, rfl, rfl, s, atI_nat (j := 2) rfl, _, rfl, _, rfl, _, x.way, B, W, rfl, h2, hx.way, hB, hW, hQ⟩
/-! ### common -/
def spCommon : Sp := fun vs H Q _ => ∃ a b : Nat, vs = [.int a, .int b] ∧ Q (.int (Nat.gcd a b : Nat)) H
theorem sc23 : FnScope ["one", "other"] ["one", "other"] (defScope (top 23)) := ⟨rfl, rfl, rfl, by decide +kernel, rfl, by decide +kernel, by decide +kernel⟩
theorem ok_common (T : Txt K mg) : GOk P w K mg base CX0 1 "common" ["one", "other"] spCommon := by
  have nd := sc23.nd
  refine gok (T.df (23, "common") (by decide +kernel)) sc23 (fun _ _ _ _ _ _ us hl => match us, hl with | [_, _], _ => rfl) (fun vs H Q E h => ?_) (fun f cdv A outer s H vs Q E hr h => ?_)
  · obtain ⟨_, _, rfl, _⟩ := h
    rfl
  · obtain ⟨a, b, rfl, hQ⟩ := h
    have mb_int := T.no "int" (by decide +kernel)
    refine ⟨_, (pss_cons (ps_while PassesOwn.never (pt_cmpR op_ne (pv 1) (pe_int) (nomark _)) (pss_one (ps_par (i := 0) (j := 1) rfl nd rfl rfl (by decide) rfl rfl (pa_cons (pv 1) (pa_cons (pe_op op_mod (pe_callTy call_int1 rfl mb_int boot_int (pa_cons (pv 0) pa_nil)) (pv 1)) pa_nil)) rfl)))
       (pss_one (ps_ret (pv 0)))), ?_⟩
    refine while_by (fun σ H' => H' = H ∧ ∃ c d : Nat, σ = [some (.int c), some (.int d)] ∧ Nat.gcd c d = Nat.gcd a b) (fun σ _ => match σ with
      | [_, some (.int d)] => d.natAbs
      | _ => 0) ⟨rfl, a, b, rfl, rfl⟩ (fun σ H' ⟨e, c, d, e2, g⟩ => ?_) (fun σ H' Q Q' hq h => ?_)
    · subst e e2
      refine ⟨_, rfl, rfl, _, rfl, ?_⟩
      refine ite2 (fun h => ?_) (fun h => ?_)
      · have hd : 0 < d := by
          rcases Nat.eq_zero_or_pos d with z | z
          · subst z
            exact absurd h (by decide)
          · exact z
        refine ⟨_, rfl, _, rfl, .inl ⟨c, rfl, _, rfl, _, _, rfl, rfl, by show (0 : Int) < d; omega, _, _, rfl, ⟨rfl, d, c % d, rfl, ?_⟩, ?_⟩⟩
        · rw [← g]
          exact (Nat.gcd_comm d (c % d)).trans ((Nat.gcd_rec d c).symm.trans (Nat.gcd_comm d c))
        · show ((c : Int) % (d : Int)).natAbs < (d : Int).natAbs
          have := Nat.mod_lt c hd
          omega
      · have hd : d = 0 := by
          by_cases z : d = 0
          · exact z
          · exact absurd (ne_true fun e => z (by injection e with e; omega)) h
        subst hd
        refine ⟨_, rfl, ?_⟩
        rw [← g, Nat.gcd_zero_right] at hQ
        exact hQ
    · obtain ⟨v, e, h1, k, e2, h2⟩ := h
      exact ⟨v, e, h1, k, e2, hq _ _ h2⟩
/-! ### round_of -/
theorem lcm_step {L f t : Nat} (hL : 0 < L) (hf : f ∣ L) (ht : t ∣ L) : f / Nat.gcd f t * t ∣ L ∧ 0 < f / Nat.gcd f t * t := by
  have e : f / Nat.gcd f t * t = Nat.lcm f t := Nat.div_mul_right_comm (Nat.gcd_dvd_left f t) t
  have d : Nat.lcm f t ∣ L := Nat.lcm_dvd hf ht
  rw [e]
  exact ⟨d, Nat.pos_of_dvd_of_pos d hL⟩
def spRound (K : PySem.W.Frag) : Sp := fun vs H Q _ => ∃ (v : V) (h : House) (L : Nat), vs = [v] ∧ Tp K H v (dHouse h) ∧ h.OkL L ∧ ∀ (f : Nat) H', f ≤ L → Ex H H' → Q (.int f) H'
theorem sc24 : FnScope ["house", "found", "body", "term", "phase", "way"] ["house"] (defScope (top 24)) := ⟨rfl, rfl, rfl, by decide +kernel, rfl, by decide +kernel, by decide +kernel⟩
theorem ok_round_of (T : Txt K mg) : GOk P w K mg base CX0 2 "round_of" ["house"] (spRound K) := by
  have nd := sc24.nd
  have G_common := ok_common (P := P) (w := w) (base := base) T
  refine gok (T.df (24, "round_of") (by decide +kernel)) sc24 (fun _ _ _ _ _ _ us hl => match us, hl with | [_], _ => rfl) (fun vs H Q E h => ?_) (fun f cdv A outer s H vs Q E hr h => ?_)
  · obtain ⟨_, _, _, rfl, _⟩ := h
    rfl
  · obtain ⟨v, h, L, rfl, hv, ok, hQ⟩ := h
    refine ⟨_, (pss_cons (ps_set (i := 1) nd rfl (Or.inl rfl) (pe_int))
       (pss_cons (ps_for PassesOwn.never rfl (pi_tup (pe_ix ix_tup (pv 0) (pe_int) (fun _ _ => rfl))) (pg_name (i := 2) nd rfl (Or.inl rfl)) (pss_one (ps_for PassesOwn.never rfl (pi_tup (pv 2)) (pg_tup rfl (pgs_cons (pg_name (i := 3) nd rfl (Or.inl rfl)) (pgs_cons (pg_name (i := 4) nd rfl (Or.inl rfl)) (pgs_cons (pg_name (i := 5) nd rfl (Or.inl rfl)) pgs_nil)))) (pss_one (ps_set (i := 1) nd rfl (Or.inl rfl) (pe_op op_mul (pe_op op_fdivN (pv 1) (pe_g G_common hr pass0 (pa_cons (pv 1) (pa_cons (pv 3) pa_nil)))) (pv 3)))))))
       (pss_one (ps_ret (pv 1))))), ?_⟩
    obtain ⟨a, xs, rfl, s, t⟩ := hv.tup_inv
    obtain ⟨_, _, rfl, h0, t⟩ := t.cons_inv
    obtain ⟨ab, bs, rfl, sb, tb⟩ := h0.tup_inv
    refine ⟨_, rfl, a, _, _, _, rfl, rfl, s, atI_nat (j := 0) rfl, ab, rfl, ⟨_, sb⟩, for_tup (xs := bs) (fun _ σ H' => H' = H ∧ ∃ (f : Nat) (o1 o2 o3 o4 : Option V), f ∣ L ∧ 0 < f ∧ σ = [some (.ref a), some (.int f), o1, o2, o3, o4]) ⟨rfl, 1, none, none, none, none, ⟨L, (Nat.one_mul L).symm⟩, Nat.one_pos, rfl⟩ (fun i σ H' hi p => by rw [p.1]; exact sb) (fun i x σ H' hx p => ?_) (fun σ H' p => ?_)⟩
    · obtain ⟨rfl, f, o1, o2, o3, o4, fL, f0, rfl⟩ := p
      obtain ⟨d, hd, tx⟩ := tb.get' hx
      rw [List.getElem?_map] at hd
      obtain ⟨b, hb, rfl⟩ := Option.map_eq_some_iff.mp hd
      obtain ⟨ax, ss, rfl, sx, ts⟩ := tx.tup_inv
      refine ⟨_, rfl, ax, rfl, ⟨_, sx⟩, for_tup (xs := ss) (fun _ σ H2 => H2 = H' ∧ ∃ (f : Nat) (o1 o2 o3 o4 : Option V), f ∣ L ∧ 0 < f ∧ σ = [some (.ref a), some (.int f), o1, o2, o3, o4]) ⟨rfl, f, _, _, _, _, fL, f0, rfl⟩ (fun i σ H2 hi p => by rw [p.1]; exact sx) (fun i y σ H2 hy p => ?_) (fun σ H2 p => p)⟩
      obtain ⟨rfl, f, o1, o2, o3, o4, fL, f0, rfl⟩ := p
      obtain ⟨d, hd, ty⟩ := ts.get' hy
      rw [List.getElem?_map] at hd
      obtain ⟨st, hs, rfl⟩ := Option.map_eq_some_iff.mp hd
      have sok := ok.seats b (List.mem_of_getElem? hb) st (List.mem_of_getElem? hs)
      obtain ⟨ay, zs, rfl, sy, tz⟩ := ty.tup_inv
      obtain ⟨_, _, rfl, k0, tz⟩ := tz.cons_inv
      obtain ⟨_, _, rfl, k1, tz⟩ := tz.cons_inv
      obtain ⟨_, _, rfl, k2, tz⟩ := tz.cons_inv
      obtain rfl := tz.nil_inv
      obtain rfl := k0.int_inv
      obtain rfl := k1.int_inv
      obtain ⟨g1, g2⟩ := lcm_step ok.l0 fL sok.dvd
      have fl : f ≤ 12 := Nat.le_trans (Nat.le_of_dvd ok.l0 fL) ok.l12
      have gp : 0 < Nat.gcd f st.term := Nat.gcd_pos_of_pos_left _ f0
      have gl : Nat.gcd f st.term ≤ f := Nat.gcd_le_left _ f0
      refine ⟨ay, _, rfl, sy, rfl, ?_⟩
      have e2 : (f : Int).fdiv (Nat.gcd f st.term : Nat) = ((f / Nat.gcd f st.term : Nat) : Int) := by
        rw [Int.fdiv_eq_ediv_of_nonneg _ (Int.natCast_nonneg _)]
        rfl
      have e : ((f : Int).fdiv (Nat.gcd f st.term : Nat)) * (st.term : Int) = ((f / Nat.gcd f st.term * st.term : Nat) : Int) := by
        rw [e2]
        rfl
      refine ⟨_, _, rfl, _, _, rfl, _, _, rfl, rfl, _, rfl, _, rfl, _, rfl, f, st.term, rfl, _, _, rfl, rfl, ⟨by omega, by show (Nat.gcd f st.term : Int).natAbs < _; omega⟩, _, rfl, _, _, rfl, rfl, .inl ?_, rfl, f / Nat.gcd f st.term * st.term, o1, some (.int st.term), some (.int st.phase), _, g1, g2, by rw [← e]; rfl⟩
      have : f / Nat.gcd f st.term ≤ f := Nat.div_le_self _ _
      show -(2 ^ 64) < ((f : Int).fdiv (Nat.gcd f st.term : Nat)) ∧ ((f : Int).fdiv (Nat.gcd f st.term : Nat)) < 2 ^ 64
      rw [e2]
      exact ⟨Int.lt_of_lt_of_le (by decide) (Int.natCast_nonneg _), Int.lt_of_le_of_lt (Int.ofNat_le.mpr this) (by omega)⟩
    · obtain ⟨rfl, f, o1, o2, o3, o4, fL, f0, rfl⟩ := p
      exact ⟨_, rfl, hQ f _ (Nat.le_of_dvd ok.l0 fL) (.refl _)⟩
/-! ### need_bodies -/
def spBodies (K : PySem.W.Frag) : Sp := fun vs H Q _ => ∃ (v : V) (h : House) (L : Nat), vs = [v, .int h.wards] ∧ Tp K H v (dBodies h.bodies) ∧ h.OkL L ∧ ∀ H', Ex H H' → Q .non H'
theorem sc25 : FnScope ["bodies", "wards", "number", "body", "place", "seat"] ["bodies", "wards"] (defScope (top 25)) := ⟨rfl, rfl, rfl, by decide +kernel, rfl, by decide +kernel, by decide +kernel⟩
theorem ok_need_bodies (T : Txt K mg) : GOk P w K mg base CX0 4 "need_bodies" ["bodies", "wards"] (spBodies K) := by
  have nd := sc25.nd
  have G_is_seat := ok_is_seat (P := P) (w := w) (base := base) T
  refine gok (T.df (25, "need_bodies") (by decide +kernel)) sc25 (fun _ _ _ _ _ _ us hl => match us, hl with | [_, _], _ => rfl) (fun vs H Q E h => ?_) (fun f cdv A outer s H vs Q E hr h => ?_)
  · obtain ⟨_, _, _, rfl, _⟩ := h
    rfl
  · obtain ⟨v, h, L, rfl, hv, ok, hQ⟩ := h
    have mb_enumerate := T.no "enumerate" (by decide +kernel)
    have mb_isinstance := T.no "isinstance" (by decide +kernel)
    have mb_len := T.no "len" (by decide +kernel)
    have mb_tuple := T.no "tuple" (by decide +kernel)
    have cMOST_BODIES := T.int ("MOST_BODIES", 3) (by decide +kernel)
    have cMOST_SEATS := T.int ("MOST_SEATS", 9) (by decide +kernel)
    refine ⟨_, (pss_cons (ps_if (PW.pt (pw_or (pt_not (pt_val (pe_isi "tuple" (pv 0) mb_isinstance mb_tuple))) (pw_or1 (pt_not (pt_chain op_le op_le (pe_int) (pe_callB call_len_seq rfl mb_len PySem.boot_len (pa_cons (pv 0) pa_nil)) (pe_ci cMOST_BODIES)))))) (pss_one (ps_never)) pss_nil)
       (pss_one (ps_for PassesOwn.never rfl (pi_enumS mb_enumerate (pa_cons (pv 0) pa_nil)) (pg_tup rfl (pgs_cons (pg_name (i := 2) nd rfl (Or.inl rfl)) (pgs_cons (pg_name (i := 3) nd rfl (Or.inl rfl)) pgs_nil))) (pss_cons (ps_if (PW.pt (pw_or (pt_not (pt_val (pe_isi "tuple" (pv 3) mb_isinstance mb_tuple))) (pw_or1 (pt_not (pt_chain op_le op_le (pe_int) (pe_callB call_len_seq rfl mb_len PySem.boot_len (pa_cons (pv 3) pa_nil)) (pe_ci cMOST_SEATS)))))) (pss_one (ps_never)) pss_nil)
       (pss_one (ps_for PassesOwn.never rfl (pi_enumS mb_enumerate (pa_cons (pv 3) pa_nil)) (pg_tup rfl (pgs_cons (pg_name (i := 4) nd rfl (Or.inl rfl)) (pgs_cons (pg_name (i := 5) nd rfl (Or.inl rfl)) pgs_nil))) (pss_one (ps_if (pt_not (pt_val (pe_g G_is_seat hr pass0 (pa_cons (pv 5) (pa_cons (pe_callB call_len_seq rfl mb_len PySem.boot_len (pa_cons (pv 0) pa_nil)) (pa_cons (pv 1) pa_nil)))))) (pss_one (ps_never)) pss_nil)))))))), ?_⟩
    obtain ⟨a, xs, rfl, s, t⟩ := hv.tup_inv
    have hl : xs.length = h.bodies.length := by rw [t.len, List.length_map]
    have b1 := ok.b1
    have b3 := ok.b3
    have bw := ok.wd
    refine ⟨_, rfl, rfl, _, true, sqt_ty s, kit_ty (by decide +kernel), _, rfl, iteF ?_⟩
    have sl : ∀ {n : Nat}, n ≤ 9 → (n : Int) ≤ 9 := fun h => by omega
    refine ⟨_, rfl, a, _, rfl, .inr s, _, _, rfl, rfl, _, rfl, ?_⟩
    refine (show if decide ((1 : Int) ≤ (xs.length : Int)) = true then _ else _ from ?_)
    refine iteD (by omega) ⟨_, _, rfl, rfl, ?_⟩
    refine ⟨_, rfl, iteND (show (xs.length : Int) ≤ 3 by omega) ?_⟩
    refine ⟨_, rfl, .ref a, xs, rfl, .tup s, for_it walk_E (fun _ σ H' => Ex H H' ∧ ∃ o1 o2 o3 o4 : Option V, σ = [some (.ref a), some (.int h.wards), o1, o2, o3, o4]) ⟨.refl _, none, none, none, none, rfl⟩ (fun i σ H' _ p => (Src.tup s).ex p.1) (fun i x σ H1 H2 hi p y => ?_) (fun σ H' p => hQ _ p.1)⟩
    obtain ⟨e1, o1, o2, o3, o4, rfl⟩ := p
    obtain ⟨T1, x1, y1, rfl, n1, rfl, h1, h2⟩ := y
    cases h1
    obtain ⟨d, hd, ty⟩ := t.get' h2
    rw [List.getElem?_map] at hd
    obtain ⟨b, hb, rfl⟩ := Option.map_eq_some_iff.mp hd
    obtain ⟨ay, zs, rfl, sy, tz⟩ := ty.tup_inv
    have sz := ok.sz b (List.mem_of_getElem? hb)
    have hz : zs.length = b.length := by rw [tz.len, List.length_map]
    have e2 := e1.trans (.new (o := .tup [.int (i : Nat), .ref ay]) n1)
    have sy2 := SqT.kp (T := []) (b := false) (S := []) (.of_ex e2) sy
    refine ⟨T1, _, rfl, SqT.of upd_same, rfl, _, _, rfl, _, _, rfl, rfl, ?_⟩
    refine ⟨_, rfl, rfl, _, true, sqt_ty sy2, kit_ty (by decide +kernel), _, rfl, iteF ?_⟩
    refine ⟨_, rfl, ay, _, rfl, .inr sy2, _, _, rfl, rfl, _, rfl, ?_⟩
    refine iteD (by omega) ⟨_, _, rfl, rfl, ?_⟩
    refine ⟨_, rfl, iteND (show (zs.length : Int) ≤ 9 by omega) ?_⟩
    refine ⟨_, rfl, .ref ay, zs, rfl, .tup sy2, for_it walk_E (fun _ σ H' => Ex H H' ∧ ∃ o1 o2 o3 o4 : Option V, σ = [some (.ref a), some (.int h.wards), o1, o2, o3, o4]) ⟨e2, _, _, _, _, rfl⟩ (fun i σ H' _ p => (Src.tup sy).ex p.1) (fun j x σ H3 H4 hj p y => ?_) (fun σ H' p => p)⟩
    obtain ⟨e3, o1, o2, o3, o4, rfl⟩ := p
    obtain ⟨T2, x1, y1, rfl, n2, rfl, h1, h2⟩ := y
    cases h1
    obtain ⟨d, hd, ty⟩ := tz.get' h2
    rw [List.getElem?_map] at hd
    obtain ⟨st, hs, rfl⟩ := Option.map_eq_some_iff.mp hd
    have sok := ok.seats b (List.mem_of_getElem? hb) st (List.mem_of_getElem? hs)
    have e4 := e3.trans (.new (o := .tup [.int (j : Nat), y1]) n2)
    refine ⟨T2, _, rfl, SqT.of upd_same, rfl, _, _, rfl, _, _, rfl, rfl, ?_⟩
    refine ⟨_, rfl, _, rfl, a, _, rfl, .inr (SqT.kp (T := []) (b := false) (S := []) (.of_ex e4) s), _, rfl, ?_⟩
    refine ⟨_, st, L, h.bodies.length, h.wards, by rw [hl]; rfl, ty.ex e4, sok, by omega, by omega, fun H' e5 => ⟨_, rfl, iteF ⟨e4.trans e5, _, _, _, _, rfl⟩⟩⟩
end
end T93
-- Lo
set_option maxHeartbeats 2000000
/-! T93, part o: need_house, letters, stands. -/
namespace T93
open PySem PySem.Spec PyProof.Rows L2
section
variable {P : Program} {w : World} {K : PySem.W.Frag} {mg : Str → Option Value} {base : Heap}
theorem sum_cast : ∀ l : List (List Seat), (l.map fun b => ((b.length : Nat) : Int)).sum = (((l.map List.length).sum : Nat) : Int)
  | [] => rfl
  | b :: r => by
    rw [List.map_cons, List.map_cons, List.sum_cons, List.sum_cons, sum_cast r]
    omega
/-! ### need_house -/
def spHouse (K : PySem.W.Frag) : Sp := fun vs H Q _ => ∃ (v : V) (h : House), vs = [v] ∧ Tp K H v (dHouse h) ∧ h.Ok ∧ ∀ H', Ex H H' → Q v H'
theorem sc26 : FnScope ["house", "body"] ["house"] (defScope (top 26)) := ⟨rfl, rfl, rfl, by decide +kernel, rfl, by decide +kernel, by decide +kernel⟩
theorem ok_need_house (T : Txt K mg) : GOk P w K mg base CX0 5 "need_house" ["house"] (spHouse K) := by
  have nd := sc26.nd
  have G_is_whole := ok_is_whole (P := P) (w := w) (base := base) T
  have G_need_bodies := ok_need_bodies (P := P) (w := w) (base := base) T
  have G_round_of := ok_round_of (P := P) (w := w) (base := base) T
  refine gok (T.df (26, "need_house") (by decide +kernel)) sc26 (fun _ _ _ _ _ _ us hl => match us, hl with | [_], _ => rfl) (fun vs H Q E h => ?_) (fun f cdv A outer s H vs Q E hr h => ?_)
  · obtain ⟨_, _, rfl, _⟩ := h
    rfl
  · obtain ⟨v, h, rfl, hv, ⟨L, ok⟩, hQ⟩ := h
    have mb_isinstance := T.no "isinstance" (by decide +kernel)
    have mb_len := T.no "len" (by decide +kernel)
    have mb_sum := T.no "sum" (by decide +kernel)
    have mb_tuple := T.no "tuple" (by decide +kernel)
    have cMOST_ROUND := T.int ("MOST_ROUND", 12) (by decide +kernel)
    have cMOST_SEATS := T.int ("MOST_SEATS", 9) (by decide +kernel)
    have cMOST_WARDS := T.int ("MOST_WARDS", 4) (by decide +kernel)
    refine ⟨_, (pss_cons (ps_if (PW.pt (pw_or (pt_not (pt_val (pe_isi "tuple" (pv 0) mb_isinstance mb_tuple))) (pw_or1 (pt_cmpR op_ne (pe_callB call_len_seq rfl mb_len PySem.boot_len (pa_cons (pv 0) pa_nil)) (pe_int) (nomark _))))) (pss_one (ps_never)) pss_nil)
       (pss_cons (ps_if (pt_not (pt_val (pe_g G_is_whole hr pass0 (pa_cons (pe_ix ix_tup (pv 0) (pe_int) (fun _ _ => rfl)) (pa_cons (pe_int) (pa_cons (pe_ci cMOST_WARDS) pa_nil)))))) (pss_one (ps_never)) pss_nil)
       (pss_cons (ps_expr (pe_g G_need_bodies hr pass0 (pa_cons (pe_ix ix_tup (pv 0) (pe_int) (fun _ _ => rfl)) (pa_cons (pe_ix ix_tup (pv 0) (pe_int) (fun _ _ => rfl)) pa_nil))))
       (pss_cons (ps_if (pt_cmpR op_gt (pe_callB (cr_sum rfl) rfl mb_sum (by decide +kernel) (pa_cons (pe_lc (own := [("body", 1)]) rfl nd (pi_tup (pe_ix ix_tup (pv 0) (pe_int) (fun _ _ => rfl))) (blkOk_by (own := [("body", 1)]) (N := ["house", "body"]) (sc := (defScope (top 26))) (by decide +kernel)) (fun _ _ _ _ _ => (pg_name (i := 1) nd rfl (Or.inl rfl))) (fun _ _ _ _ _ => pts_nil) (fun _ _ _ _ _ => (pe_callB (call_lenK K rfl) rfl mb_len PySem.boot_len (pa_cons (pv 1) pa_nil)))) pa_nil)) (pe_ci cMOST_SEATS) (nomark _)) (pss_one (ps_never)) pss_nil)
       (pss_cons (ps_if (pt_cmpR op_gt (pe_g G_round_of hr pass0 (pa_cons (pv 0) pa_nil)) (pe_ci cMOST_ROUND) (nomark _)) (pss_one (ps_never)) pss_nil)
       (pss_one (ps_ret (pv 0)))))))), ?_⟩
    obtain ⟨a, xs, rfl, s, t⟩ := hv.tup_inv
    obtain ⟨_, _, rfl, h0, t⟩ := t.cons_inv
    obtain ⟨_, _, rfl, h1, t⟩ := t.cons_inv
    obtain rfl := t.nil_inv
    obtain rfl := h1.int_inv
    have wd := ok.wd
    refine ⟨_, rfl, rfl, _, true, sqt_ty s, kit_ty (by decide +kernel), _, rfl, iteF ?_⟩
    refine ⟨_, rfl, a, _, rfl, .inr s, rfl, _, rfl, iteF ?_⟩
    refine ⟨_, rfl, a, _, _, _, rfl, rfl, s, atI_nat (j := 1) rfl, h.wards, 0, 4, rfl, ?_⟩
    rw [dec2 (by omega) (by omega)]
    refine ⟨_, rfl, iteF ?_⟩
    refine ⟨_, rfl, a, _, _, _, rfl, rfl, s, atI_nat (j := 0) rfl, _, rfl, a, _, _, _, rfl, rfl, s, atI_nat (j := 1) rfl, _, h, L, rfl, h0, ok, fun H1 e1 => ?_⟩
    obtain ⟨ab, bs, rfl, sb, tb⟩ := h0.tup_inv
    have s1 := SqT.kp (T := []) (b := false) (S := []) (.of_ex e1) s
    have sb1 := SqT.kp (T := []) (b := false) (S := []) (.of_ex e1) sb
    refine ⟨_, rfl, a, _, _, _, rfl, rfl, s1, atI_nat (j := 0) rfl, ab, rfl, ⟨_, sb1⟩, fun D nD => ?_⟩
    have hbl : bs.length = h.bodies.length := by rw [tb.len, List.length_map]
    have b3 := ok.b3
    refine lc_data (K := K) walk_tup (h.bodies.map fun b => PyData.int b.length) (by rw [List.length_map]; exact hbl) (by rw [List.length_map]; exact Nat.lt_of_le_of_lt b3 (by decide)) nD (fun H2 e => SqT.kp (T := []) (b := false) (S := []) (.of_ex e) sb1) (fun i d x H2 H3 Kx hd e y k => ?_) (fun H2 zs e hz tz => ?_)
    · obtain ⟨rfl, hx⟩ := y
      rw [List.getElem?_map] at hd
      obtain ⟨b, hb, rfl⟩ := Option.map_eq_some_iff.mp hd
      obtain ⟨d2, hd2, tx⟩ := tb.get' hx
      rw [List.getElem?_map, hb] at hd2
      obtain rfl := Option.some.inj hd2
      obtain ⟨ax, ss, rfl, sx, ts⟩ := tx.tup_inv
      have e2 := e1.trans e
      refine ⟨rfl, _, rfl, ax, _, rfl, .inr (SqT.kp (T := []) (b := false) (S := []) (.of_ex e2) sx), k _ _ (.refl _) ?_⟩
      rw [show ss.length = b.length by rw [ts.len, List.length_map]]
      exact .int _
    · have ez : zs = (h.bodies.map fun b => ((b.length : Nat) : Int)).map V.int := by
        have z : h.bodies.map (fun b => PyData.int b.length) = (h.bodies.map fun b => ((b.length : Nat) : Int)).map PyData.int := by rw [List.map_map]; rfl
        rw [z] at tz
        exact tz.of_ints
      rw [ez] at hz
      have e2 := e1.trans e
      refine ⟨D, _, rfl, SqL.of hz, _, _, rfl, rfl, _, rfl, iteDF (by rw [sum_cast]; have := ok.tot; show ¬ (9 : Int) < _; omega) ?_⟩
      have l12 := ok.l12
      refine ⟨_, rfl, _, h, L, rfl, hv.ex e2, ok, fun f H3 hf e3 => ⟨_, _, rfl, rfl, _, rfl, iteDF (show ¬ (12 : Int) < (f : Int) by omega) ?_⟩⟩
      exact ⟨_, rfl, hQ _ (e2.trans e3)⟩
theorem in_ab (c : Nat) : inV (V.str ⟨#[c]⟩) [V.str "a", V.str "b"] = (decide (c = 97) || decide (c = 98)) := by
  by_cases h1 : c = 97
  · rw [h1]
    decide +kernel
  · by_cases h2 : c = 98
    · rw [h2]
      decide +kernel
    · rw [decide_eq_false h1, decide_eq_false h2]
      have k : ∀ n : Nat, c ≠ n → ((⟨#[n]⟩ : Str) == ⟨#[c]⟩) = false := fun n hn => beq_eq_false_iff_ne.mpr fun e => by
        injection e with e
        have e2 : [n] = [c] := congrArg Array.toList e
        injection e2 with e3
        exact hn e3.symm
      show (((⟨#[97]⟩ : Str) == ⟨#[c]⟩) || (((⟨#[98]⟩ : Str) == ⟨#[c]⟩) || false)) = _
      rw [k 97 h1, k 98 h2]
      rfl
/-! ### are_letters -/
/-- all a or b, as many as asked -/
def lettersB (x : Str) (n : Nat) : Bool := decide (x.length = n) && x.cps.toList.all fun c => decide (c = 97) || decide (c = 98)
def spLetters (K : PySem.W.Frag) : Sp := fun vs H Q _ => ∃ (x : Str) (n : Nat), vs = [.str x, .int n] ∧ x.length ≤ 1000 ∧ ∀ H', Ex H H' → Q (.bl (lettersB x n)) H'
theorem sc27 : FnScope ["value", "many", "letter"] ["value", "many"] (defScope (top 27)) := ⟨rfl, rfl, rfl, by decide +kernel, rfl, by decide +kernel, by decide +kernel⟩
theorem ok_are_letters (T : Txt K mg) : GOk P w K mg base CX0 1 "are_letters" ["value", "many"] (spLetters K) := by
  have nd := sc27.nd
  refine gok (T.df (27, "are_letters") (by decide +kernel)) sc27 (fun _ _ _ _ _ _ us hl => match us, hl with | [_, _], _ => rfl) (fun vs H Q E h => ?_) (fun f cdv A outer s H vs Q E hr h => ?_)
  · obtain ⟨_, _, rfl, _⟩ := h
    rfl
  · obtain ⟨x, n, rfl, hz, hQ⟩ := h
    obtain ⟨aS, gS, sS⟩ := T.sides
    have mb_all := T.no "all" (by decide +kernel)
    have mb_isinstance := T.no "isinstance" (by decide +kernel)
    have mb_len := T.no "len" (by decide +kernel)
    have mb_str := T.no "str" (by decide +kernel)
    refine ⟨_, (pss_one (ps_ret (pe_and (pe_isi "str" (pv 0) mb_isinstance mb_str) (pe_and (pe_cmpR op_eq (pe_callB call_len_str rfl mb_len PySem.boot_len (pa_cons (pv 0) pa_nil)) (pv 1) (nomark _)) (pe_one (pe_callB (cr_all rfl) rfl mb_all (by decide +kernel) (pa_cons (pe_lc (own := [("letter", 2)]) rfl nd (pi_str (pv 0)) (blkOk_by (own := [("letter", 2)]) (N := ["value", "many", "letter"]) (sc := (defScope (top 27))) (by decide +kernel)) (fun _ _ _ _ _ => (pg_name (i := 2) nd rfl (Or.inl rfl))) (fun _ _ _ _ _ => pts_nil) (fun _ _ _ _ _ => (pe_cmpR (op_inK K rfl) (pv 2) (pe_glob rfl gS (v := .ref aS) rfl) rfl))) pa_nil))))))), ?_⟩
    refine ⟨_, rfl, rfl, _, true, .base (.str _), kit_ty (by decide +kernel), _, rfl, iteT ?_⟩
    refine ⟨_, rfl, _, rfl, Nat.le_trans hz (by decide), _, rfl, rfl, _, rfl, ?_⟩
    refine (show if decide (V.int (x.length : Int) = V.int (n : Int)) = true then _ else _ from ?_)
    by_cases hn : x.length = n
    · have hx : x.cps.toList.length = x.length := by rw [Array.length_toList]; rfl
      refine iteD (by rw [hn]) ⟨_, rfl, x, rfl, fun D nD => ?_⟩
      refine lc_data (K := K) walk_str (x.cps.toList.map fun c => PyData.bool (decide (c = 97) || decide (c = 98))) (by rw [List.length_map, Array.length_toList]) (by rw [List.length_map, hx]; exact Nat.lt_of_le_of_lt hz (by decide)) nD (fun _ _ => True.intro) (fun i d v H2 H3 Kx hd e y k => ?_) (fun H2 zs e hz tz => ?_)
      · obtain ⟨rfl, c, hc, rfl⟩ := y
        rw [List.getElem?_map] at hd
        obtain ⟨c2, hc2, rfl⟩ := Option.map_eq_some_iff.mp hd
        rw [← Array.getElem?_toList, hc2] at hc
        obtain rfl := Option.some.inj hc
        refine ⟨rfl, _, rfl, aS, _, rfl, .inr (sS _), rfl, rfl, k _ _ (.refl _) ?_⟩
        rw [show (if false = true then !inV (V.str ⟨#[c2]⟩) [V.str "a", V.str "b"] else inV (V.str ⟨#[c2]⟩) [V.str "a", V.str "b"]) = (decide (c2 = 97) || decide (c2 = 98)) from in_ab c2]
        exact .bl _
      · have ez : zs = (x.cps.toList.map fun c => decide (c = 97) || decide (c = 98)).map V.bl := by
          have z : x.cps.toList.map (fun c => PyData.bool (decide (c = 97) || decide (c = 98))) = (x.cps.toList.map fun c => decide (c = 97) || decide (c = 98)).map PyData.bool := by rw [List.map_map]; rfl
          rw [z] at tz
          exact tz.of_bls
        rw [ez] at hz
        refine ⟨D, _, rfl, SqL.of hz, ?_⟩
        have q := hQ _ e
        unfold lettersB at q
        rw [decide_eq_true hn, Bool.true_and] at q
        rw [List.all_map]
        exact q
    · refine iteDF (fun z => hn (by injection z with z; omega)) ?_
      have q := hQ _ (.refl _)
      unfold lettersB at q
      rw [decide_eq_false hn, Bool.false_and] at q
      exact q
/-! ### is_stand, need_stand, need_choices -/
theorem letters_txt (r : Row) {n : Nat} (h : r.length = n) : lettersB (txt r) n = true := by
  unfold lettersB
  rw [decide_eq_true (by rw [txt_len]; exact h), Bool.true_and]
  refine List.all_eq_true.mpr fun c hc => ?_
  have hc : c ∈ r.map fun b => (if b then 97 else 98 : Nat) := by simpa [txt] using hc
  obtain ⟨b, _, rfl⟩ := List.mem_map.mp hc
  cases b <;> rfl
def spIsStand (K : PySem.W.Frag) : Sp := fun vs H Q _ => ∃ (v u : V) (h : House) (st : Stand), vs = [v, u] ∧ Tp K H v (dHouse h) ∧ Tp K H u (dStand st) ∧ h.Ok ∧ Shape h st ∧ ∀ H', Ex H H' → Q (.bl true) H'
theorem sc28 : FnScope ["house", "value", "row", "body"] ["house", "value"] (defScope (top 28)) := ⟨rfl, rfl, rfl, by decide +kernel, rfl, by decide +kernel, by decide +kernel⟩
theorem ok_is_stand (T : Txt K mg) : GOk P w K mg base CX0 2 "is_stand" ["house", "value"] (spIsStand K) := by
  have nd := sc28.nd
  have G_are_letters := ok_are_letters (P := P) (w := w) (base := base) T
  refine gok (T.df (28, "is_stand") (by decide +kernel)) sc28 (fun _ _ _ _ _ _ us hl => match us, hl with | [_, _], _ => rfl) (fun vs H Q E h => ?_) (fun f cdv A outer s H vs Q E hr h => ?_)
  · obtain ⟨_, _, _, _, rfl, _⟩ := h
    rfl
  · obtain ⟨v, u, h, st, rfl, hv, hu, ⟨L, ok⟩, sh, hQ⟩ := h
    have mb_all := T.no "all" (by decide +kernel)
    have mb_isinstance := T.no "isinstance" (by decide +kernel)
    have mb_len := T.no "len" (by decide +kernel)
    have mb_tuple := T.no "tuple" (by decide +kernel)
    have mb_zip := T.no "zip" (by decide +kernel)
    refine ⟨_, (pss_cons (ps_if (PW.pt (pw_or (pt_not (pt_val (pe_isi "tuple" (pv 1) mb_isinstance mb_tuple))) (pw_or1 (pt_cmpR op_ne (pe_callB call_len_seq rfl mb_len PySem.boot_len (pa_cons (pv 1) pa_nil)) (pe_callB call_len_seq rfl mb_len PySem.boot_len (pa_cons (pe_ix ix_tup (pv 0) (pe_int) (fun _ _ => rfl)) pa_nil)) (nomark _))))) (pss_one (ps_ret (pe_bl))) pss_nil)
       (pss_one (ps_ret (pe_callB (cr_all rfl) rfl mb_all (by decide +kernel) (pa_cons (pe_lc (own := [("row", 2), ("body", 3)]) rfl nd (pi_zipS mb_zip (pa_cons (pv 1) (pa_cons (pe_ix ix_tup (pv 0) (pe_int) (fun _ _ => rfl)) pa_nil))) (blkOk_by (own := [("row", 2), ("body", 3)]) (N := ["house", "value", "row", "body"]) (sc := (defScope (top 28))) (by decide +kernel)) (fun _ _ _ _ _ => (pg_tupK K 2 rfl rfl (pgs_cons (pg_name (i := 2) nd rfl (Or.inl rfl)) (pgs_cons (pg_name (i := 3) nd rfl (Or.inl rfl)) pgs_nil)))) (fun _ _ _ _ _ => pts_nil) (fun _ _ _ _ _ => (pe_g G_are_letters hr pass0 (pa_cons (pv 2) (pa_cons (pe_callB (call_lenK K rfl) rfl mb_len PySem.boot_len (pa_cons (pv 3) pa_nil)) pa_nil))))) pa_nil))))), ?_⟩
    obtain ⟨a, xs, rfl, s, t⟩ := hv.tup_inv
    obtain ⟨_, _, rfl, h0, t⟩ := t.cons_inv
    obtain ⟨ab, bs, rfl, sb, tb⟩ := h0.tup_inv
    obtain ⟨au, rs, rfl, su, tu⟩ := hu.tup_inv
    have hbl : bs.length = h.bodies.length := by rw [tb.len, List.length_map]
    have hrl : rs.length = h.bodies.length := by rw [tu.len, List.length_map, shape_len sh]
    have b3 := ok.b3
    refine ⟨_, rfl, rfl, _, true, sqt_ty su, kit_ty (by decide +kernel), _, rfl, iteF ?_⟩
    refine ⟨_, rfl, au, _, rfl, .inr su, _, rfl, a, _, _, _, rfl, rfl, s, atI_nat (j := 0) rfl, ab, _, rfl, .inr sb, rfl, _, rfl, ?_⟩
    rw [show (!decide (V.int (rs.length : Int) = V.int (bs.length : Int))) = false by rw [hbl, hrl]; simp]
    refine iteF ?_
    refine ⟨_, rfl, _, rfl, a, _, _, _, rfl, rfl, s, atI_nat (j := 0) rfl, .ref au, .ref ab, rs, bs, rfl, .tup su, .tup sb, fun D nD => ?_⟩
    refine lc_data (K := K) walk_Z (h.bodies.map fun _ => PyData.bool true) (by rw [List.length_map, hbl, hrl, Nat.min_self]) (by rw [List.length_map]; exact Nat.lt_of_le_of_lt b3 (by decide)) nD (fun H2 e => ⟨(Src.tup su).ex e, (Src.tup sb).ex e⟩) (fun i d v H2 H3 Kx hd e y k => ?_) (fun H2 zs e hz tz => ?_)
    · obtain ⟨T1, x1, y1, rfl, n1, rfl, hx, hy⟩ := y
      obtain ⟨r, hr', tr⟩ := tu.getm hx
      obtain ⟨b, hb, tb'⟩ := tb.getm hy
      obtain rfl := tr.str_inv
      obtain ⟨ab', ss, rfl, sb', tss⟩ := tb'.tup_inv
      obtain ⟨b2, hb2, hrb⟩ := shape_row sh hr'
      rw [hb] at hb2
      obtain rfl := Option.some.inj hb2
      have hsl : ss.length = b.length := by rw [tss.len, List.length_map]
      rw [List.getElem?_map, hb] at hd
      obtain rfl := Option.some.inj hd
      have e2 := e.trans (.new (o := .tup [V.str (txt r), V.ref ab']) n1)
      have b9 := (ok.sz b (List.mem_of_getElem? hb)).2
      refine ⟨T1, _, rfl, SqT.of upd_same, rfl, _, _, rfl, _, _, rfl, rfl, rfl, _, rfl, _, rfl, ab', _, rfl, .inr (SqT.kp (T := []) (b := false) (S := []) (.of_ex e2) sb'), txt r, ss.length, rfl, by rw [txt_len]; omega, fun H5 e5 => k _ _ ((Evl.Ex.new n1).trans e5) ?_⟩
      rw [letters_txt r (by omega)]
      exact .bl _
    · have ez : zs = (h.bodies.map fun _ => true).map V.bl := by
        have z : h.bodies.map (fun _ => PyData.bool true) = (h.bodies.map fun _ => true).map PyData.bool := by rw [List.map_map]; rfl
        rw [z] at tz
        exact tz.of_bls
      rw [ez] at hz
      refine ⟨D, _, rfl, SqL.of hz, ?_⟩
      rw [show (h.bodies.map fun _ => true).all id = true from List.all_eq_true.mpr fun x hx => by
        obtain ⟨_, _, rfl⟩ := List.mem_map.mp hx
        rfl]
      exact hQ _ e
def spNeedStand (K : PySem.W.Frag) : Sp := fun vs H Q _ => ∃ (v u : V) (h : House) (st : Stand), vs = [v, u] ∧ Tp K H v (dHouse h) ∧ Tp K H u (dStand st) ∧ h.Ok ∧ Shape h st ∧ ∀ H', Ex H H' → Q u H'
theorem sc29 : FnScope ["house", "stand"] ["house", "stand"] (defScope (top 29)) := ⟨rfl, rfl, rfl, by decide +kernel, rfl, by decide +kernel, by decide +kernel⟩
theorem ok_need_stand (T : Txt K mg) : GOk P w K mg base CX0 6 "need_stand" ["house", "stand"] (spNeedStand K) := by
  have G_need_house := ok_need_house (P := P) (w := w) (base := base) T
  have G_is_stand := ok_is_stand (P := P) (w := w) (base := base) T
  refine gok (T.df (29, "need_stand") (by decide +kernel)) sc29 (fun _ _ _ _ _ _ us hl => match us, hl with | [_, _], _ => rfl) (fun vs H Q E h => ?_) (fun f cdv A outer s H vs Q E hr h => ?_)
  · obtain ⟨_, _, _, _, rfl, _⟩ := h
    rfl
  · obtain ⟨v, u, h, st, rfl, hv, hu, ok, sh, hQ⟩ := h
    refine ⟨_, (pss_cons (ps_if (pt_not (pt_val (pe_g G_is_stand hr pass0 (pa_cons (pe_g G_need_house hr pass0 (pa_cons (pv 0) pa_nil)) (pa_cons (pv 1) pa_nil))))) (pss_one (ps_never)) pss_nil)
       (pss_one (ps_ret (pv 1)))), ?_⟩
    exact ⟨_, rfl, _, h, rfl, hv, ok, fun H1 e1 => ⟨_, rfl, _, _, h, st, rfl, hv.ex e1, hu.ex e1, ok, sh, fun H2 e2 => ⟨_, rfl, iteF ⟨_, rfl, hQ _ (e1.trans e2)⟩⟩⟩⟩
/-- the choices are in order -/
def spChoices (K : PySem.W.Frag) : Sp := fun vs H Q _ => ∃ (v : V) (h : House) (r : Row), vs = [v, .str (txt r)] ∧ Tp K H v (dHouse h) ∧ r.length = h.wards ∧ h.wards ≤ 1000 ∧ ∀ H', Ex H H' → Q .non H'
theorem sc30 : FnScope ["house", "choices"] ["house", "choices"] (defScope (top 30)) := ⟨rfl, rfl, rfl, by decide +kernel, rfl, by decide +kernel, by decide +kernel⟩
theorem ok_need_choices (T : Txt K mg) : GOk P w K mg base CX0 2 "need_choices" ["house", "choices"] (spChoices K) := by
  have G_are_letters := ok_are_letters (P := P) (w := w) (base := base) T
  refine gok (T.df (30, "need_choices") (by decide +kernel)) sc30 (fun _ _ _ _ _ _ us hl => match us, hl with | [_, _], _ => rfl) (fun vs H Q E h => ?_) (fun f cdv A outer s H vs Q E hr h => ?_)
  · obtain ⟨_, _, _, rfl, _⟩ := h
    rfl
  · obtain ⟨v, h, r, rfl, hv, hl, hw, hQ⟩ := h
    refine ⟨_, (pss_one (ps_if (pt_not (pt_val (pe_g G_are_letters hr pass0 (pa_cons (pv 1) (pa_cons (pe_ix ix_tup (pv 0) (pe_int) (fun _ _ => rfl)) pa_nil))))) (pss_one (ps_never)) pss_nil)), ?_⟩
    obtain ⟨a, xs, rfl, s, t⟩ := hv.tup_inv
    obtain ⟨_, _, rfl, h0, t⟩ := t.cons_inv
    obtain ⟨_, _, rfl, h1, t⟩ := t.cons_inv
    obtain rfl := t.nil_inv
    obtain rfl := h1.int_inv
    refine ⟨_, rfl, _, rfl, a, _, _, _, rfl, rfl, s, atI_nat (j := 1) rfl, txt r, h.wards, rfl, by rw [txt_len]; omega, fun H1 e1 => ?_⟩
    rw [letters_txt r hl]
    exact ⟨_, rfl, iteF (hQ _ e1)⟩
end
end T93
-- Lp
set_option maxHeartbeats 2000000
/-! T93, part p: years. -/
namespace T93
open PySem PySem.Spec PyProof.Rows L2
section
variable {P : Program} {w : World} {K : PySem.W.Frag} {mg : Str → Option Value} {base : Heap}
/-! ### comes_up -/
def spDue (K : PySem.W.Frag) : Sp := fun vs H Q _ => ∃ (v : V) (x : Seat) (t : Nat), vs = [v, .int t] ∧ Tp K H v (dSeat x) ∧ 0 < x.term ∧ ∀ H', Ex H H' → Q (.bl (dueB t x)) H'
theorem sc33 : FnScope ["seat", "number"] ["seat", "number"] (defScope (top 33)) := ⟨rfl, rfl, rfl, by decide +kernel, rfl, by decide +kernel, by decide +kernel⟩
theorem ok_comes_up (T : Txt K mg) : GOk P w K mg base CX0 1 "comes_up" ["seat", "number"] (spDue K) := by
  refine gok (T.df (33, "comes_up") (by decide +kernel)) sc33 (fun _ _ _ _ _ _ us hl => match us, hl with | [_, _], _ => rfl) (fun vs H Q E h => ?_) (fun f cdv A outer s H vs Q E hr h => ?_)
  · obtain ⟨_, _, _, rfl, _⟩ := h
    rfl
  · obtain ⟨v, x, t, rfl, hv, hx, hQ⟩ := h
    have mb_int := T.no "int" (by decide +kernel)
    refine ⟨_, (pss_one (ps_ret (pe_cmpR op_eq (pe_op op_mod (pe_callTy call_int1 rfl mb_int boot_int (pa_cons (pe_op op_sub (pv 1) (pe_ix ix_tup (pv 0) (pe_int) (fun _ _ => rfl))) pa_nil)) (pe_ix ix_tup (pv 0) (pe_int) (fun _ _ => rfl))) (pe_int) (nomark _)))), ?_⟩
    obtain ⟨a, xs, rfl, s, t'⟩ := hv.tup_inv
    obtain ⟨_, _, rfl, h0, t'⟩ := t'.cons_inv
    obtain ⟨_, _, rfl, h1, t'⟩ := t'.cons_inv
    obtain ⟨_, _, rfl, h2, t'⟩ := t'.cons_inv
    obtain rfl := t'.nil_inv
    obtain rfl := h0.int_inv
    obtain rfl := h1.int_inv
    refine ⟨_, rfl, _, rfl, a, _, _, _, rfl, rfl, s, atI_nat (j := 1) rfl, _, _, rfl, rfl, .inl ⟨_, rfl, ?_⟩⟩
    refine ⟨_, rfl, a, _, _, _, rfl, rfl, s, atI_nat (j := 0) rfl, _, _, rfl, rfl, by show (0 : Int) < x.term; omega, rfl, ?_⟩
    have q := hQ _ (.refl _)
    have e : decide (V.int (((t : Int) - (x.phase : Int)) % (x.term : Int)) = V.int 0) = dueB t x := by
      unfold dueB
      rw [dec_int]
      rfl
    rw [← e] at q
    exact q
/-! ### more_of -/
def mostS (r : Row) : Str := match most r with
  | none => "="
  | some b => lt b
theorem cnt_txt : ∀ r : Row, Txt.count (txt r) "a" = (r.count true : Int) := by
  intro r
  rw [show ("a" : Str) = ⟨#[97]⟩ from rfl, count_cnt]
  show cnt 97 (r.map fun b => (if b then 97 else 98 : Nat)).toArray.toList = _
  rw [List.toList_toArray]
  induction r with
  | nil => rfl
  | cons b r ih =>
    rw [List.map_cons, cnt_cons, ih, List.count_cons]
    cases b <;> simp <;> omega
def spMore : Sp := fun vs H Q _ => ∃ r : Row, vs = [.str (txt r)] ∧ r.length ≤ 1000 ∧ Q (.str (mostS r)) H
theorem sc34 : FnScope ["letters", "ahead"] ["letters"] (defScope (top 34)) := ⟨rfl, rfl, rfl, by decide +kernel, rfl, by decide +kernel, by decide +kernel⟩
theorem ok_more_of (T : Txt K mg) : GOk P w K mg base CX0 1 "more_of" ["letters"] spMore := by
  have nd := sc34.nd
  refine gok (T.df (34, "more_of") (by decide +kernel)) sc34 (fun _ _ _ _ _ _ us hl => match us, hl with | [_], _ => rfl) (fun vs H Q E h => ?_) (fun f cdv A outer s H vs Q E hr h => ?_)
  · obtain ⟨_, rfl, _⟩ := h
    rfl
  · obtain ⟨r, rfl, hl, hQ⟩ := h
    have mb_len := T.no "len" (by decide +kernel)
    have cEVEN := T.str ("EVEN", "=") (by decide +kernel)
    have cSIDE_A := T.str ("SIDE_A", "a") (by decide +kernel)
    have cSIDE_B := T.str ("SIDE_B", "b") (by decide +kernel)
    refine ⟨_, (pss_cons (ps_set (i := 1) nd rfl (Or.inl rfl) (pe_op op_sub (pe_op op_mul (pe_m1 PySem.F.slot_str_count PySem.F.type_str_count mt_count (pv 0) (pe_cs cSIDE_A)) (pe_int)) (pe_callB call_len_str rfl mb_len PySem.boot_len (pa_cons (pv 0) pa_nil))))
       (pss_one (ps_ret (pe_ifExp (pt_cmpR op_eq (pv 1) (pe_int) (nomark _)) (pe_cs cEVEN) (pe_ifExp (pt_cmpR op_gt (pv 1) (pe_int) (nomark _)) (pe_cs cSIDE_A) (pe_cs cSIDE_B)))))), ?_⟩
    have lt1 := txt_len r
    have hc : r.count true ≤ r.length := List.count_le_length
    have ea : Txt.count (txt r) "a" * 2 - ((txt r).length : Int) = ahead r := by
      rw [cnt_txt, lt1]
      unfold ahead
      omega
    have hb : -(2 ^ 64) < Txt.count (txt r) "a" ∧ Txt.count (txt r) "a" < 2 ^ 64 := by
      rw [cnt_txt]
      constructor <;> omega
    refine ⟨_, rfl, ⟨_, rfl⟩, txt r, _, rfl, rfl, _, _, rfl, rfl, .inl hb, _, rfl, txt r, rfl, by rw [lt1]; exact Nat.le_trans hl (by decide), _, _, rfl, rfl, ?_⟩
    refine ⟨_, rfl, rfl, _, rfl, ?_⟩
    refine (show if decide (V.int (Txt.count (txt r) "a" * 2 - ((txt r).length : Int)) = V.int 0) = true then _ else _ from ?_)
    rw [ea, dec_int]
    unfold mostS most at hQ
    by_cases h0 : ahead r = 0
    · rw [if_pos h0] at hQ
      rw [h0]
      exact iteT hQ
    · rw [if_neg h0] at hQ
      rw [beq_eq_false_iff_ne.mpr h0]
      refine iteF ⟨_, rfl, _, _, rfl, rfl, _, rfl, ?_⟩
      refine (show if decide ((0 : Int) < Txt.count (txt r) "a" * 2 - ((txt r).length : Int)) = true then _ else _ from ?_)
      rw [ea]
      by_cases h1 : 0 < ahead r
      · rw [decide_eq_true h1] at hQ ⊢
        exact iteT hQ
      · rw [decide_eq_false h1] at hQ ⊢
        exact iteF hQ
/-! ### told_by -/
def tellV : Option Bool → V
  | none => .non
  | some b => .str (lt b)
theorem txt_at {r : Row} {i : Nat} {b : Bool} (h : r[i]? = some b) : atI (txt r).cps.toList (i : Int) = some (if b then 97 else 98) := by
  refine atI_nat ?_
  show (r.map fun b => (if b then 97 else 98 : Nat)).toArray.toList[i]? = _
  rw [List.toList_toArray, List.getElem?_map, h]
  rfl
theorem str_ext {a b : Str} (h : a.cps.toList = b.cps.toList) : a = b := by
  obtain ⟨⟨a⟩⟩ := a
  obtain ⟨⟨b⟩⟩ := b
  have h : a = b := h
  rw [h]
theorem app_l (a b : Str) : (a ++ b).cps.toList = a.cps.toList ++ b.cps.toList := by
  show (a.cps ++ b.cps).toList = _
  rw [Array.toList_append]
theorem lt_l (b : Bool) : (lt b).cps.toList = [if b then 97 else 98] := by cases b <;> rfl
theorem txt_l (r : Row) : (txt r).cps.toList = r.map fun b => (if b then 97 else 98 : Nat) := rfl
theorem join_lt : ∀ l : List Bool, Str.join "" (l.map lt) = txt l
  | [] => rfl
  | [b] => by cases b <;> rfl
  | b :: c :: r => by
    refine str_ext ?_
    show ((lt b ++ "") ++ Str.join "" ((c :: r).map lt)).cps.toList = _
    rw [join_lt (c :: r), app_l, app_l, lt_l, txt_l, txt_l, List.map_cons, List.map_cons]
    rfl
theorem stay_fm (t : Nat) (r : Row) (b : List Seat) : ((r.zip b).map fun p => if dueB t p.2 = true then none else some (PyData.str (lt p.1))).filterMap id = ((stay t r b).map lt).map PyData.str := by
  unfold stay
  induction r.zip b with
  | nil => rfl
  | cons p l ih =>
    rw [List.map_cons, List.filter_cons]
    by_cases h : dueB t p.2 = true
    · rw [if_pos h, h]
      exact ih
    · rw [if_neg h]
      rw [Bool.eq_false_iff.mpr h]
      show PyData.str (lt p.1) :: _ = _
      rw [ih]
      rfl
theorem lt_sum : ∀ l : List Bool, ((l.map lt).map (·.length)).sum = l.length
  | [] => rfl
  | b :: r => by
    rw [List.map_cons, List.map_cons, List.sum_cons, lt_sum r, List.length_cons]
    have : (lt b).length = 1 := by cases b <;> rfl
    omega
theorem stay_len (t : Nat) (r : Row) (b : List Seat) : (stay t r b).length ≤ r.length := by
  unfold stay
  rw [List.length_map]
  refine Nat.le_trans (List.length_filter_le _ _) ?_
  rw [List.length_zip]
  exact Nat.min_le_left _ _
def spTold (K : PySem.W.Frag) : Sp := fun vs H Q _ => ∃ (hv sv wv : V) (h : House) (st : Stand) (t : Nat) (x : Way) (v : Row), vs = [hv, sv, .int t, wv, .str (txt v)] ∧ Tp K H hv (dHouse h) ∧ Tp K H sv (dStand st) ∧ Tp K H wv (dWay x) ∧
  h.Ok ∧ Shape h st ∧ x.Ok h.bodies.length h.wards ∧ v.length = h.wards ∧ ∀ H', Ex H H' → Q (tellV (tell h st t v x)) H'
abbrev N35 : List Str := ["house", "stand", "number", "way", "choices", "letters", "body", "found", "letter", "seat"]
theorem sc35 : FnScope N35 ["house", "stand", "number", "way", "choices"] (defScope (top 35)) := ⟨rfl, rfl, rfl, by decide +kernel, rfl, by decide +kernel, by decide +kernel⟩
theorem ok_told_by (T : Txt K mg) : GOk P w K mg base CX0 2 "told_by" ["house", "stand", "number", "way", "choices"] (spTold K) := by
  have nd := sc35.nd
  have G_comes_up := ok_comes_up (P := P) (w := w) (base := base) T
  have G_more_of := ok_more_of (P := P) (w := w) (base := base) T
  refine gok (T.df (35, "told_by") (by decide +kernel)) sc35 (fun _ _ _ _ _ _ us hl => match us, hl with | [_, _, _, _, _], _ => rfl) (fun vs H Q E h => ?_) (fun f cdv A outer s H vs Q E hr h => ?_)
  · obtain ⟨_, _, _, _, _, _, _, _, rfl, _⟩ := h
    rfl
  · obtain ⟨hv, sv, wv, h, st, t, x, v, rfl, th, ts, tx, ⟨L, ok⟩, sh, hx, hvl, hQ⟩ := h
    have mb_zip := T.no "zip" (by decide +kernel)
    have cBODY := T.str ("BODY", "body") (by decide +kernel)
    have cEVEN := T.str ("EVEN", "=") (by decide +kernel)
    have cKEPT := T.str ("KEPT", "kept") (by decide +kernel)
    have cREST := T.str ("REST", "rest") (by decide +kernel)
    have cWARD := T.str ("WARD", "ward") (by decide +kernel)
    refine ⟨_, (pss_cons (ps_if (pt_cmpR op_eq (pe_ix ix_tup (pv 3) (pe_int) (fun _ _ => rfl)) (pe_cs cWARD) (nomark _)) (pss_one (ps_ret (pe_ix ix_str (pv 4) (pe_ix ix_tup (pv 3) (pe_int) (fun _ _ => rfl)) (fun _ _ => rfl)))) pss_nil)
       (pss_cons (ps_if (pt_cmpR op_notIn_seq (pe_ix ix_tup (pv 3) (pe_int) (fun _ _ => rfl)) (pe_tup (pa_cons (pe_cs cBODY) (pa_cons (pe_cs cREST) pa_nil))) rfl) (pss_one (ps_ret (pe_non))) pss_nil)
       (pss_cons (ps_set (i := 5) nd rfl (Or.inl rfl) (pe_ix ix_tup (pv 1) (pe_ix ix_tup (pv 3) (pe_int) (fun _ _ => rfl)) (fun _ _ => rfl)))
       (pss_cons (ps_if (pt_cmpR op_eq (pe_ix ix_tup (pv 3) (pe_int) (fun _ _ => rfl)) (pe_cs cREST) (nomark _)) (pss_cons (ps_set (i := 6) nd rfl (Or.inl rfl) (pe_ix ix_tup (pe_ix ix_tup (pv 0) (pe_int) (fun _ _ => rfl)) (pe_ix ix_tup (pv 3) (pe_int) (fun _ _ => rfl)) (fun _ _ => rfl)))
       (pss_one (ps_set (i := 5) nd rfl (Or.inl rfl) (pe_join pe_str (pe_lc (own := [("letter", 8), ("seat", 9)]) rfl nd (pi_zipS mb_zip (pa_cons (pv 5) (pa_cons (pv 6) pa_nil))) (blkOk_by (own := [("letter", 8), ("seat", 9)]) (N := ["house", "stand", "number", "way", "choices", "letters", "body", "found", "letter", "seat"]) (sc := (defScope (top 35))) (by decide +kernel)) (fun _ _ _ _ _ => (pg_tupK K 2 rfl rfl (pgs_cons (pg_name (i := 8) nd rfl (Or.inl rfl)) (pgs_cons (pg_name (i := 9) nd rfl (Or.inl rfl)) pgs_nil)))) (fun _ _ _ _ _ => (pts_one (pt_not (pt_val (pe_g G_comes_up hr pass0 (pa_cons (pv 9) (pa_cons (pv 2) pa_nil))))))) (fun _ _ _ _ _ => (pv 8))))))) pss_nil)
       (pss_cons (ps_set (i := 7) nd rfl (Or.inl rfl) (pe_g G_more_of hr pass0 (pa_cons (pv 5) pa_nil)))
       (pss_cons (ps_if (pt_cmpR op_eq (pv 7) (pe_cs cEVEN) (nomark _)) (pss_one (ps_ret (pe_ifExp (pt_cmpR op_eq (pe_ix ix_tup (pv 3) (pe_int) (fun _ _ => rfl)) (pe_cs cKEPT) (nomark _)) (pe_non) (pe_ix ix_tup (pv 3) (pe_int) (fun _ _ => rfl))))) pss_nil)
       (pss_one (ps_ret (pv 7))))))))), ?_⟩
    obtain ⟨a, xs, rfl, s, tt⟩ : ∃ a xs, wv = .ref a ∧ SqT K H a xs ∧ TpAll K H xs (match x with | .ward i => [.str "ward", .int i] | .far r i s => [.str (if r then "rest" else "body"), .int i, .str (sideS s)] | .kept => [.str "kept"]) := by
      cases x <;> exact tx.tup_inv
    obtain ⟨ah, hs, rfl, sh1, th1⟩ := th.tup_inv
    obtain ⟨_, _, rfl, h0, th1⟩ := th1.cons_inv
    obtain ⟨ab, bs, rfl, sb, tb⟩ := h0.tup_inv
    obtain ⟨as, rs, rfl, ss, tr⟩ := ts.tup_inv
    have b3 := ok.b3
    have wd := ok.wd
    cases x with
    | ward i =>
      obtain ⟨_, _, rfl, k0, tt⟩ := tt.cons_inv
      obtain ⟨_, _, rfl, k1, tt⟩ := tt.cons_inv
      obtain rfl := tt.nil_inv
      obtain rfl := k0.str_inv
      obtain rfl := k1.int_inv
      have hi : i < v.length := by rw [hvl]; exact hx
      have hb : v[i]? = some v[i] := List.getElem?_eq_getElem hi
      refine ⟨_, rfl, a, _, _, _, rfl, rfl, s, atI_nat (j := 0) rfl, rfl, _, rfl, iteT ?_⟩
      refine ⟨_, rfl, _, rfl, a, _, _, _, rfl, rfl, s, atI_nat (j := 1) rfl, txt v, i, if v[i] then 97 else 98, rfl, rfl, by rw [txt_len]; exact Nat.le_trans (by omega : v.length ≤ 4) (by decide), ?_, ?_⟩
      · exact txt_at hb
      · have q := hQ _ (.refl _)
        rw [show tell h st t v (.ward i) = some v[i] from hb] at q
        cases hv : v[i] <;> rw [hv] at q <;> exact q
    | kept =>
      obtain ⟨_, _, rfl, k0, tt⟩ := tt.cons_inv
      obtain rfl := tt.nil_inv
      obtain rfl := k0.str_inv
      refine ⟨_, rfl, a, _, _, _, rfl, rfl, s, atI_nat (j := 0) rfl, rfl, _, rfl, iteF ?_⟩
      refine ⟨_, rfl, a, _, _, _, rfl, rfl, s, atI_nat (j := 0) rfl, by show 2 ≤ sizeLine; decide, fun p2 hp2 => ⟨p2, _, rfl, .inr (SqT.of upd_same), rfl, rfl, _, rfl, iteT ?_⟩⟩
      exact hQ _ (.new hp2)
    | far r i y =>
      obtain ⟨_, _, rfl, k0, tt⟩ := tt.cons_inv
      obtain ⟨_, _, rfl, k1, tt⟩ := tt.cons_inv
      obtain ⟨_, _, rfl, k2, tt⟩ := tt.cons_inv
      obtain rfl := tt.nil_inv
      obtain rfl := k0.str_inv
      obtain rfl := k1.int_inv
      obtain rfl := k2.str_inv
      have hi : i < h.bodies.length := hx
      obtain ⟨b, hb⟩ : ∃ b, h.bodies[i]? = some b := ⟨_, List.getElem?_eq_getElem hi⟩
      obtain ⟨r0, hr0⟩ : ∃ r0, st[i]? = some r0 := ⟨_, List.getElem?_eq_getElem (by rw [shape_len sh]; exact hi)⟩
      obtain ⟨b', hb', hrb⟩ := shape_row sh hr0
      rw [hb] at hb'
      obtain rfl := Option.some.inj hb'
      have b9 := (ok.sz b (List.mem_of_getElem? hb)).2
      obtain ⟨vr, hvr, tvr⟩ := tr.get (i := i) (d := dRow r0) (by rw [List.getElem?_map, hr0]; rfl)
      obtain rfl := tvr.str_inv
      obtain ⟨vb, hvb, tvb⟩ := tb.get (i := i) (d := dBody b) (by rw [List.getElem?_map, hb]; rfl)
      obtain ⟨aq, zs, rfl, sq, tz⟩ := tvb.tup_inv
      have g1 : st.getD i [] = r0 := by rw [List.getD_eq_getElem?_getD, hr0]; rfl
      have g2 : h.bodies.getD i [] = b := by rw [List.getD_eq_getElem?_getD, hb]; rfl
      have te : tell h st t v (.far r i y) = match most (if r then stay t r0 b else r0) with
          | none => y
          | some b => some b := by
        show (match most (if r then stay t (st.getD i []) (h.bodies.getD i []) else st.getD i []) with
          | none => y
          | some b => some b) = _
        rw [g1, g2]
      rw [te] at hQ
      have e2 : decide (V.str (if r = true then "rest" else "body") = V.str "ward") = false := by cases r <;> decide +kernel
      have e3 : (!inV (V.str (if r = true then "rest" else "body")) [V.str "body", V.str "rest"]) = false := by cases r <;> decide +kernel
      refine ⟨_, rfl, a, _, _, _, rfl, rfl, s, atI_nat (j := 0) rfl, rfl, _, rfl, ?_⟩
      rw [e2]
      refine iteF ?_
      refine ⟨_, rfl, a, _, _, _, rfl, rfl, s, atI_nat (j := 0) rfl, by show 2 ≤ sizeLine; decide, fun p2 hp2 => ⟨p2, _, rfl, .inr (SqT.of upd_same), rfl, rfl, _, rfl, ?_⟩⟩
      have x2 : Ex H (upd H p2 (.tup [V.str "body", V.str "rest"])) := Evl.Ex.new hp2
      have cv : ∀ {H' : Hp} {a : Addr} {xs : List V}, Ex H H' → SqT K H a xs → SqT K H' a xs := fun e s => SqT.kp (T := []) (b := false) (S := []) (.of_ex e) s
      refine (show if (!inV (V.str (if r = true then "rest" else "body")) [V.str "body", V.str "rest"]) = true then _ else _ from ?_)
      rw [e3]
      refine iteF ?_
      refine ⟨_, rfl, _, rfl, a, _, _, _, rfl, rfl, cv x2 s, atI_nat (j := 1) rfl, as, _, _, _, rfl, rfl, cv x2 ss, atI_nat (j := i) hvr, ?_⟩
      refine ⟨_, rfl, a, _, _, _, rfl, rfl, cv x2 s, atI_nat (j := 0) rfl, rfl, _, rfl, ?_⟩
      cases r with
      | false =>
        refine iteF ?_
        rw [if_neg Bool.false_ne_true] at hQ
        refine ⟨_, rfl, r0, rfl, (by omega), ?_⟩
        refine ⟨_, rfl, rfl, _, rfl, ?_⟩
        refine (show if decide (V.str (mostS r0) = V.str "=") = true then _ else _ from ?_)
        cases hm : most r0 with
        | none =>
          rw [hm] at hQ
          have em : mostS r0 = "=" := by unfold mostS; rw [hm]
          rw [em]
          refine iteT ⟨_, rfl, a, _, _, _, rfl, rfl, cv x2 s, atI_nat (j := 2) rfl, rfl, _, rfl, ?_⟩
          cases y with
          | none => exact iteT (hQ _ x2)
          | some z =>
            refine (show if decide (V.str (lt z) = V.str "kept") = true then _ else _ from ?_)
            rw [show decide (V.str (lt z) = V.str "kept") = false by cases z <;> decide +kernel]
            exact iteF ⟨_, rfl, a, _, _, _, rfl, rfl, cv x2 s, atI_nat (j := 2) rfl, hQ _ x2⟩
        | some z =>
          rw [hm] at hQ
          have em : mostS r0 = lt z := by unfold mostS; rw [hm]
          rw [em]
          rw [show decide (V.str (lt z) = V.str "=") = false by cases z <;> decide +kernel]
          refine iteF ⟨_, rfl, ?_⟩
          have q := hQ _ x2
          first
            | exact q
            | (rw [em]; exact q)
      | true =>
        refine iteT ?_
        rw [if_pos rfl] at hQ
        refine ⟨_, rfl, ah, _, _, _, rfl, rfl, cv x2 sh1, atI_nat (j := 0) rfl, _, rfl, a, _, _, _, rfl, rfl, cv x2 s, atI_nat (j := 1) rfl, ab, _, _, _, rfl, rfl, cv x2 sb, atI_nat (j := i) hvb, ?_⟩
        refine ⟨⟨_, rfl⟩, _, rfl, _, rfl, .str (txt r0), .ref aq, _, zs, rfl, .txt _, .tup (cv x2 sq), fun D nD => ?_⟩
        have hzs : zs.length = b.length := by rw [tz.len, List.length_map]
        have hrs : ((txt r0).cps.toList.map fun c => V.str ⟨#[c]⟩).length = r0.length := by rw [List.length_map, txt_l, List.length_map]
        have hzl : (r0.zip b).length = r0.length := by rw [List.length_zip, hrb, Nat.min_self]
        refine lc_flt (K := K) walk_Z ((r0.zip b).map fun p => if dueB t p.2 = true then none else some (PyData.str (lt p.1))) (by rw [hrs, hzs, hrb, Nat.min_self, List.length_map, hzl, hrb]) (by rw [List.length_map, hzl]; exact Nat.lt_of_le_of_lt (by omega : r0.length ≤ 9) (by decide)) nD (fun H2 e => ⟨.txt _, (Src.tup (cv x2 sq)).ex e⟩) (fun j o vv H2 H3 Kx Kn ho e yy kx kn => ?_) (fun H2 ws e hz tws => ?_)
        · obtain ⟨T1, x1, y1, rfl, n1, rfl, hx1, hy1⟩ := yy
          obtain ⟨q1, hq1, ty1⟩ := tz.getm hy1
          have hx1 : ((txt r0).cps.toList.map fun c => V.str ⟨#[c]⟩)[j]? = some x1 := hx1
          rw [List.getElem?_map] at hx1
          obtain ⟨c1, hc1, rfl⟩ := Option.map_eq_some_iff.mp hx1
          rw [txt_l, List.getElem?_map] at hc1
          obtain ⟨b1, hb1, rfl⟩ := Option.map_eq_some_iff.mp hc1
          have hp : (r0.zip b)[j]? = some (b1, q1) := by rw [List.getElem?_zip_eq_some]; exact ⟨hb1, hq1⟩
          rw [List.getElem?_map, hp] at ho
          obtain rfl := Option.some.inj ho
          have e2 := (x2.trans e).trans (.new (o := .tup [V.str ⟨#[if b1 = true then 97 else 98]⟩, y1]) n1)
          have sok := ok.seats b (List.mem_of_getElem? hb) q1 (List.mem_of_getElem? hq1)
          refine ⟨T1, _, rfl, SqT.of upd_same, rfl, _, _, rfl, _, _, rfl, rfl, rfl, _, rfl, _, rfl, _, q1, t, rfl, ty1.ex e2, sok.one, fun H5 e5 => ⟨_, rfl, ?_⟩⟩
          refine (show if (!dueB t q1) = true then _ else _ from ?_)
          by_cases hd : dueB t q1 = true
          · rw [hd]
            exact iteF (kn _ (if_pos hd) ((Evl.Ex.new n1).trans e5))
          · rw [Bool.eq_false_iff.mpr hd]
            refine iteT ⟨_, rfl, kx _ _ _ (if_neg hd) ((Evl.Ex.new n1).trans e5) ?_⟩
            cases b1 <;> exact .str _
        · rw [stay_fm] at tws
          obtain rfl := tws.of_strs
          have x3 := x2.trans e
          refine ⟨_, D, (stay t r0 b).map lt, rfl, rfl, .inl (SqL.of hz), ?_, ?_⟩
          · have hsl := stay_len t r0 b
            rw [lt_sum, List.length_map]
            show _ + _ * 0 ≤ _
            omega
          · rw [TL.join_eq, join_lt]
            have hsl := stay_len t r0 b
            refine ⟨_, rfl, (stay t r0 b), rfl, (by omega), ?_⟩
            refine ⟨_, rfl, rfl, _, rfl, ?_⟩
            refine (show if decide (V.str (mostS (stay t r0 b)) = V.str "=") = true then _ else _ from ?_)
            cases hm : most (stay t r0 b) with
            | none =>
              rw [hm] at hQ
              have em : mostS (stay t r0 b) = "=" := by unfold mostS; rw [hm]
              rw [em]
              refine iteT ⟨_, rfl, a, _, _, _, rfl, rfl, cv x3 s, atI_nat (j := 2) rfl, rfl, _, rfl, ?_⟩
              cases y with
              | none => exact iteT (hQ _ x3)
              | some z =>
                refine (show if decide (V.str (lt z) = V.str "kept") = true then _ else _ from ?_)
                rw [show decide (V.str (lt z) = V.str "kept") = false by cases z <;> decide +kernel]
                exact iteF ⟨_, rfl, a, _, _, _, rfl, rfl, cv x3 s, atI_nat (j := 2) rfl, hQ _ x3⟩
            | some z =>
              rw [hm] at hQ
              have em : mostS (stay t r0 b) = lt z := by unfold mostS; rw [hm]
              rw [em]
              rw [show decide (V.str (lt z) = V.str "=") = false by cases z <;> decide +kernel]
              refine iteF ⟨_, rfl, ?_⟩
              have q := hQ _ x3
              first
                | exact q
                | (rw [em]; exact q)
end
end T93
-- Lr
set_option maxHeartbeats 2000000
/-! T93, part r: the year of a stand. -/
namespace T93
open PySem PySem.Spec PyProof.Rows L2
section
variable {P : Program} {w : World} {K : PySem.W.Frag} {mg : Str → Option Value} {base : Heap}
theorem tp_rows {H : Hp} : ∀ l : Stand, TpAll K H (l.map fun r => V.str (txt r)) (l.map dRow)
  | [] => .nil
  | r :: l => .cons (.str _) (tp_rows l)
theorem lt_len (b : Bool) : (lt b).length = 1 := by cases b <;> rfl
theorem txt_snoc (l : Row) (b : Bool) : txt l ++ lt b = txt (l ++ [b]) := by
  refine str_ext ?_
  rw [app_l, lt_l, txt_l, txt_l, List.map_append]
  rfl
theorem zip_at {α β : Type} {l : List α} {m : List β} {i : Nat} {a : α} {b : β} (h1 : l[i]? = some a) (h2 : m[i]? = some b) : (l.zip m)[i]? = some (a, b) := by
  rw [List.getElem?_zip_eq_some]
  exact ⟨h1, h2⟩
theorem take_snoc {α : Type} {l : List α} {i : Nat} {a : α} (h : l[i]? = some a) : l.take (i + 1) = l.take i ++ [a] := by
  rw [List.take_succ, h]
  rfl
def spYear (K : PySem.W.Frag) : Sp := fun vs H Q _ => ∃ (hv sv : V) (h : House) (st : Stand) (t : Nat) (v : Row), vs = [hv, sv, .int t, .str (txt v)] ∧ Tp K H hv (dHouse h) ∧ Tp K H sv (dStand st) ∧
  h.Ok ∧ Shape h st ∧ v.length = h.wards ∧ ∀ z H', Ex H H' → Tp K H' z (dStand (year h st t v)) → Q z H'
abbrev N36 : List Str := ["house", "stand", "number", "choices", "found", "body", "letters", "row", "seat", "letter", "told"]
theorem sc36 : FnScope N36 ["house", "stand", "number", "choices"] (defScope (top 36)) := ⟨rfl, rfl, rfl, by decide +kernel, rfl, by decide +kernel, by decide +kernel⟩
theorem ok_year_of (T : Txt K mg) : GOk P w K mg base CX0 3 "year_of" ["house", "stand", "number", "choices"] (spYear K) := by
  have nd := sc36.nd
  have G_comes_up := ok_comes_up (P := P) (w := w) (base := base) T
  have G_told_by := ok_told_by (P := P) (w := w) (base := base) T
  refine gok (T.df (36, "year_of") (by decide +kernel)) sc36 (fun _ _ _ _ _ _ us hl => match us, hl with | [_, _, _, _], _ => rfl) (fun vs H Q E h => ?_) (fun f cdv A outer s H vs Q E hr h => ?_)
  · obtain ⟨_, _, _, _, _, _, rfl, _⟩ := h
    rfl
  · obtain ⟨hv, sv, h, st, t, v, rfl, th, ts, ⟨L, ok⟩, sh, hvl, hQ⟩ := h
    have mb_tuple := T.no "tuple" (by decide +kernel)
    have mb_zip := T.no "zip" (by decide +kernel)
    refine ⟨_, (pss_cons (ps_set (i := 4) nd rfl (Or.inl rfl) (pe_lst pa_nil))
       (pss_cons (ps_for PassesOwn.never rfl (pi_zipS mb_zip (pa_cons (pe_ix ix_tup (pv 0) (pe_int) (fun _ _ => rfl)) (pa_cons (pv 1) pa_nil))) (pg_tup rfl (pgs_cons (pg_name (i := 5) nd rfl (Or.inl rfl)) (pgs_cons (pg_name (i := 6) nd rfl (Or.inl rfl)) pgs_nil))) (pss_cons (ps_set (i := 7) nd rfl (Or.inl rfl) (pe_str))
       (pss_cons (ps_for PassesOwn.never rfl (pi_zipS mb_zip (pa_cons (pv 5) (pa_cons (pv 6) pa_nil))) (pg_tup rfl (pgs_cons (pg_name (i := 8) nd rfl (Or.inl rfl)) (pgs_cons (pg_name (i := 9) nd rfl (Or.inl rfl)) pgs_nil))) (pss_cons (ps_set (i := 10) nd rfl (Or.inl rfl) (pe_ifExp (pt_val (pe_g G_comes_up hr pass0 (pa_cons (pv 8) (pa_cons (pv 2) pa_nil)))) (pe_g G_told_by hr pass0 (pa_cons (pv 0) (pa_cons (pv 1) (pa_cons (pv 2) (pa_cons (pe_ix ix_tup (pv 8) (pe_int) (fun _ _ => rfl)) (pa_cons (pv 3) pa_nil)))))) (pe_non)))
       (pss_one (ps_aug (i := 7) nd rfl (Or.inl rfl) (pe_ifExp (pt_cmpR op_isN (pv 10) (pe_non) (nomark _)) (pv 9) (pv 10)) ip_addS))))
       (pss_one (ps_expr (pe_bm PySem.F.plainAttrs_list PySem.F.slot_list_append PySem.F.type_list_append mt_append (pv 4) (pa_cons (pv 7) pa_nil)))))))
       (pss_one (ps_ret (pe_tupleOf rfl mb_tuple (pv 4)))))), ?_⟩
    obtain ⟨ah, hs, rfl, sh1, th1⟩ := th.tup_inv
    obtain ⟨_, _, rfl, h0, th1⟩ := th1.cons_inv
    obtain ⟨ab, bs, rfl, sb, tb⟩ := h0.tup_inv
    obtain ⟨as, rs, rfl, ss, tr⟩ := ts.tup_inv
    have b3 := ok.b3
    have hbl : bs.length = h.bodies.length := by rw [tb.len, List.length_map]
    have hrl : rs.length = h.bodies.length := by rw [tr.len, List.length_map, shape_len sh]
    have cv : ∀ {H' : Hp} {a : Addr} {xs : List V}, Ex H H' → SqT K H a xs → SqT K H' a xs := fun e s => SqT.kp (T := []) (b := false) (S := []) (.of_ex e) s
    have yl : (year h st t v).length = h.bodies.length := by
      unfold year
      rw [List.length_map, List.length_zip, shape_len sh, Nat.min_self]
    refine ⟨by show 0 ≤ sizeLine; decide, fun D hD => ?_⟩
    have x1 : Ex H (upd H D (.lst [])) := .new hD
    refine ⟨_, rfl, ah, _, _, _, rfl, rfl, cv x1 sh1, atI_nat (j := 0) rfl, _, rfl, .ref ab, .ref as, bs, rs, rfl, .tup (cv x1 sb), .tup (cv x1 ss), for_it walk_Z (fun i σ H' => Ex H H' ∧ H' D = some (.lst (((year h st t v).take i).map fun r => V.str (txt r))) ∧
      ∃ o5 o6 o7 o8 o9 o10 : Option V, σ = [some (.ref ah), some (.ref as), some (.int t), some (.str (txt v)), some (.ref D), o5, o6, o7, o8, o9, o10]) ⟨x1, upd_same, none, none, none, none, none, none, rfl⟩ (fun i σ H' _ p => ⟨.tup (cv p.1 sb), .tup (cv p.1 ss)⟩) (fun i x σ H1 H2 hi p y => ?_) (fun σ H' p => ?_)⟩
    · obtain ⟨e1, hl, o5, o6, o7, o8, o9, o10, rfl⟩ := p
      obtain ⟨T1, vb, vr, rfl, n1, rfl, hb1, hr1⟩ := y
      obtain ⟨b, hb, tvb⟩ := tb.getm hb1
      obtain ⟨r, hr', tvr⟩ := tr.getm hr1
      obtain rfl := tvr.str_inv
      obtain ⟨aq, zs, rfl, sq, tz⟩ := tvb.tup_inv
      obtain ⟨b', hb', hrb⟩ := shape_row sh hr'
      rw [hb] at hb'
      obtain rfl := Option.some.inj hb'
      have b9 := (ok.sz b (List.mem_of_getElem? hb)).2
      have hy : (year h st t v)[i]? = some ((b.zip r).map (seatYear h st t v)) := by
        unfold year
        rw [List.getElem?_map, zip_at hb hr']
        rfl
      have hzs : zs.length = b.length := by rw [tz.len, List.length_map]
      have hrs : ((txt r).cps.toList.map fun c => V.str ⟨#[c]⟩).length = r.length := by rw [List.length_map, txt_l, List.length_map]
      have hzl : ((b.zip r).map (seatYear h st t v)).length = r.length := by rw [List.length_map, List.length_zip, hrb, Nat.min_self]
      have e2 := e1.trans (.new (o := .tup [V.ref aq, V.str (txt r)]) n1)
      have hl2 : upd H1 T1 (.tup [V.ref aq, V.str (txt r)]) D = _ := (upd_ne (ne_of_none hl n1)).trans hl
      refine ⟨T1, _, rfl, SqT.of upd_same, rfl, _, _, rfl, _, _, rfl, rfl, ?_⟩
      refine ⟨_, rfl, _, rfl, .ref aq, .str (txt r), zs, _, rfl, .tup (cv e2 sq), .txt _, for_it walk_Z (fun j σ H' => Ex H H' ∧ H' D = some (.lst (((year h st t v).take i).map fun r => V.str (txt r))) ∧
        ∃ o8 o9 o10 : Option V, σ = [some (.ref ah), some (.ref as), some (.int t), some (.str (txt v)), some (.ref D), some (.ref aq), some (.str (txt r)), some (.str (txt (((b.zip r).map (seatYear h st t v)).take j))), o8, o9, o10]) ⟨e2, hl2, _, _, _, rfl⟩ (fun j σ H' _ p => ⟨.tup (cv p.1 sq), .txt _⟩) (fun j x σ H3 H4 hj p y => ?_) (fun σ H' p => ?_)⟩
      · obtain ⟨e3, hl3, o8, o9, o10, rfl⟩ := p
        obtain ⟨T2, vq, vl, rfl, n2, rfl, hq1, hx1⟩ := y
        obtain ⟨q1, hq, ty1⟩ := tz.getm hq1
        have hx1 : ((txt r).cps.toList.map fun c => V.str ⟨#[c]⟩)[j]? = some vl := hx1
        rw [List.getElem?_map] at hx1
        obtain ⟨c1, hc1, rfl⟩ := Option.map_eq_some_iff.mp hx1
        rw [txt_l, List.getElem?_map] at hc1
        obtain ⟨b1, hb1, rfl⟩ := Option.map_eq_some_iff.mp hc1
        have el : (⟨#[if b1 = true then 97 else 98]⟩ : Str) = lt b1 := by cases b1 <;> rfl
        rw [el]
        have e4 := e3.trans (.new (o := .tup [vq, V.str (lt b1)]) n2)
        have hl4 : upd H3 T2 (.tup [vq, V.str (lt b1)]) D = _ := (upd_ne (ne_of_none hl3 n2)).trans hl3
        have sok := ok.seats b (List.mem_of_getElem? hb) q1 (List.mem_of_getElem? hq)
        have hj : (b.zip r)[j]? = some (q1, b1) := zip_at hq hb1
        have hrow : ((b.zip r).map (seatYear h st t v))[j]? = some (seatYear h st t v (q1, b1)) := by rw [List.getElem?_map, hj]; rfl
        have hrl' : (((b.zip r).map (seatYear h st t v)).take j).length ≤ 9 := by
          rw [List.length_take, hzl]
          omega
        obtain ⟨ay, ws, rfl, sy, tw⟩ := ty1.tup_inv
        obtain ⟨_, _, rfl, w0, tw⟩ := tw.cons_inv
        obtain ⟨_, _, rfl, w1, tw⟩ := tw.cons_inv
        obtain ⟨_, _, rfl, w2, tw⟩ := tw.cons_inv
        obtain rfl := tw.nil_inv
        refine ⟨T2, _, rfl, SqT.of upd_same, rfl, _, _, rfl, _, _, rfl, rfl, ?_⟩
        refine ⟨_, rfl, _, rfl, _, q1, t, rfl, ty1.ex e4, sok.one, fun H5 e5 => ⟨_, rfl, ?_⟩⟩
        have e45 := e4.trans e5
        by_cases hd : dueB t q1 = true
        · rw [hd]
          have hs : seatYear h st t v (q1, b1) = (tell h st t v q1.way).getD b1 := if_pos hd
          rw [hs] at hrow
          refine iteT ⟨_, rfl, _, rfl, _, rfl, _, rfl, ay, _, _, _, rfl, rfl, cv e45 sy, atI_nat (j := 2) rfl, _, rfl, _, _, _, h, st, t, q1.way, v, rfl, th.ex e45, ts.ex e45, w2.ex e45, ⟨L, ok⟩, sh, sok.way, hvl, fun H6 e6 => ?_⟩
          have e46 := e45.trans e6
          have hl6 := e6 _ _ (e5 _ _ hl4)
          refine ⟨_, rfl, _, rfl, rfl, _, rfl, ?_⟩
          refine (show if decide (tellV (tell h st t v q1.way) = V.non) = true then _ else _ from ?_)
          cases hz : (tell h st t v q1.way) with
          | none =>
            refine iteT ⟨_, rfl, _, _, rfl, rfl, by rw [txt_len, lt_len]; show _ ≤ 2 ^ 24; omega, e46, hl6, some (.ref ay), some (.str (lt b1)), some (tellV none), ?_⟩
            rw [take_snoc hrow, ← txt_snoc, hz]
            rfl
          | some z =>
            first
              | (refine iteF ⟨_, rfl, _, _, rfl, rfl, by rw [txt_len, lt_len]; show _ ≤ 2 ^ 24; omega, e46, hl6, some (.ref ay), some (.str (lt b1)), some (tellV (some z)), ?_⟩
                 rw [take_snoc hrow, ← txt_snoc, hz]
                 rfl)
              | cases hz
        · rw [Bool.eq_false_iff.mpr hd]
          have hs : seatYear h st t v (q1, b1) = (none : Option Bool).getD b1 := if_neg hd
          rw [hs] at hrow
          refine iteF ?_
          have e46 := e45
          have hl6 := e5 _ _ hl4
          refine ⟨_, rfl, _, rfl, rfl, _, rfl, ?_⟩
          refine (show if decide (tellV (none : Option Bool) = V.non) = true then _ else _ from ?_)
          cases hz : (none : Option Bool) with
          | none =>
            refine iteT ⟨_, rfl, _, _, rfl, rfl, by rw [txt_len, lt_len]; show _ ≤ 2 ^ 24; omega, e46, hl6, some (.ref ay), some (.str (lt b1)), some (tellV none), ?_⟩
            rw [take_snoc hrow, ← txt_snoc, hz]
            rfl
          | some z =>
            first
              | (refine iteF ⟨_, rfl, _, _, rfl, rfl, by rw [txt_len, lt_len]; show _ ≤ 2 ^ 24; omega, e46, hl6, some (.ref ay), some (.str (lt b1)), some (tellV (some z)), ?_⟩
                 rw [take_snoc hrow, ← txt_snoc, hz]
                 rfl)
              | cases hz
      · obtain ⟨e3, hl3, o8, o9, o10, rfl⟩ := p
        have hm : min zs.length ((txt r).cps.toList.map fun c => V.str ⟨#[c]⟩).length = ((b.zip r).map (seatYear h st t v)).length := by rw [hrs, hzs, hzl, hrb, Nat.min_self]
        rw [hm, List.take_length]
        refine ⟨_, rfl, .inl ⟨rfl, _, SqL.of hl3⟩, _, rfl, D, _, _, rfl, rfl, hl3, ?_, e3.mut hD, ?_, _, _, _, _, _, _, rfl⟩
        · rw [List.length_map, List.length_take, yl]
          exact Nat.lt_of_le_of_lt (Nat.le_trans (Nat.min_le_right _ _) b3) (by decide)
        · rw [upd_same, take_snoc hy, List.map_append]
          rfl
    · obtain ⟨e1, hl, o5, o6, o7, o8, o9, o10, rfl⟩ := p
      have hm : min bs.length rs.length = (year h st t v).length := by rw [hbl, hrl, yl, Nat.min_self]
      rw [hm, List.take_length] at hl
      refine ⟨_, rfl, .inl ⟨D, _, rfl, SqL.of hl, fun q hq => hQ _ _ (e1.trans (.new hq)) (Tp.new (tp_rows _) hq)⟩⟩
end
end T93
-- Ls
set_option maxHeartbeats 2000000
/-! T93, part s: Trial. -/
namespace T93
open PySem PySem.Spec PyProof.Rows L2
section
variable {P : Program} {w : World} {K : PySem.W.Frag} {mg : Str → Option Value} {base : Heap} {TT : List (Addr × Str)} {CL CT : Addr}
/-- the fields of a Led, of a Trial -/
def LedH (CL : Addr) (H : Hp) (L : Addr) (p q : V) : Prop := ∃ dx, H L = some (.ins CL dx [("past", p), ("later", q)])
def TriH (CT : Addr) (H : Hp) (x L : Addr) (p q : V) : Prop := ∃ dx, H x = some (.ins CT dx [("held_led", .ref L), ("kept_past", p), ("kept_later", q)])
def spTI (TT : List (Addr × Str)) (CT : Addr) : Sp := fun vs H Q _ => ∃ x dx L, vs = [.ref x, .ref L] ∧ H x = some (.ins CT dx []) ∧ ∀ H' p q, Kp TT false [x] H H' → TriH CT H' x L p q → Q .non H'
theorem scTI : FnScope ["self", "held_led"] ["self", "held_led"] (defScope (inClass (top 42) 0)) := ⟨rfl, rfl, rfl, by decide +kernel, rfl, by decide +kernel, by decide +kernel⟩
theorem ok_TI (F : TriF K mg CT) : GI P w K mg base 1 CT ["self", "held_led"] (spTI TT CT) := by
  refine gi F.make scTI (fun _ _ _ _ _ _ us hl => match us, hl with | [_, _], _ => rfl) (fun vs H Q E h => ?_) (fun f cdv A outer s H vs Q E hr h => ?_)
  · obtain ⟨_, _, _, rfl, _⟩ := h
    rfl
  · obtain ⟨x, dx, L, rfl, hx, hQ⟩ := h
    refine ⟨_, (pss_cons (ps_fld (pv 0) (pv 1) rfl)
       (pss_cons (ps_fld (pv 0) (pe_tup pa_nil) rfl)
       (pss_one (ps_fld (pv 0) (pe_tup pa_nil) rfl)))), ?_⟩
    refine ⟨_, rfl, _, rfl, x, CT, dx, _, rfl, hx, F.cls, F.held, (show (0 : Nat) < 1000 by decide), ?_⟩
    refine ⟨by show 0 ≤ sizeLine; decide, fun p hp => ⟨_, rfl, x, CT, dx, _, rfl, (upd_ne (ne_of_none upd_same hp)).trans upd_same, F.cls, F.past, (show (1 : Nat) < 1000 by decide), ?_⟩⟩
    refine ⟨by show 0 ≤ sizeLine; decide, fun q hq => ⟨_, rfl, x, CT, dx, _, rfl, (upd_ne (ne_of_none upd_same hq)).trans upd_same, F.cls, F.later, (show (2 : Nat) < 1000 by decide), ?_⟩⟩
    refine hQ _ (.ref p) (.ref q) ?_ ⟨dx, upd_same⟩
    have k1 : Kp TT false [x] H (upd H x (.ins CT dx (putF "held_led" (.ref L) []))) := .write hx List.mem_cons_self rfl rfl
    have k2 := k1.and_new (o := .tup []) hp
    have k3 : Kp TT false [x] H _ := k2.trans (.write (o := .ins CT dx (putF "kept_past" (.ref p) (putF "held_led" (.ref L) []))) ((upd_ne (ne_of_none upd_same hp)).trans upd_same) List.mem_cons_self rfl rfl)
    have k4 := k3.and_new (o := .tup []) hq
    exact k4.trans (.write ((upd_ne (ne_of_none upd_same hq)).trans upd_same) List.mem_cons_self rfl rfl)
def spTE (TT : List (Addr × Str)) (CL CT : Addr) : Sp := fun vs H Q _ => ∃ x L p q p0 q0, vs = [.ref x] ∧ TriH CT H x L p0 q0 ∧ LedH CL H L p q ∧ x ≠ L ∧ ∀ H', Kp TT false [x] H H' → TriH CT H' x L p q → Q (.ref L) H'
theorem scTE : FnScope ["self"] ["self"] (defScope (inClass (top 42) 1)) := ⟨rfl, rfl, rfl, by decide +kernel, rfl, by decide +kernel, by decide +kernel⟩
theorem ok_TE (F : TriF K mg CT) (G : LedF K mg CL) : GM P w K mg base CX0 1 CT "__enter__" ["self"] (spTE TT CL CT) := by
  refine gm (F.mt (1, "__enter__", "Trial.__enter__") (by decide +kernel)) scTE (fun _ _ _ _ _ _ us hl => match us, hl with | [_], _ => rfl) (fun vs H Q E h => ?_) (fun f cdv A outer s H vs Q E hr h => ?_)
  · obtain ⟨_, _, _, _, _, _, rfl, _⟩ := h
    rfl
  · obtain ⟨x, L, p, q, p0, q0, rfl, ⟨dx, hx⟩, ⟨dl, hl⟩, hne, hQ⟩ := h
    refine ⟨_, (pss_cons (ps_fld (pv 0) (pe_fld (pe_fld (pv 0) rfl) rfl) rfl)
       (pss_cons (ps_fld (pv 0) (pe_fld (pe_fld (pv 0) rfl) rfl) rfl)
       (pss_one (ps_ret (pe_fld (pv 0) rfl))))), ?_⟩
    refine ⟨_, rfl, x, CT, dx, _, _, rfl, hx, F.cls, F.held, rfl, L, CL, dl, _, _, rfl, hl, G.cls, G.past, rfl, _, rfl, x, CT, dx, _, rfl, hx, F.cls, F.past, (show (3 : Nat) < 1000 by decide), ?_⟩
    refine ⟨_, rfl, x, CT, dx, _, _, rfl, upd_same, F.cls, F.held, rfl, L, CL, dl, _, _, rfl, (upd_ne (Ne.symm hne)).trans hl, G.cls, G.later, rfl, _, rfl, x, CT, dx, _, rfl, upd_same, F.cls, F.later, (show (3 : Nat) < 1000 by decide), ?_⟩
    refine ⟨_, rfl, x, CT, dx, _, _, rfl, upd_same, F.cls, F.held, rfl, ?_⟩
    have k1 : Kp TT false [x] H _ := .write (o := .ins CT dx (putF "kept_past" p [("held_led", .ref L), ("kept_past", p0), ("kept_later", q0)])) hx List.mem_cons_self rfl rfl
    exact hQ _ (k1.trans (.write upd_same List.mem_cons_self rfl rfl)) ⟨dx, upd_same⟩
def spTX (TT : List (Addr × Str)) (CL CT : Addr) : Sp := fun vs H Q _ => ∃ x L p q p0 q0 a b c, vs = [.ref x, a, b, c] ∧ TriH CT H x L p q ∧ LedH CL H L p0 q0 ∧ x ≠ L ∧ ∀ H', Kp TT false [L] H H' → LedH CL H' L p q → Q .non H'
theorem scTX : FnScope ["self", "kind", "told", "trace"] ["self", "kind", "told", "trace"] (defScope (inClass (top 42) 2)) := ⟨rfl, rfl, rfl, by decide +kernel, rfl, by decide +kernel, by decide +kernel⟩
theorem bTX : BindsF "__exit__" "Trial.__exit__" (inClass (top 42) 2) ["self", "kind", "told", "trace"] := fun _ _ _ _ _ _ us hl => match us, hl with | [_, _, _, _], _ => rfl
theorem tri_ok (F : TriF K mg CT) (G : LedF K mg CL) : TrF P w K mg base CT 1 (spTE TT CL CT) (spTX TT CL CT) := by
  obtain ⟨fe, fde, me, fne, be⟩ := (ok_TE (P := P) (w := w) (base := base) (TT := TT) F G).ex
  have len : ∀ vs H Q E, spTX TT CL CT vs H Q E → vs.length = ["self", "kind", "told", "trace"].length := fun vs H Q E h => by
    obtain ⟨_, _, _, _, _, _, _, _, _, rfl, _⟩ := h
    rfl
  obtain ⟨fx, fdx, mx, fnx⟩ := (F.mt (2, "__exit__", "Trial.__exit__") (by decide +kernel)).ex
  have o1 : FnOk P w K mg base CX0 1 fx fdx ["self", "kind", "told", "trace"] (spTX TT CL CT) := fnx.ok scTX len fun cdv A outer s H vs Q E hr h => by
    obtain ⟨x, L, p, q, p0, q0, a, b, c, rfl, ⟨dx, hx⟩, ⟨dl, hl⟩, hne, hQ⟩ := h
    refine ⟨_, (pss_cons (ps_fld (pe_fld (pv 0) rfl) (pe_fld (pv 0) rfl) rfl)
       (pss_one (ps_fld (pe_fld (pv 0) rfl) (pe_fld (pv 0) rfl) rfl))), ?_⟩
    refine ⟨_, rfl, x, CT, dx, _, _, rfl, hx, F.cls, F.past, rfl, _, rfl, x, CT, dx, _, _, rfl, hx, F.cls, F.held, rfl, L, CL, dl, _, rfl, hl, G.cls, G.past, (show (2 : Nat) < 1000 by decide), ?_⟩
    have hx2 : upd H L (.ins CL dl (putF "past" p [("past", p0), ("later", q0)])) x = _ := (upd_ne hne).trans hx
    refine ⟨_, rfl, x, CT, dx, _, _, rfl, hx2, F.cls, F.later, rfl, _, rfl, x, CT, dx, _, _, rfl, hx2, F.cls, F.held, rfl, L, CL, dl, _, rfl, upd_same, G.cls, G.later, (show (2 : Nat) < 1000 by decide), ?_⟩
    have k1 : Kp TT false [L] H _ := .write (o := .ins CL dl (putF "past" p [("past", p0), ("later", q0)])) hl List.mem_cons_self rfl rfl
    exact hQ _ (k1.trans (.write upd_same List.mem_cons_self rfl rfl)) ⟨dl, upd_same⟩
  have o2 : FnG P w K mg base 1 fx (spTX TT CL CT) := FnG.of fnx scTX bTX len fun cdv A outer s H vs Q pp h => by
    obtain ⟨x, L, p, q, p0, q0, a, b, c, rfl, ⟨dx, hx⟩, ⟨dl, hl⟩, hne, hQ⟩ := h
    refine ⟨_, (pss_cons (ps_fld (pe_fld (pv 0) rfl) (pe_fld (pv 0) rfl) rfl)
       (pss_one (ps_fld (pe_fld (pv 0) rfl) (pe_fld (pv 0) rfl) rfl))), ?_⟩
    refine ⟨_, rfl, x, CT, dx, _, _, rfl, hx, F.cls, F.past, rfl, _, rfl, x, CT, dx, _, _, rfl, hx, F.cls, F.held, rfl, L, CL, dl, _, rfl, hl, G.cls, G.past, (show (2 : Nat) < 1000 by decide), ?_⟩
    have hx2 : upd H L (.ins CL dl (putF "past" p [("past", p0), ("later", q0)])) x = _ := (upd_ne hne).trans hx
    refine ⟨_, rfl, x, CT, dx, _, _, rfl, hx2, F.cls, F.later, rfl, _, rfl, x, CT, dx, _, _, rfl, hx2, F.cls, F.held, rfl, L, CL, dl, _, rfl, upd_same, G.cls, G.later, (show (2 : Nat) < 1000 by decide), ?_⟩
    have k1 : Kp TT false [L] H _ := .write (o := .ins CL dl (putF "past" p [("past", p0), ("later", q0)])) hl List.mem_cons_self rfl rfl
    exact hQ _ (k1.trans (.write upd_same List.mem_cons_self rfl rfl)) ⟨dl, upd_same⟩
  exact ⟨⟨fe, fx, fde, fdx, _, _, fne, be, o1, fnx.binds bTX, o2, me.at_, me.fn, mx.at_, mx.fn⟩, fun vs H Q Q' hq h => by
    obtain ⟨x, L, p, q, p0, q0, e, a, b, c, d⟩ := h
    exact ⟨x, L, p, q, p0, q0, e, a, b, c, fun H' k t => hq _ _ (d H' k t)⟩⟩
end
end T93
-- Lt
set_option maxHeartbeats 2000000
/-! T93, part t: tuples of data, read, cut, put together. -/
namespace T93
open PySem PySem.Spec PyProof.Rows L2
section
variable {K : PySem.W.Frag} {H : Hp} {v u : V} {ds es : List PyData} {d : PyData} {Q : VK}
theorem rd_ix {j : Nat} (hv : Tp K H v (.tuple ds)) (hd : ds[j]? = some d) (q : ∀ z, Tp K H z d → Q z H) : rIxT K v (.int j) H Q := by
  obtain ⟨a, xs, rfl, s, t⟩ := hv.tup_inv
  obtain ⟨z, hz, tz⟩ := t.get hd
  exact ⟨a, xs, j, z, rfl, rfl, s, atI_nat hz, q z tz⟩
theorem rd_last (hv : Tp K H v (.tuple (ds ++ [d]))) (q : ∀ z, Tp K H z d → Q z H) : rIxT K v (.int (-1)) H Q := by
  obtain ⟨a, xs, rfl, s, t⟩ := hv.tup_inv
  have hl : xs.length = ds.length + 1 := by rw [t.len, List.length_append]; rfl
  obtain ⟨z, hz, tz⟩ := t.get (i := ds.length) (d := d) (by simp)
  have e : xs = xs.take ds.length ++ [z] := by
    have := List.take_succ (l := xs) (i := ds.length)
    rw [hz, List.take_of_length_le (by omega)] at this
    exact this
  refine ⟨a, xs, -1, z, rfl, rfl, s, ?_, q z tz⟩
  rw [e]
  exact atI_last _ _
theorem ix_of {j : Nat} (hv : Tp K H v (.tuple ds)) (hd : ds[j]? = some d) : ∃ a xs z, v = .ref a ∧ SqT K H a xs ∧ atI xs (j : Int) = some z ∧ Tp K H z d := by
  obtain ⟨a, xs, rfl, s, t⟩ := hv.tup_inv
  obtain ⟨z, hz, tz⟩ := t.get hd
  exact ⟨a, xs, z, rfl, s, atI_nat hz, tz⟩
theorem last_of (hv : Tp K H v (.tuple (ds ++ [d]))) : ∃ a xs z, v = .ref a ∧ SqT K H a xs ∧ atI xs (-1) = some z ∧ Tp K H z d := by
  obtain ⟨a, xs, rfl, s, t⟩ := hv.tup_inv
  have hl : xs.length = ds.length + 1 := by rw [t.len, List.length_append]; rfl
  obtain ⟨z, hz, tz⟩ := t.get (i := ds.length) (d := d) (by simp)
  have e : xs = xs.take ds.length ++ [z] := by
    have := List.take_succ (l := xs) (i := ds.length)
    rw [hz, List.take_of_length_le (by omega)] at this
    exact this
  refine ⟨a, xs, z, rfl, s, ?_, tz⟩
  rw [e]
  exact atI_last _ _
/-- a part of a list -/
def cutL {α : Type} (xs : List α) (lo hi : Option Int) : List α := (xs.drop (HT.sIx xs.length 0 lo)).take (HT.sIx xs.length xs.length hi - HT.sIx xs.length 0 lo)
theorem rd_sl {lo hi : Option Int} (hv : Tp K H v (.tuple ds)) (q : ∀ z H', Ex H H' → Tp K H' z (.tuple (cutL ds lo hi)) → Q z H') : rSlA K v lo hi H Q := by
  obtain ⟨a, xs, rfl, s, t⟩ := hv.tup_inv
  have hl := t.len
  refine ⟨a, xs, rfl, s, fun h => q _ _ (.refl _) ?_, fun _ p hp => q _ _ (.new hp) (Tp.new ?_ hp)⟩
  · have e : cutL ds lo hi = ds := by
      unfold cutL
      rw [← hl, h.1, h.2, List.drop_zero, Nat.sub_zero, hl, List.take_length]
    rw [e]
    exact hv
  · unfold cutV cutL
    rw [← hl]
    exact (t.drop _).take _
theorem rd_slN {σ : L2.St} {lo : Option Int} (hv : Tp K H v (.tuple ds)) (q : ∀ z H', Ex H H' → Tp K H' z (.tuple (cutL ds lo none)) → Q z H') : tNoPart σ H fun u H3 => rSlA K v lo u H3 Q := rd_sl hv q
theorem rd_cat (hv : Tp K H v (.tuple ds)) (hu : Tp K H u (.tuple es)) (hz : ds.length + es.length ≤ sizeLine) (q : ∀ z H', Ex H H' → Tp K H' z (.tuple (ds ++ es)) → Q z H') : rCatA K v u H Q := by
  obtain ⟨a, xs, rfl, s, t⟩ := hv.tup_inv
  obtain ⟨b, ys, rfl, s2, t2⟩ := hu.tup_inv
  refine ⟨a, b, xs, ys, rfl, rfl, s, s2, by rw [t.len, t2.len]; exact hz, fun e => q _ _ (.refl _) ?_, fun _ e => q _ _ (.refl _) ?_, fun _ _ p hp => q _ _ (.new hp) (Tp.new (t.append t2) hp)⟩
  · subst e
    cases t
    exact hu
  · subst e
    cases t2
    rw [List.append_nil]
    exact hv
end
theorem cutL_len {α : Type} (xs : List α) (lo hi : Option Int) : (cutL xs lo hi).length ≤ xs.length := by
  unfold cutL
  rw [List.length_take, List.length_drop]
  omega
theorem cut_from {α : Type} (xs : List α) (k : Nat) : cutL xs (some (k : Int)) none = xs.drop k := by
  unfold cutL
  rw [HT.sIx_nat, HT.sIx_none]
  by_cases h : k ≤ xs.length
  · rw [Nat.min_eq_left h]
    exact List.take_of_length_le (by rw [List.length_drop]; omega)
  · rw [Nat.min_eq_right (by omega), List.drop_length, List.drop_of_length_le (by omega), List.take_nil]
theorem cut_to {α : Type} (xs : List α) (k : Nat) : cutL xs none (some (k : Int)) = xs.take k := by
  unfold cutL
  rw [HT.sIx_nat, HT.sIx_none, List.drop_zero, Nat.sub_zero]
  by_cases h : k ≤ xs.length
  · rw [Nat.min_eq_left h]
  · rw [Nat.min_eq_right (by omega), List.take_length, List.take_of_length_le (by omega)]
theorem six_m1 (n d : Nat) : HT.sIx n d (some (-1)) = n - 1 := by
  show (if (-1 : Int) < 0 then ((-1 : Int) + (n : Int)).toNat else min (-1 : Int).toNat n) = n - 1
  rw [if_pos (by decide)]
  omega
theorem cut_m1 {α : Type} (xs : List α) : cutL xs none (some (-1)) = xs.dropLast := by
  unfold cutL
  rw [six_m1, HT.sIx_none, List.drop_zero, Nat.sub_zero, List.dropLast_eq_take]
theorem cut_l1 {α : Type} (xs : List α) (x : α) : cutL (xs ++ [x]) (some (-1)) none = [x] := by
  unfold cutL
  rw [six_m1, HT.sIx_none, List.length_append, List.length_singleton, Nat.add_sub_cancel, List.drop_left]
  exact List.take_of_length_le (by rw [List.length_singleton]; omega)
end T93
-- Lu
set_option maxHeartbeats 2000000
/-! T93, part u: Led: what it is, what may be looked at. -/
namespace T93
open PySem PySem.Spec PyProof.Rows L2
/-! ### a led house as a plain thing -/
structure LedSt where
  first : Entry
  rest : List Entry
  later : List Entry
def LedSt.past (st : LedSt) : List Entry := st.first :: st.rest
def LedSt.last (st : LedSt) : Entry := st.past.getLast (List.cons_ne_nil _ _)
theorem LedSt.past_eq (st : LedSt) : st.past = st.past.dropLast ++ [st.last] := (List.dropLast_concat_getLast _).symm
def Deed.Ok : Deed → Prop
  | .vote v => v.length ≤ 9
  | .amend k p s => k ≤ 1000 ∧ p ≤ 1000 ∧ ∃ L B W, B ≤ 1000 ∧ W ≤ 1000 ∧ s.Ok L B W
structure Entry.Ok (e : Entry) : Prop where
  h : e.house.Ok
  sh : Shape e.house e.stand
  d : ∀ d, e.deed = some d → d.Ok
structure Good (B : Nat) (st : LedSt) : Prop where
  f : st.first.Ok
  n : st.first.deed = none
  r : ∀ e ∈ st.rest, e.Ok ∧ ∃ d, e.deed = some d
  l : ∀ e ∈ st.later, e.Ok ∧ ∃ d, e.deed = some d
  len : st.rest.length + st.later.length ≤ B
theorem Good.last {B : Nat} {st : LedSt} (g : Good B st) : st.last.Ok := by
  have h : st.last ∈ st.past := List.getLast_mem _
  rcases List.mem_cons.mp h with e | h
  · rw [e]
    exact g.f
  · exact (g.r _ h).1
def voteOf (e : Entry) : Option Row := match e.deed with
  | some (.vote v) => some v
  | _ => none
def LedSt.votes (st : LedSt) : List Row := st.rest.filterMap voteOf
section
variable {P : Program} {w : World} {K : PySem.W.Frag} {mg : Str → Option Value} {base : Heap} {TT : List (Addr × Str)} {CL CT : Addr}
def dPast (st : LedSt) : PyData := .tuple (st.past.map dEntry)
def LedAt (K : PySem.W.Frag) (CL : Addr) (H : Hp) (L : Addr) (st : LedSt) : Prop := ∃ p q, LedH CL H L p q ∧ Tp K H p (dPast st) ∧ Tp K H q (.tuple (st.later.map dEntry))
theorem past_last (st : LedSt) : dPast st = .tuple (st.past.dropLast.map dEntry ++ [dEntry st.last]) := by
  unfold dPast
  conv => lhs; rw [st.past_eq]
  rw [List.map_append]
  rfl
/-! ### properties -/
def spLast (K : PySem.W.Frag) (CL : Addr) (f : Entry → PyData) : Sp := fun vs H Q _ => ∃ L st, vs = [.ref L] ∧ LedAt K CL H L st ∧ ∀ v, Tp K H v (f st.last) → Q v H
theorem scLH : FnScope ["self"] ["self"] (defScope (inClass (top 43) 1)) := ⟨rfl, rfl, rfl, by decide +kernel, rfl, by decide +kernel, by decide +kernel⟩
theorem scLS : FnScope ["self"] ["self"] (defScope (inClass (top 43) 2)) := ⟨rfl, rfl, rfl, by decide +kernel, rfl, by decide +kernel, by decide +kernel⟩
theorem ok_house (G : LedF K mg CL) : GP P w K mg base 1 CL "house" ["self"] (spLast K CL fun e => dHouse e.house) := by
  refine gp (G.pr (1, "house", "Led.house") (by decide +kernel)) scLH (fun _ _ _ _ _ _ us hl => match us, hl with | [_], _ => rfl) (fun vs H Q E h => ?_) (fun f cdv A outer s H vs Q E hr h => ?_)
  · obtain ⟨_, _, rfl, _⟩ := h
    rfl
  · obtain ⟨L, st, rfl, ⟨p, q, ⟨dl, hl⟩, hp, hq⟩, hQ⟩ := h
    refine ⟨_, (pss_one (ps_ret (pe_ix ix_tup (pe_ix ix_tup (pe_fld (pv 0) rfl) (pe_un un_neg (pe_int)) (fun _ _ => rfl)) (pe_int) (fun _ _ => rfl)))), ?_⟩
    rw [past_last] at hp
    exact ⟨_, rfl, L, CL, dl, _, _, rfl, hl, G.cls, G.past, rfl, 1, rfl, rd_last hp fun z tz => rd_ix (j := 1) tz rfl fun u tu => hQ u tu⟩
theorem ok_stand (G : LedF K mg CL) : GP P w K mg base 1 CL "stand" ["self"] (spLast K CL fun e => dStand e.stand) := by
  refine gp (G.pr (2, "stand", "Led.stand") (by decide +kernel)) scLS (fun _ _ _ _ _ _ us hl => match us, hl with | [_], _ => rfl) (fun vs H Q E h => ?_) (fun f cdv A outer s H vs Q E hr h => ?_)
  · obtain ⟨_, _, rfl, _⟩ := h
    rfl
  · obtain ⟨L, st, rfl, ⟨p, q, ⟨dl, hl⟩, hp, hq⟩, hQ⟩ := h
    refine ⟨_, (pss_one (ps_ret (pe_ix ix_tup (pe_ix ix_tup (pe_fld (pv 0) rfl) (pe_un un_neg (pe_int)) (fun _ _ => rfl)) (pe_int) (fun _ _ => rfl)))), ?_⟩
    rw [past_last] at hp
    exact ⟨_, rfl, L, CL, dl, _, _, rfl, hl, G.cls, G.past, rfl, 1, rfl, rd_last hp fun z tz => rd_ix (j := 2) tz rfl fun u tu => hQ u tu⟩
/-! ### len, votes, number -/
def spLen (K : PySem.W.Frag) (CL : Addr) : Sp := fun vs H Q _ => ∃ L st, vs = [.ref L] ∧ LedAt K CL H L st ∧ ∀ H', Ex H H' → Q (.int st.rest.length) H'
theorem scLN : FnScope ["self"] ["self"] (defScope (inClass (top 43) 4)) := ⟨rfl, rfl, rfl, by decide +kernel, rfl, by decide +kernel, by decide +kernel⟩
theorem ok_len (G : LedF K mg CL) (T : Txt K mg) : GM P w K mg base CX0 1 CL "__len__" ["self"] (spLen K CL) := by
  refine gm (G.mt (4, "__len__", "Led.__len__") (by decide +kernel)) scLN (fun _ _ _ _ _ _ us hl => match us, hl with | [_], _ => rfl) (fun vs H Q E h => ?_) (fun f cdv A outer s H vs Q E hr h => ?_)
  · obtain ⟨_, _, rfl, _⟩ := h
    rfl
  · obtain ⟨L, st, rfl, ⟨p, q, ⟨dl, hl⟩, hp, hq⟩, hQ⟩ := h
    have mb_len := T.no "len" (by decide +kernel)
    refine ⟨_, (pss_one (ps_ret (pe_callB call_len_seq rfl mb_len PySem.boot_len (pa_cons (pe_slice sl_tupA (pe_fld (pv 0) rfl) (po_some (pe_int)) po_none) pa_nil)))), ?_⟩
    refine ⟨_, rfl, L, CL, dl, _, _, rfl, hl, G.cls, G.past, rfl, 1, rfl, ?_⟩
    unfold tNoPart
    refine rd_sl hp fun z H' e tz => ?_
    have hc : cutL (st.past.map dEntry) (some (1 : Int)) none = st.rest.map dEntry := (cut_from _ 1).trans rfl
    rw [hc] at tz
    obtain ⟨a, xs, rfl, s, t⟩ := tz.tup_inv
    refine ⟨a, xs, rfl, .inr s, ?_⟩
    have hl : xs.length = st.rest.length := by rw [t.len, List.length_map]
    rw [hl]
    exact hQ _ e
def spVotes (K : PySem.W.Frag) (CL : Addr) (B : Nat) : Sp := fun vs H Q _ => ∃ L st, vs = [.ref L] ∧ LedAt K CL H L st ∧ Good B st ∧ B ≤ 1000 ∧ ∀ v H', Ex H H' → Tp K H' v (.tuple (st.votes.map dRow)) → Q v H'
theorem scLV : FnScope ["self", "deed", "house", "stand"] ["self"] (defScope (inClass (top 43) 5)) := ⟨rfl, rfl, rfl, by decide +kernel, rfl, by decide +kernel, by decide +kernel⟩
theorem ok_votes (G : LedF K mg CL) (T : Txt K mg) {B : Nat} : GM P w K mg base CX0 1 CL "votes" ["self"] (spVotes K CL B) := by
  have nd := scLV.nd
  refine gm (G.mt (5, "votes", "Led.votes") (by decide +kernel)) scLV (fun _ _ _ _ _ _ us hl => match us, hl with | [_], _ => rfl) (fun vs H Q E h => ?_) (fun f cdv A outer s H vs Q E hr h => ?_)
  · obtain ⟨_, _, rfl, _⟩ := h
    rfl
  · obtain ⟨L, st, rfl, ⟨p, q, ⟨dl, hl⟩, hp, hq⟩, g, hB, hQ⟩ := h
    have mb_tuple := T.no "tuple" (by decide +kernel)
    have cVOTE := T.str ("VOTE", "vote") (by decide +kernel)
    refine ⟨_, (pss_one (ps_ret (pe_tupleOf rfl mb_tuple (pe_lc (own := [("deed", 1), ("house", 2), ("stand", 3)]) rfl nd (pi_tup (pe_slice sl_tupA (pe_fld (pv 0) rfl) (po_some (pe_int)) po_none)) (blkOk_by (own := [("deed", 1), ("house", 2), ("stand", 3)]) (N := ["self", "deed", "house", "stand"]) (sc := (defScope (inClass (top 43) 5))) (by decide +kernel)) (fun _ _ _ _ _ => (pg_tupK K 3 rfl rfl (pgs_cons (pg_name (i := 1) nd rfl (Or.inl rfl)) (pgs_cons (pg_name (i := 2) nd rfl (Or.inl rfl)) (pgs_cons (pg_name (i := 3) nd rfl (Or.inl rfl)) pgs_nil))))) (fun _ _ _ _ _ => (pts_one (pt_cmpR op_eq (pe_ix (ix_tupK K rfl) (pv 1) (pe_int) (fun _ _ => rfl)) (pe_cs cVOTE) (nomark _)))) (fun _ _ _ _ _ => (pe_ix (ix_tupK K rfl) (pv 1) (pe_int) (fun _ _ => rfl))))))), ?_⟩
    refine ⟨_, rfl, L, CL, dl, _, _, rfl, hl, G.cls, G.past, rfl, 1, rfl, ?_⟩
    unfold tNoPart
    refine rd_sl hp fun z H1 e1 tz => ?_
    have hc : cutL (st.past.map dEntry) (some (1 : Int)) none = st.rest.map dEntry := (cut_from _ 1).trans rfl
    rw [hc] at tz
    obtain ⟨a, xs, rfl, s, t⟩ := tz.tup_inv
    have hxl : xs.length = st.rest.length := by rw [t.len, List.length_map]
    have hgl := g.len
    refine ⟨a, rfl, ⟨_, s⟩, fun D nD => lc_flt (K := K) walk_tup (st.rest.map fun e => (voteOf e).map dRow) (by rw [List.length_map]; exact hxl) (by rw [List.length_map]; exact Nat.lt_of_le_of_lt (by omega : _ ≤ 1000) (by decide)) nD (fun H2 e => SqT.kp (T := []) (b := false) (S := []) (.of_ex e) s) (fun i o x H2 H3 Kx Kn ho e y kx kn => ?_) (fun H2 zs e hz tz => ?_)⟩
    · obtain ⟨rfl, hx⟩ := y
      obtain ⟨en, hen, tx⟩ := t.getm hx
      rw [List.getElem?_map, hen] at ho
      obtain rfl := Option.some.inj ho
      obtain ⟨_, dd, hdd⟩ := g.r en (List.mem_of_getElem? hen)
      obtain ⟨ae, es, rfl, se, te⟩ := (tx.ex e).tup_inv
      obtain ⟨vd, _, rfl, t0, te⟩ := te.cons_inv
      obtain ⟨_, _, rfl, t1, te⟩ := te.cons_inv
      obtain ⟨_, _, rfl, t2, te⟩ := te.cons_inv
      obtain rfl := te.nil_inv
      rw [hdd] at t0
      refine ⟨ae, _, rfl, se, rfl, _, _, rfl, _, _, rfl, _, _, rfl, rfl, rfl, _, rfl, ?_⟩
      cases dd with
      | vote v =>
        have hv : voteOf en = some v := by
          unfold voteOf
          rw [hdd]
        obtain ⟨a0, x0, z0, rfl, s0, i0, u0⟩ := ix_of (j := 0) t0 rfl
        obtain ⟨a1, x1, z1, e1', s1, i1, u1⟩ := ix_of (j := 1) t0 rfl
        cases e1'
        obtain rfl := u0.str_inv
        exact ⟨a0, x0, _, _, rfl, rfl, s0, i0, rfl, _, rfl, iteT ⟨_, rfl, a0, x1, _, z1, rfl, rfl, s1, i1, kx z1 _ _ (congrArg (Option.map dRow) hv) (.refl _) u1⟩⟩
      | amend k pl s0 =>
        have hv : voteOf en = none := by
          unfold voteOf
          rw [hdd]
        obtain ⟨a0, x0, z0, rfl, s0, i0, u0⟩ := ix_of (j := 0) t0 rfl
        obtain rfl := u0.str_inv
        exact ⟨a0, x0, _, _, rfl, rfl, s0, i0, rfl, _, rfl, iteF (kn _ (congrArg (Option.map dRow) hv) (.refl _))⟩
    · have ef : (st.rest.map fun e => (voteOf e).map dRow).filterMap id = st.votes.map dRow := by
        unfold LedSt.votes
        rw [List.filterMap_map, List.map_filterMap]
        rfl
      rw [ef] at tz
      exact .inl ⟨D, _, rfl, SqL.of hz, fun q hq => hQ _ _ ((e1.trans e).trans (.new hq)) (Tp.new tz hq)⟩
def spNumber (K : PySem.W.Frag) (CL : Addr) (B : Nat) : Sp := fun vs H Q _ => ∃ L st, vs = [.ref L] ∧ LedAt K CL H L st ∧ Good B st ∧ B ≤ 1000 ∧ ∀ H', Ex H H' → Q (.int st.votes.length) H'
theorem scLM : FnScope ["self"] ["self"] (defScope (inClass (top 43) 3)) := ⟨rfl, rfl, rfl, by decide +kernel, rfl, by decide +kernel, by decide +kernel⟩
theorem ok_number (G : LedF K mg CL) (T : Txt K mg) {B : Nat} : GP P w K mg base 2 CL "number" ["self"] (spNumber K CL B) := by
  have G_votes := ok_votes (P := P) (w := w) (base := base) G T (B := B)
  refine gp (G.pr (3, "number", "Led.number") (by decide +kernel)) scLM (fun _ _ _ _ _ _ us hl => match us, hl with | [_], _ => rfl) (fun vs H Q E h => ?_) (fun f cdv A outer s H vs Q E hr h => ?_)
  · obtain ⟨_, _, rfl, _⟩ := h
    rfl
  · obtain ⟨L, st, rfl, ha, g, hB, hQ⟩ := h
    have mb_len := T.no "len" (by decide +kernel)
    refine ⟨_, (pss_one (ps_ret (pe_callB call_len_seq rfl mb_len PySem.boot_len (pa_cons (pe_gm0 G_votes G.cls hr pass0 (pv 0)) pa_nil)))), ?_⟩
    obtain ⟨p, q, ⟨dl, hl⟩, hp, hq⟩ := id ha
    refine ⟨_, rfl, L, dl, _, rfl, hl, rfl, L, st, rfl, ha, g, hB, fun v H' e tv => ?_⟩
    obtain ⟨a, xs, rfl, s, t⟩ := tv.tup_inv
    refine ⟨a, xs, rfl, .inr s, ?_⟩
    rw [t.len, List.length_map]
    exact hQ _ e
/-! ### need_room, keep -/
theorem pe_len {X : Cx} {C : Addr} {k j : Nat} {ps : List Str} {sp : Sp} {e : Expr} {t : TA} {p pos : Pos} (G : GM X.prog X.w X.K X.mg X.base CX0 k C "__len__" ps sp) (hr : Room j X.A) (m : X.mg "len" = none) (ha : PA X [e] t) (hk : k + 1 ≤ j := by decide) (hg : Gl X "len" := by rfl)
    (he : starEach [e] X.env = (false, eval e X.env) :: starEach [] X.env := by rfl) : PE X (.Call (.Name "len" p) [e] [] pos) (tCB (rOwnLen C sp) t) := by
  obtain ⟨f, fd, M, F, b⟩ := G.ex
  exact pe_callB (call_ownLen F M.at_ M.fn b (hr.mono hk)) hg m PySem.boot_len ha (he := he)
/-- what len asks of a led house -/
theorem rd_len {H : Hp} {L : Addr} {st : LedSt} {Q : VK} {B : Nat} (ha : LedAt K CL H L st) (g : Good B st) (hB : B ≤ 1000) (hQ : ∀ H', Ex H H' → Q (.int st.rest.length) H') : rOwnLen CL (spLen K CL) [.ref L] H Q := by
  obtain ⟨p, q, ⟨dl, hl⟩, hp, hq⟩ := id ha
  have := g.len
  exact ⟨L, dl, _, rfl, hl, L, st, rfl, ha, fun H' e => ⟨st.rest.length, rfl, by omega, hQ _ e⟩⟩
def spRoom (K : PySem.W.Frag) (CL : Addr) (B : Nat) : Sp := fun vs H Q _ => ∃ L st, vs = [.ref L] ∧ LedAt K CL H L st ∧ Good B st ∧ B < 400 ∧ ∀ H', Ex H H' → Q .non H'
theorem scLR : FnScope ["self"] ["self"] (defScope (inClass (top 43) 6)) := ⟨rfl, rfl, rfl, by decide +kernel, rfl, by decide +kernel, by decide +kernel⟩
theorem ok_need_room (G : LedF K mg CL) (T : Txt K mg) {B : Nat} : GM P w K mg base CX0 3 CL "need_room" ["self"] (spRoom K CL B) := by
  have G_len := ok_len (P := P) (w := w) (base := base) G T
  refine gm (G.mt (6, "need_room", "Led.need_room") (by decide +kernel)) scLR (fun _ _ _ _ _ _ us hl => match us, hl with | [_], _ => rfl) (fun vs H Q E h => ?_) (fun f cdv A outer s H vs Q E hr h => ?_)
  · obtain ⟨_, _, rfl, _⟩ := h
    rfl
  · obtain ⟨L, st, rfl, ha, g, hB, hQ⟩ := h
    have mb_len := T.no "len" (by decide +kernel)
    have cMOST_DEEDS := T.int ("MOST_DEEDS", 400) (by decide +kernel)
    refine ⟨_, (pss_one (ps_if (pt_cmpR op_eq (pe_len G_len hr mb_len (pa_cons (pv 0) pa_nil)) (pe_ci cMOST_DEEDS) (nomark _)) (pss_one (ps_never)) pss_nil)), ?_⟩
    have := g.len
    obtain ⟨p, q, ⟨dl, hl⟩, hp, hq⟩ := id ha
    refine ⟨_, rfl, L, dl, _, rfl, hl, L, st, rfl, ha, fun H' e => ⟨st.rest.length, rfl, by omega, rfl, _, rfl, iteDF (fun z => ?_) (hQ _ e)⟩⟩
    injection z with z
    have z : (st.rest.length : Int) = 400 := z
    omega
def LedSt.keep (st : LedSt) (e : Entry) : LedSt := ⟨st.first, st.rest ++ [e], []⟩
def spKeep (K : PySem.W.Frag) (TT : List (Addr × Str)) (CL : Addr) : Sp := fun vs H Q _ => ∃ L v st e, vs = [.ref L, v] ∧ LedAt K CL H L st ∧ Tp K H v (dEntry e) ∧ st.rest.length ≤ 1000 ∧ ∀ H', Kp TT false [L] H H' → LedAt K CL H' L (st.keep e) → Q .non H'
theorem scLK : FnScope ["self", "one"] ["self", "one"] (defScope (inClass (top 43) 7)) := ⟨rfl, rfl, rfl, by decide +kernel, rfl, by decide +kernel, by decide +kernel⟩
theorem ok_keep (G : LedF K mg CL) : GM P w K mg base CX0 1 CL "keep" ["self", "one"] (spKeep K TT CL) := by
  refine gm (G.mt (7, "keep", "Led.keep") (by decide +kernel)) scLK (fun _ _ _ _ _ _ us hl => match us, hl with | [_, _], _ => rfl) (fun vs H Q E h => ?_) (fun f cdv A outer s H vs Q E hr h => ?_)
  · obtain ⟨_, _, _, _, rfl, _⟩ := h
    rfl
  · obtain ⟨L, v, st, e, rfl, ⟨p, q, ⟨dl, hl⟩, hp, hq⟩, tv, hn, hQ⟩ := h
    refine ⟨_, (pss_cons (ps_fld (pv 0) (pe_tup (StX.pa_star (pe_fld (pv 0) rfl) (pa_cons (pv 1) pa_nil))) rfl)
       (pss_one (ps_fld (pv 0) (pe_tup pa_nil) rfl))), ?_⟩
    obtain ⟨a, xs, rfl, s, t⟩ := hp.tup_inv
    have hxl : xs.length = st.rest.length + 1 := by rw [t.len, List.length_map]; rfl
    refine ⟨_, rfl, L, CL, dl, _, _, rfl, hl, G.cls, G.past, rfl, a, xs, rfl, .inl s, _, rfl, ?_⟩
    refine ⟨by rw [List.length_append, hxl]; show _ ≤ 2 ^ 24; simp; omega, fun pp hpp => ⟨_, rfl, L, CL, dl, _, rfl, (upd_ne (ne_of_none hl hpp)).trans hl, G.cls, G.past, (show (2 : Nat) < 1000 by decide), ?_⟩⟩
    refine ⟨by show 0 ≤ sizeLine; decide, fun q2 hq2 => ⟨_, rfl, L, CL, dl, _, rfl, (upd_ne (ne_of_none upd_same hq2)).trans upd_same, G.cls, G.later, (show (2 : Nat) < 1000 by decide), ?_⟩⟩
    have k2 : Kp TT false [L] (upd H pp (.tup (xs ++ [v]))) (upd (upd H pp (.tup (xs ++ [v]))) L (.ins CL dl (putF "past" (.ref pp) [("past", .ref a), ("later", q)]))) := .write ((upd_ne (ne_of_none hl hpp)).trans hl) List.mem_cons_self rfl rfl
    have k3 := k2.and_new (o := .tup []) hq2
    have k4 : Kp TT false [L] (upd (upd (upd H pp (.tup (xs ++ [v]))) L (.ins CL dl (putF "past" (.ref pp) [("past", .ref a), ("later", q)]))) q2 (.tup [])) _ := .write (o := .ins CL dl (putF "later" (.ref q2) (putF "past" (.ref pp) [("past", .ref a), ("later", q)]))) ((upd_ne (ne_of_none upd_same hq2)).trans upd_same) List.mem_cons_self rfl rfl
    have k5 := k3.trans k4
    refine hQ _ ((Kp.new hpp).trans k5) ⟨.ref pp, .ref q2, ⟨dl, upd_same⟩, ?_, (Tp.new .nil hq2).kp k4⟩
    have e1 : dPast (st.keep e) = .tuple (st.past.map dEntry ++ [dEntry e]) := by
      unfold dPast LedSt.past LedSt.keep
      rw [List.map_cons, List.map_append]
      rfl
    rw [e1]
    exact (Tp.new (t.append (.one tv)) hpp).kp k5
end
end T93
-- Lv
set_option maxHeartbeats 2000000
/-! T93, part v: Led: made, voted, amended, taken back, done again, copied. -/
namespace T93
open PySem PySem.Spec PyProof.Rows L2
section
variable {P : Program} {w : World} {K : PySem.W.Frag} {mg : Str → Option Value} {base : Heap} {TT : List (Addr × Str)} {CL CT : Addr}
theorem LedAt.kp {H H' : Hp} {L : Addr} {st : LedSt} {b : Bool} {S : List Addr} (h : LedAt K CL H L st) (k : Kp TT b S H H') (hn : L ∉ S) : LedAt K CL H' L st := by
  obtain ⟨p, q, ⟨dl, hl⟩, hp, hq⟩ := h
  exact ⟨p, q, ⟨dl, k.keep L _ hl hn rfl⟩, hp.kp k, hq.kp k⟩
theorem LedAt.ex {H H' : Hp} {L : Addr} {st : LedSt} (h : LedAt K CL H L st) (e : Ex H H') : LedAt K CL H' L st := by
  obtain ⟨p, q, ⟨dl, hl⟩, hp, hq⟩ := h
  exact ⟨p, q, ⟨dl, e _ _ hl⟩, hp.ex e, hq.ex e⟩
/-- an object's field is set, a tuple is made, another field is set -/
theorem kp_set2 {H : Hp} {b : Bool} {x C dx p : Addr} {fs fs1 fs2 : List (Str × V)} {xs : List V} (hx : H x = some (.ins C dx fs)) (n : (upd H x (.ins C dx fs1)) p = none) :
    Kp TT b [x] H (upd (upd (upd H x (.ins C dx fs1)) p (.tup xs)) x (.ins C dx fs2)) ∧ Kp TT b [x] (upd (upd H x (.ins C dx fs1)) p (.tup xs)) (upd (upd (upd H x (.ins C dx fs1)) p (.tup xs)) x (.ins C dx fs2)) := by
  have k : Kp TT b [x] (upd (upd H x (.ins C dx fs1)) p (.tup xs)) (upd (upd (upd H x (.ins C dx fs1)) p (.tup xs)) x (.ins C dx fs2)) := .write ((upd_ne (ne_of_none upd_same n)).trans upd_same) List.mem_cons_self rfl rfl
  exact ⟨((Kp.write (o := .ins C dx fs1) hx List.mem_cons_self rfl rfl).and_new n).trans k, k⟩
/-! ### begun -/
def begun (h : House) (s : Stand) : LedSt := ⟨⟨none, h, s⟩, [], []⟩
def spInit (K : PySem.W.Frag) (TT : List (Addr × Str)) (CL : Addr) : Sp := fun vs H Q _ => ∃ x dx u v h st, vs = [.ref x, u, v] ∧ H x = some (.ins CL dx []) ∧ Tp K H u (dHouse h) ∧ Tp K H v (dStand st) ∧ h.Ok ∧ Shape h st ∧ ∀ H', Kp TT false [x] H H' → LedAt K CL H' x (begun h st) → Q .non H'
theorem scLI : FnScope ["self", "house", "stand"] ["self", "house", "stand"] (defScope (inClass (top 43) 0)) := ⟨rfl, rfl, rfl, by decide +kernel, rfl, by decide +kernel, by decide +kernel⟩
theorem ok_LI (G : LedF K mg CL) (T : Txt K mg) : GI P w K mg base 7 CL ["self", "house", "stand"] (spInit K TT CL) := by
  have G_need_stand := ok_need_stand (P := P) (w := w) (base := base) T
  refine gi G.make scLI (fun _ _ _ _ _ _ us hl => match us, hl with | [_, _, _], _ => rfl) (fun vs H Q E h => ?_) (fun f cdv A outer s H vs Q E hr h => ?_)
  · obtain ⟨_, _, _, _, _, _, rfl, _⟩ := h
    rfl
  · obtain ⟨x, dx, u, v, h, st, rfl, hx, hu, hv, ok, sh, hQ⟩ := h
    refine ⟨_, (pss_cons (ps_expr (pe_g G_need_stand hr pass0 (pa_cons (pv 1) (pa_cons (pv 2) pa_nil))))
       (pss_cons (ps_fld (pv 0) (pe_tup (pa_cons (pe_tup (pa_cons (pe_non) (pa_cons (pv 1) (pa_cons (pv 2) pa_nil)))) pa_nil)) rfl)
       (pss_one (ps_fld (pv 0) (pe_tup pa_nil) rfl)))), ?_⟩
    refine ⟨_, rfl, _, rfl, u, v, h, st, rfl, hu, hv, ok, sh, fun H1 e1 => ?_⟩
    have hx1 := e1 _ _ hx
    refine ⟨_, rfl, _, rfl, by show 3 ≤ sizeLine; decide, fun p1 n1 => ⟨by show 1 ≤ sizeLine; decide, fun p2 n2 => ?_⟩⟩
    have e2 : Ex H _ := (e1.trans (.new n1)).trans (.new (o := .tup [.ref p1]) n2)
    have hx2 := e2 _ _ hx
    refine ⟨_, rfl, x, CL, dx, _, rfl, hx2, G.cls, G.past, (show (0 : Nat) < 1000 by decide), ?_⟩
    refine ⟨by show 0 ≤ sizeLine; decide, fun p3 n3 => ⟨_, rfl, x, CL, dx, _, rfl, (upd_ne (ne_of_none upd_same n3)).trans upd_same, G.cls, G.later, (show (1 : Nat) < 1000 by decide), ?_⟩⟩
    obtain ⟨k5, k4⟩ := kp_set2 (TT := TT) (b := false) (fs2 := putF "later" (.ref p3) (putF "past" (.ref p2) [])) (xs := []) hx2 n3
    refine hQ _ ((Kp.of_ex e2).trans k5) ⟨.ref p2, .ref p3, ⟨dx, upd_same⟩, ?_, (Tp.new .nil n3).kp k4⟩
    have t1 : Tp K _ (.ref p1) (dEntry ⟨none, h, st⟩) := Tp.new (.cons .non (.cons (hu.ex e1) (.cons (hv.ex e1) .nil))) n1
    exact (Tp.new (.one t1) n2 : Tp K _ (.ref p2) (.tuple [dEntry ⟨none, h, st⟩])).kp k5
/-! ### vote -/
def LedSt.voted (st : LedSt) (v : Row) : LedSt := st.keep ⟨some (.vote v), st.last.house, year st.last.house st.last.stand st.votes.length v⟩
def spVote (K : PySem.W.Frag) (TT : List (Addr × Str)) (CL : Addr) (B : Nat) : Sp := fun vs H Q _ => ∃ L st v, vs = [.ref L, .str (txt v)] ∧ LedAt K CL H L st ∧ Good B st ∧ B < 400 ∧ v.length = st.last.house.wards ∧
  ∀ z H', Kp TT false [L] H H' → LedAt K CL H' L (st.voted v) → Tp K H' z (dStand (year st.last.house st.last.stand st.votes.length v)) → Q z H'
theorem scVO : FnScope ["self", "choices", "found"] ["self", "choices"] (defScope (inClass (top 43) 8)) := ⟨rfl, rfl, rfl, by decide +kernel, rfl, by decide +kernel, by decide +kernel⟩
theorem ok_vote (G : LedF K mg CL) (T : Txt K mg) {B : Nat} : GM P w K mg base CX0 4 CL "vote" ["self", "choices"] (spVote K TT CL B) := by
  have nd := scVO.nd
  have G_need_choices := ok_need_choices (P := P) (w := w) (base := base) T
  have G_year_of := ok_year_of (P := P) (w := w) (base := base) T
  have G_need_room := ok_need_room (P := P) (w := w) (base := base) G T (B := B)
  have G_keep := ok_keep (P := P) (w := w) (base := base) G (TT := TT)
  have G_house := ok_house (P := P) (w := w) (base := base) G
  have G_stand := ok_stand (P := P) (w := w) (base := base) G
  have G_number := ok_number (P := P) (w := w) (base := base) G T (B := B)
  have CLS := G.cls
  refine gm (G.mt (8, "vote", "Led.vote") (by decide +kernel)) scVO (fun _ _ _ _ _ _ us hl => match us, hl with | [_, _], _ => rfl) (fun vs H Q E h => ?_) (fun f cdv A outer s H vs Q E hr h => ?_)
  · obtain ⟨_, _, _, rfl, _⟩ := h
    rfl
  · obtain ⟨L, st, v, rfl, ha, g, hB, hvl, hQ⟩ := h
    have cVOTE := T.str ("VOTE", "vote") (by decide +kernel)
    refine ⟨_, (pss_cons (ps_expr (pe_g G_need_choices hr pass0 (pa_cons (pe_gp G_house CLS hr (pv 0)) (pa_cons (pv 1) pa_nil))))
       (pss_cons (ps_expr (pe_gm0 G_need_room CLS hr pass0 (pv 0)))
       (pss_cons (ps_set (i := 2) nd rfl (Or.inl rfl) (pe_g G_year_of hr pass0 (pa_cons (pe_gp G_house CLS hr (pv 0)) (pa_cons (pe_gp G_stand CLS hr (pv 0)) (pa_cons (pe_gp G_number CLS hr (pv 0)) (pa_cons (pv 1) pa_nil))))))
       (pss_cons (ps_expr (pe_gm G_keep CLS hr pass0 (pv 0) (pa_cons (pe_tup (pa_cons (pe_tup (pa_cons (pe_cs cVOTE) (pa_cons (pv 1) pa_nil))) (pa_cons (pe_gp G_house CLS hr (pv 0)) (pa_cons (pv 2) pa_nil)))) pa_nil)))
       (pss_one (ps_ret (pv 2))))))), ?_⟩
    obtain ⟨p, q, ⟨dl, hl⟩, hp, hq⟩ := id ha
    have lo := g.last
    have hw : st.last.house.wards ≤ 4 := by
      obtain ⟨Lm, ok⟩ := lo.h
      exact ok.wd
    have gl := g.len
    refine ⟨_, rfl, L, dl, _, rfl, hl, L, st, rfl, ha, fun hu thu => ⟨_, rfl, hu, st.last.house, v, rfl, thu, hvl, by omega, fun H1 e1 => ?_⟩⟩
    refine ⟨_, rfl, L, dl, _, rfl, e1 _ _ hl, rfl, L, st, rfl, ha.ex e1, g, hB, fun H2 e2 => ?_⟩
    have e12 := e1.trans e2
    refine ⟨_, rfl, L, dl, _, rfl, e12 _ _ hl, L, st, rfl, ha.ex e12, fun h2 th2 => ⟨_, rfl, L, dl, _, rfl, e12 _ _ hl, L, st, rfl, ha.ex e12, fun s2 ts2 => ⟨_, rfl, L, dl, _, rfl, e12 _ _ hl, L, st, rfl, ha.ex e12, g, by omega, fun H3 e3 => ?_⟩⟩⟩
    refine ⟨_, rfl, h2, s2, st.last.house, st.last.stand, st.votes.length, v, rfl, th2.ex e3, ts2.ex e3, lo.h, lo.sh, hvl, fun z H4 e4 tz => ?_⟩
    have e14 := (e12.trans e3).trans e4
    refine ⟨_, rfl, L, dl, _, rfl, e14 _ _ hl, rfl, _, rfl, by show 2 ≤ sizeLine; decide, fun p1 n1 => ?_⟩
    have e15 := e14.trans (.new (o := .tup [V.str "vote", V.str (txt v)]) n1)
    refine ⟨_, rfl, L, dl, _, rfl, e15 _ _ hl, L, st, rfl, ha.ex e15, fun h3 th3 => ⟨_, rfl, by show 3 ≤ sizeLine; decide, fun p2 n2 => ?_⟩⟩
    have e16 := e15.trans (.new (o := .tup [V.ref p1, h3, z]) n2)
    have t1 : Tp K _ (.ref p1) (dDeed (some (.vote v))) := Tp.new (.cons (.str _) (.cons (.str _) .nil)) n1
    have t2 : Tp K _ (.ref p2) (dEntry ⟨some (.vote v), st.last.house, year st.last.house st.last.stand st.votes.length v⟩) := Tp.new (.cons t1 (.cons th3 (.cons (tz.ex (.new n1)) .nil))) n2
    refine ⟨L, .ref p2, st, _, rfl, ha.ex e16, t2, by omega, fun H5 k5 la => ⟨_, rfl, hQ z H5 ((Kp.of_ex e16).trans k5) la ?_⟩⟩
    exact ((tz.ex (.new n1)).ex (.new n2)).kp k5
/-! ### amend -/
def amended (h : House) (k p : Nat) (s : Seat) : House := ⟨h.bodies.take k ++ ([(h.bodies.getD k []).take p ++ [s] ++ (h.bodies.getD k []).drop (p + 1)] ++ h.bodies.drop (k + 1)), h.wards⟩
def LedSt.amendedAt (st : LedSt) (k p : Nat) (s : Seat) : LedSt := st.keep ⟨some (.amend k p s), amended st.last.house k p s, st.last.stand⟩
def spAmend (K : PySem.W.Frag) (TT : List (Addr × Str)) (CL : Addr) (B : Nat) : Sp := fun vs H Q _ => ∃ (L : Addr) (st : LedSt) (k p : Nat) (v : V) (s : Seat) (b : List Seat), vs = [.ref L, .int k, .int p, v] ∧ LedAt K CL H L st ∧ Good B st ∧ B < 400 ∧ Tp K H v (dSeat s) ∧
  st.last.house.bodies[k]? = some b ∧ p < b.length ∧ (amended st.last.house k p s).Ok ∧ ∀ H', Kp TT false [L] H H' → LedAt K CL H' L (st.amendedAt k p s) → Q .non H'
abbrev NAM : List Str := ["self", "body", "place", "seat", "bodies", "wards", "row", "fresh"]
theorem scAM : FnScope NAM ["self", "body", "place", "seat"] (defScope (inClass (top 43) 9)) := ⟨rfl, rfl, rfl, by decide +kernel, rfl, by decide +kernel, by decide +kernel⟩
theorem ok_amend (G : LedF K mg CL) (T : Txt K mg) {B : Nat} : GM P w K mg base CX0 6 CL "amend" ["self", "body", "place", "seat"] (spAmend K TT CL B) := by
  have nd := scAM.nd
  have G_is_whole := ok_is_whole (P := P) (w := w) (base := base) T
  have G_need_house := ok_need_house (P := P) (w := w) (base := base) T
  have G_need_room := ok_need_room (P := P) (w := w) (base := base) G T (B := B)
  have G_keep := ok_keep (P := P) (w := w) (base := base) G (TT := TT)
  have G_house := ok_house (P := P) (w := w) (base := base) G
  have G_stand := ok_stand (P := P) (w := w) (base := base) G
  have CLS := G.cls
  refine gm (G.mt (9, "amend", "Led.amend") (by decide +kernel)) scAM (fun _ _ _ _ _ _ us hl => match us, hl with | [_, _, _, _], _ => rfl) (fun vs H Q E h => ?_) (fun f cdv A outer s H vs Q E hr h => ?_)
  · obtain ⟨_, _, _, _, _, _, _, rfl, _⟩ := h
    rfl
  · obtain ⟨L, st, k, pl, v, s0, b, rfl, ha, g, hB, tv, hb, hpl, hok, hQ⟩ := h
    have mb_len := T.no "len" (by decide +kernel)
    have cAMEND := T.str ("AMEND", "amend") (by decide +kernel)
    refine ⟨_, (pss_cons (ps_asg (pe_gp G_house CLS hr (pv 0)) (pg_tup rfl (pgs_cons (pg_name (i := 4) nd rfl (Or.inl rfl)) (pgs_cons (pg_name (i := 5) nd rfl (Or.inl rfl)) pgs_nil))))
       (pss_cons (ps_if (pt_not (pt_val (pe_g G_is_whole hr pass0 (pa_cons (pv 1) (pa_cons (pe_int) (pa_cons (pe_op op_sub (pe_callB call_len_seq rfl mb_len PySem.boot_len (pa_cons (pv 4) pa_nil)) (pe_int)) pa_nil)))))) (pss_one (ps_never)) pss_nil)
       (pss_cons (ps_if (pt_not (pt_val (pe_g G_is_whole hr pass0 (pa_cons (pv 2) (pa_cons (pe_int) (pa_cons (pe_op op_sub (pe_callB call_len_seq rfl mb_len PySem.boot_len (pa_cons (pe_ix ix_tup (pv 4) (pv 1) (fun _ _ => rfl)) pa_nil)) (pe_int)) pa_nil)))))) (pss_one (ps_never)) pss_nil)
       (pss_cons (ps_set (i := 6) nd rfl (Or.inl rfl) (pe_op op_catA (pe_op op_catA (pe_slice sl_tupA (pe_ix ix_tup (pv 4) (pv 1) (fun _ _ => rfl)) po_none (po_some (pv 2))) (pe_tup (pa_cons (pv 3) pa_nil))) (pe_slice sl_tupA (pe_ix ix_tup (pv 4) (pv 1) (fun _ _ => rfl)) (po_some (pe_op op_add (pv 2) (pe_int))) po_none)))
       (pss_cons (ps_set (i := 7) nd rfl (Or.inl rfl) (pe_g G_need_house hr pass0 (pa_cons (pe_tup (pa_cons (pe_op op_catA (pe_op op_catA (pe_slice sl_tupA (pv 4) po_none (po_some (pv 1))) (pe_tup (pa_cons (pv 6) pa_nil))) (pe_slice sl_tupA (pv 4) (po_some (pe_op op_add (pv 1) (pe_int))) po_none)) (pa_cons (pv 5) pa_nil))) pa_nil)))
       (pss_cons (ps_expr (pe_gm0 G_need_room CLS hr pass0 (pv 0)))
       (pss_one (ps_expr (pe_gm G_keep CLS hr pass0 (pv 0) (pa_cons (pe_tup (pa_cons (pe_tup (pa_cons (pe_cs cAMEND) (pa_cons (pv 1) (pa_cons (pv 2) (pa_cons (pv 3) pa_nil))))) (pa_cons (pv 7) (pa_cons (pe_gp G_stand CLS hr (pv 0)) pa_nil)))) pa_nil)))))))))), ?_⟩
    obtain ⟨p, q, ⟨dl, hl⟩, hp, hq⟩ := id ha
    have lo := g.last
    have gl := g.len
    refine ⟨_, rfl, L, dl, _, rfl, hl, L, st, rfl, ha, fun hu thu => ?_⟩
    obtain ⟨ah, hs, rfl, sh, th⟩ := thu.tup_inv
    obtain ⟨vb, _, rfl, h0, th⟩ := th.cons_inv
    obtain ⟨_, _, rfl, h1, th⟩ := th.cons_inv
    obtain rfl := th.nil_inv
    obtain rfl := h1.int_inv
    obtain ⟨ab, bs, rfl, sb, tb⟩ := h0.tup_inv
    obtain ⟨vq, hvq, tq⟩ := tb.get (i := k) (d := dBody b) (by rw [List.getElem?_map, hb]; rfl)
    obtain ⟨aq, zs, rfl, sq, tz⟩ := tq.tup_inv
    have hk : k < st.last.house.bodies.length := (List.getElem?_eq_some_iff.mp hb).1
    have hbl : bs.length = st.last.house.bodies.length := by rw [tb.len, List.length_map]
    have hzl : zs.length = b.length := by rw [tz.len, List.length_map]
    obtain ⟨Lm, lok⟩ := lo.h
    have b3 := lok.b3
    have b9 := (lok.sz b (List.mem_of_getElem? hb)).2
    have gd : st.last.house.bodies.getD k [] = b := by rw [List.getD_eq_getElem?_getD, hb]; rfl
    have cv : ∀ {H H' : Hp} {a : Addr} {xs : List V}, Ex H H' → SqT K H a xs → SqT K H' a xs := fun e s => SqT.kp (T := []) (b := false) (S := []) (.of_ex e) s
    refine ⟨ah, _, rfl, sh, rfl, _, _, rfl, _, _, rfl, rfl, ?_⟩
    refine ⟨_, rfl, _, rfl, ab, _, rfl, .inr sb, _, _, rfl, rfl, k, 0, _, rfl, ?_⟩
    rw [dec2 (by omega) (by omega)]
    refine ⟨_, rfl, iteF ?_⟩
    refine ⟨_, rfl, _, rfl, _, rfl, ab, _, _, _, rfl, rfl, sb, atI_nat hvq, aq, _, rfl, .inr sq, _, _, rfl, rfl, pl, 0, _, rfl, ?_⟩
    rw [dec2 (by omega) (by omega)]
    refine ⟨_, rfl, iteF ?_⟩
    refine ⟨_, rfl, _, rfl, ab, _, _, _, rfl, rfl, sb, atI_nat hvq, _, rfl, pl, rfl, ?_⟩
    refine rd_sl tq fun z1 H1 e1 t1 => ?_
    refine ⟨_, rfl, by show 1 ≤ sizeLine; decide, fun p1 n1 => ?_⟩
    refine rd_cat (t1.ex (.new n1)) (Tp.new (.one (tv.ex e1)) n1) ?_ fun z2 H2 e2 t2 => ?_
    · have := cutL_len (b.map dSeat) none (some (pl : Int))
      rw [List.length_map] at this
      show _ + 1 ≤ 2 ^ 24
      omega
    have x2 := (e1.trans (.new (o := .tup [v]) n1)).trans e2
    refine ⟨_, rfl, _, rfl, ab, _, _, _, rfl, rfl, cv x2 sb, atI_nat hvq, _, rfl, _, _, rfl, rfl, _, rfl, rd_slN (tq.ex x2) fun z3 H3 e3 t3 => ?_⟩
    refine rd_cat (t2.ex e3) t3 ?_ fun z4 H4 e4 t4 => ?_
    · have h1 := cutL_len (b.map dSeat) none (some (pl : Int))
      have h2 := cutL_len (b.map dSeat) (some ((pl : Int) + 1)) none
      rw [List.length_map] at h1 h2
      rw [List.length_append]
      show _ + 1 + _ ≤ 2 ^ 24
      omega
    have x4 := (x2.trans e3).trans e4
    have er : PyData.tuple (cutL (b.map dSeat) none (some (pl : Int)) ++ [dSeat s0] ++ cutL (b.map dSeat) (some ((pl : Int) + 1)) none) = dBody (b.take pl ++ [s0] ++ b.drop (pl + 1)) := by
      rw [show ((pl : Int) + 1) = ((pl + 1 : Nat) : Int) from rfl, cut_to, cut_from]
      unfold dBody
      rw [List.map_append, List.map_append, List.map_take, List.map_drop]
      rfl
    rw [er] at t4
    refine ⟨_, rfl, _, rfl, k, rfl, ?_⟩
    refine rd_sl (h0.ex x4) fun z5 H5 e5 t5 => ?_
    refine ⟨_, rfl, by show 1 ≤ sizeLine; decide, fun p2 n2 => ?_⟩
    refine rd_cat (t5.ex (.new n2)) (Tp.new (.one (t4.ex e5)) n2) ?_ fun z6 H6 e6 t6 => ?_
    · have := cutL_len (st.last.house.bodies.map dBody) none (some (k : Int))
      rw [List.length_map] at this
      show _ + 1 ≤ 2 ^ 24
      omega
    have x6 := ((x4.trans e5).trans (.new (o := .tup [z4]) n2)).trans e6
    refine ⟨_, rfl, _, rfl, _, _, rfl, rfl, _, rfl, rd_slN (h0.ex x6) fun z7 H7 e7 t7 => ?_⟩
    refine rd_cat (t6.ex e7) t7 ?_ fun z8 H8 e8 t8 => ?_
    · have h1 := cutL_len (st.last.house.bodies.map dBody) none (some (k : Int))
      have h2 := cutL_len (st.last.house.bodies.map dBody) (some ((k : Int) + 1)) none
      rw [List.length_map] at h1 h2
      rw [List.length_append]
      show _ + 1 + _ ≤ 2 ^ 24
      omega
    have x8 := (x6.trans e7).trans e8
    have eh : PyData.tuple (cutL (st.last.house.bodies.map dBody) none (some (k : Int)) ++ [dBody (b.take pl ++ [s0] ++ b.drop (pl + 1))] ++ cutL (st.last.house.bodies.map dBody) (some ((k : Int) + 1)) none) = dBodies (amended st.last.house k pl s0).bodies := by
      rw [show ((k : Int) + 1) = ((k + 1 : Nat) : Int) from rfl, cut_to, cut_from]
      unfold dBodies amended
      rw [gd, List.map_append, List.map_append, List.map_take, List.map_drop, List.append_assoc]
      rfl
    rw [eh] at t8
    refine ⟨_, rfl, by show 2 ≤ sizeLine; decide, fun p3 n3 => ?_⟩
    have th8 : Tp K _ (.ref p3) (dHouse (amended st.last.house k pl s0)) := Tp.new (.cons t8 (.cons (.int _) .nil)) n3
    refine ⟨_, _, rfl, th8, hok, fun H9 e9 => ?_⟩
    have x9 := (x8.trans (.new (o := .tup [z8, .int st.last.house.wards]) n3)).trans e9
    refine ⟨_, rfl, L, dl, _, rfl, x9 _ _ hl, rfl, L, st, rfl, ha.ex x9, g, hB, fun H10 e10 => ?_⟩
    have x10 := x9.trans e10
    refine ⟨_, rfl, L, dl, _, rfl, x10 _ _ hl, rfl, _, rfl, _, rfl, _, rfl, by show 4 ≤ sizeLine; decide, fun p4 n4 => ⟨_, rfl, ?_⟩⟩
    have x11 := x10.trans (.new (o := .tup [V.str "amend", V.int k, V.int pl, v]) n4)
    refine ⟨_, rfl, L, dl, _, rfl, x11 _ _ hl, L, st, rfl, ha.ex x11, fun s3 ts3 => ⟨by show 3 ≤ sizeLine; decide, fun p5 n5 => ?_⟩⟩
    have x12 := x11.trans (.new (o := .tup [V.ref p4, V.ref p3, s3]) n5)
    have t9 : Tp K _ (.ref p4) (dDeed (some (.amend k pl s0))) := Tp.new (.cons (.str _) (.cons (.int _) (.cons (.int _) (.cons (tv.ex x10) .nil)))) n4
    have t10 : Tp K _ (.ref p5) (dEntry ⟨some (.amend k pl s0), amended st.last.house k pl s0, st.last.stand⟩) := Tp.new (.cons t9 (.cons (((th8.ex e9).ex e10).ex (.new n4)) (.cons ts3 .nil))) n5
    exact ⟨L, .ref p5, st, _, rfl, ha.ex x12, t10, by omega, fun H13 k13 la => hQ _ ((Kp.of_ex x12).trans k13) la⟩
end
end T93
-- Lw
set_option maxHeartbeats 2000000
/-! T93, part w: Led: taken back, done again, copied, compared. -/
namespace T93
open PySem PySem.Spec PyProof.Rows L2
theorem nice_deed {d : Option Deed} (h : ∀ x, d = some x → x.Ok) : Nice 3 100 (dDeed d) := by
  cases d with
  | none => exact Nice.non
  | some d =>
    have ok := h d rfl
    cases d with
    | vote v =>
      have ok : v.length ≤ 9 := ok
      exact (Nice.tup (n := 0) (NiceL.cons (Nice.str (n := 0) (W := 4) (by decide +kernel) (by decide +kernel)) (NiceL.cons (nice_row ok) (NiceL.nil (W := 0))))).mono (by decide) (by decide)
    | amend k p s =>
      obtain ⟨h1, h2, L, B, W, hB, hW, hs⟩ := ok
      exact (Nice.tup (n := 2) (NiceL.cons (Nice.str (n := 2) (W := 5) (by decide +kernel) (by decide +kernel)) (NiceL.cons (Nice.int (W := 11) h1 (by decide)) (NiceL.cons (Nice.int (W := 11) h2 (by decide)) (NiceL.cons (nice_seat hs hB hW) (NiceL.nil (W := 0))))))).mono (by decide) (by decide)
theorem nice_entry {e : Entry} (h : e.Ok) : Nice 6 2200 (dEntry e) := by
  obtain ⟨L, ok⟩ := h.h
  exact (Nice.tup (n := 5) (NiceL.cons ((nice_deed h.d).mono (by decide) (Nat.le_refl _)) (NiceL.cons (nice_house ok) (NiceL.cons ((nice_stand ok h.sh).mono (by decide) (Nat.le_refl _)) (NiceL.nil (W := 0)))))).mono (by decide) (by decide)
theorem nice_entries {l : List Entry} (h : ∀ e ∈ l, e.Ok) : NiceL 6 (l.length * 2201) (l.map dEntry) := by
  have z : NiceL 6 ((l.map dEntry).length * 2201) (l.map dEntry) := NiceL.of fun x hx => by
    obtain ⟨e, he, rfl⟩ := List.mem_map.mp hx
    exact nice_entry (h e he)
  rw [List.length_map] at z
  exact z
/-! ### steps back and on -/
def LedSt.back (st : LedSt) : LedSt := match st.rest.getLast? with
  | none => st
  | some e => ⟨st.first, st.rest.dropLast, e :: st.later⟩
def LedSt.on (st : LedSt) : LedSt := match st.later with
  | [] => st
  | e :: l => ⟨st.first, st.rest ++ [e], l⟩
theorem back_nil {st : LedSt} (h : st.rest = []) : st.back = st := by
  unfold LedSt.back
  rw [h]
  rfl
theorem back_app {st : LedSt} {r : List Entry} {e : Entry} (h : st.rest = r ++ [e]) : st.back = ⟨st.first, r, e :: st.later⟩ := by
  unfold LedSt.back
  rw [h, List.getLast?_append]
  simp
theorem rest_cases (l : List Entry) : l = [] ∨ ∃ r e, l = r ++ [e] := by
  rcases List.eq_nil_or_concat l with h | ⟨r, e, h⟩
  · exact .inl h
  · exact .inr ⟨r, e, by rw [h, List.concat_eq_append]⟩
section
variable {P : Program} {w : World} {K : PySem.W.Frag} {mg : Str → Option Value} {base : Heap} {TT : List (Addr × Str)} {CL CT : Addr}
def spUndo (K : PySem.W.Frag) (TT : List (Addr × Str)) (CL : Addr) (B : Nat) : Sp := fun vs H Q _ => ∃ L st, vs = [.ref L] ∧ LedAt K CL H L st ∧ Good B st ∧ B ≤ 1000 ∧ ∀ H', Kp TT false [L] H H' → LedAt K CL H' L st.back → Q (.bl (!st.rest.isEmpty)) H'
theorem scUN : FnScope ["self"] ["self"] (defScope (inClass (top 43) 10)) := ⟨rfl, rfl, rfl, by decide +kernel, rfl, by decide +kernel, by decide +kernel⟩
theorem ok_undo (G : LedF K mg CL) (T : Txt K mg) {B : Nat} : GM P w K mg base CX0 3 CL "undo" ["self"] (spUndo K TT CL B) := by
  have G_len := ok_len (P := P) (w := w) (base := base) G T
  refine gm (G.mt (10, "undo", "Led.undo") (by decide +kernel)) scUN (fun _ _ _ _ _ _ us hl => match us, hl with | [_], _ => rfl) (fun vs H Q E h => ?_) (fun f cdv A outer s H vs Q E hr h => ?_)
  · obtain ⟨_, _, rfl, _⟩ := h
    rfl
  · obtain ⟨L, st, rfl, ha, g, hB, hQ⟩ := h
    have mb_len := T.no "len" (by decide +kernel)
    refine ⟨_, (pss_cons (ps_if (pt_cmpR op_eq (pe_len G_len hr mb_len (pa_cons (pv 0) pa_nil)) (pe_int) (nomark _)) (pss_one (ps_ret (pe_bl))) pss_nil)
       (pss_cons (ps_fld (pv 0) (pe_tup (pa_cons (pe_ix ix_tup (pe_fld (pv 0) rfl) (pe_un un_neg pe_int) (fun _ _ => rfl)) (StX.pa_star (pe_fld (pv 0) rfl) pa_nil))) rfl)
       (pss_cons (ps_fld (pv 0) (pe_slice sl_tupA (pe_fld (pv 0) rfl) po_none (po_some (pe_un un_neg (pe_int)))) rfl)
       (pss_one (ps_ret (pe_bl)))))), ?_⟩
    obtain ⟨p, q, ⟨dl, hl⟩, hp, hq⟩ := id ha
    have gl := g.len
    refine ⟨_, rfl, L, dl, _, rfl, hl, L, st, rfl, ha, fun H1 e1 => ⟨st.rest.length, rfl, by omega, rfl, _, rfl, ?_⟩⟩
    refine (show if decide (V.int (st.rest.length : Int) = V.int 0) = true then _ else _ from ?_)
    rcases rest_cases st.rest with h0 | ⟨r, e, h0⟩
    · rw [h0]
      refine iteD rfl ?_
      have z := hQ H1 (.of_ex e1) (by rw [back_nil h0]; exact ha.ex e1)
      rw [h0] at z
      exact z
    · refine iteDF (fun z => by injection z with z; rw [h0] at z; simp at z; omega) ?_
      have hp' : Tp K H1 p (.tuple ((st.first :: r).map dEntry ++ [dEntry e])) := by
        have z := hp.ex e1
        unfold dPast LedSt.past at z
        rw [h0] at z
        rw [show (st.first :: r).map dEntry ++ [dEntry e] = (st.first :: (r ++ [e])).map dEntry by rw [List.map_cons, List.map_cons, List.map_append]; rfl]
        exact z
      obtain ⟨a0, x0, z0, rfl, s0, i0, u0⟩ := last_of hp'
      obtain ⟨aq, qs, rfl, sq, tq⟩ := (hq.ex e1).tup_inv
      have hl1 := e1 _ _ hl
      have ql : qs.length = st.later.length := by rw [tq.len, List.length_map]
      refine ⟨_, rfl, L, CL, dl, _, _, rfl, hl1, G.cls, G.past, rfl, 1, rfl, a0, x0, _, z0, rfl, rfl, s0, i0, _, rfl, L, CL, dl, _, _, rfl, hl1, G.cls, G.later, rfl, aq, qs, rfl, .inl sq, ?_⟩
      refine ⟨by simp only [List.length_cons, List.length_append, List.length_nil, ql]; show _ ≤ 2 ^ 24; omega, fun p1 n1 => ⟨_, rfl, L, CL, dl, _, rfl, (upd_ne (ne_of_none hl1 n1)).trans hl1, G.cls, G.later, (show (2 : Nat) < 1000 by decide), ?_⟩⟩
      have kw : Kp TT false [L] (upd H1 p1 (.tup (z0 :: (qs ++ [])))) (upd (upd H1 p1 (.tup (z0 :: (qs ++ [])))) L (.ins CL dl (putF "later" (.ref p1) [("past", .ref a0), ("later", .ref aq)]))) := .write ((upd_ne (ne_of_none hl1 n1)).trans hl1) List.mem_cons_self rfl rfl
      refine ⟨_, rfl, L, CL, dl, _, _, rfl, upd_same, G.cls, G.past, rfl, 1, rfl, _, rfl, ?_⟩
      refine rd_sl ((hp'.ex (.new n1)).kp kw) fun z2 H2 e2 t2 => ?_
      rw [cut_m1, List.dropLast_concat] at t2
      refine ⟨_, rfl, L, CL, dl, _, rfl, e2 _ _ upd_same, G.cls, G.past, (show (2 : Nat) < 1000 by decide), ?_⟩
      have k3 : Kp TT false [L] H2 (upd H2 L (.ins CL dl (putF "past" z2 (putF "later" (.ref p1) [("past", .ref a0), ("later", .ref aq)])))) := .write (e2 _ _ upd_same) List.mem_cons_self rfl rfl
      have k23 := (Kp.of_ex e2 : Kp TT false [L] _ H2).trans k3
      have q := hQ _ ((((Kp.of_ex e1).trans (.new n1)).trans kw).trans k23) ⟨z2, .ref p1, ⟨dl, upd_same⟩, ?_, ?_⟩
      · rw [h0] at q
        rw [show (!(r ++ [e]).isEmpty) = true by cases r <;> rfl] at q
        exact q
      · rw [back_app h0]
        exact t2.kp k3
      · rw [back_app h0]
        have tl : Tp K _ (.ref p1) (.tuple ((e :: st.later).map dEntry)) := Tp.new (vs := z0 :: (qs ++ [])) (.cons u0 (by rw [List.append_nil]; exact tq)) n1
        exact (tl.kp kw).kp k23
def spRedo (K : PySem.W.Frag) (TT : List (Addr × Str)) (CL : Addr) (B : Nat) : Sp := fun vs H Q _ => ∃ L st, vs = [.ref L] ∧ LedAt K CL H L st ∧ Good B st ∧ B ≤ 1000 ∧ ∀ H', Kp TT false [L] H H' → LedAt K CL H' L st.on → Q (.bl (!st.later.isEmpty)) H'
theorem scRE : FnScope ["self"] ["self"] (defScope (inClass (top 43) 11)) := ⟨rfl, rfl, rfl, by decide +kernel, rfl, by decide +kernel, by decide +kernel⟩
theorem ok_redo (G : LedF K mg CL) {B : Nat} : GM P w K mg base CX0 1 CL "redo" ["self"] (spRedo K TT CL B) := by
  refine gm (G.mt (11, "redo", "Led.redo") (by decide +kernel)) scRE (fun _ _ _ _ _ _ us hl => match us, hl with | [_], _ => rfl) (fun vs H Q E h => ?_) (fun f cdv A outer s H vs Q E hr h => ?_)
  · obtain ⟨_, _, rfl, _⟩ := h
    rfl
  · obtain ⟨L, st, rfl, ha, g, hB, hQ⟩ := h
    refine ⟨_, (pss_cons (ps_if (pt_cmpR (op_eqD hr.units) (pe_fld (pv 0) rfl) (pe_tup pa_nil) (nomark _)) (pss_one (ps_ret (pe_bl))) pss_nil)
       (pss_cons (ps_fld (pv 0) (pe_tup (StX.pa_star (pe_fld (pv 0) rfl) (pa_cons (pe_ix ix_tup (pe_fld (pv 0) rfl) pe_int (fun _ _ => rfl)) pa_nil))) rfl)
       (pss_cons (ps_fld (pv 0) (pe_slice sl_tupA (pe_fld (pv 0) rfl) (po_some (pe_int)) po_none) rfl)
       (pss_one (ps_ret (pe_bl)))))), ?_⟩
    obtain ⟨p, q, ⟨dl, hl⟩, hp, hq⟩ := id ha
    have gl := g.len
    have nl := nice_entries fun e he => (g.l e he).1
    refine ⟨_, rfl, L, CL, dl, _, _, rfl, hl, G.cls, G.later, rfl, by show 0 ≤ sizeLine; decide, fun p0 n0 => ⟨.tuple (st.later.map dEntry), .tuple [], (hq.ex (.new n0)).dp, (Tp.new .nil n0).dp, (Nice.tup nl).shaped (by decide), rfl, _, rfl, ?_⟩⟩
    have e0 : Ex H (upd H p0 (.tup [])) := .new n0
    cases hc : st.later with
    | nil =>
      refine iteT ?_
      have z := hQ _ (.of_ex e0) (by
        have : st.on = st := by unfold LedSt.on; rw [hc]
        rw [this]
        exact ha.ex e0)
      rw [hc] at z
      exact z
    | cons e l =>
      refine iteF ?_
      have hl0 := e0 _ _ hl
      rw [hc] at hq
      obtain ⟨a0, x0, z0, rfl, s0, i0, u0⟩ := ix_of (j := 0) (hq.ex e0) rfl
      obtain ⟨ap, ps, rfl, sp, tp⟩ := (hp.ex e0).tup_inv
      have pl : ps.length = st.rest.length + 1 := by rw [tp.len, List.length_map]; rfl
      refine ⟨_, rfl, L, CL, dl, _, _, rfl, hl0, G.cls, G.past, rfl, ap, ps, rfl, .inl sp, _, rfl, L, CL, dl, _, _, rfl, hl0, G.cls, G.later, rfl, a0, x0, _, z0, rfl, rfl, s0, i0, ?_⟩
      refine ⟨by rw [List.length_append, pl]; show _ + 1 ≤ 2 ^ 24; omega, fun p1 n1 => ⟨_, rfl, L, CL, dl, _, rfl, (upd_ne (ne_of_none hl0 n1)).trans hl0, G.cls, G.past, (show (2 : Nat) < 1000 by decide), ?_⟩⟩
      have kw : Kp TT false [L] (upd (upd H p0 (.tup [])) p1 (.tup (ps ++ [z0]))) (upd (upd (upd H p0 (.tup [])) p1 (.tup (ps ++ [z0]))) L (.ins CL dl (putF "past" (.ref p1) [("past", .ref ap), ("later", .ref a0)]))) := .write ((upd_ne (ne_of_none hl0 n1)).trans hl0) List.mem_cons_self rfl rfl
      refine ⟨_, rfl, L, CL, dl, _, _, rfl, upd_same, G.cls, G.later, rfl, 1, rfl, rd_slN (((hq.ex e0).ex (.new n1)).kp kw) fun z2 H2 e2 t2 => ?_⟩
      have hcut : cutL ((e :: l).map dEntry) (some (1 : Int)) none = l.map dEntry := (cut_from _ 1).trans rfl
      rw [hcut] at t2
      refine ⟨_, rfl, L, CL, dl, _, rfl, e2 _ _ upd_same, G.cls, G.later, (show (2 : Nat) < 1000 by decide), ?_⟩
      have k3 : Kp TT false [L] H2 (upd H2 L (.ins CL dl (putF "later" z2 (putF "past" (.ref p1) [("past", .ref ap), ("later", .ref a0)])))) := .write (e2 _ _ upd_same) List.mem_cons_self rfl rfl
      have k23 := (Kp.of_ex e2 : Kp TT false [L] _ H2).trans k3
      have on : st.on = ⟨st.first, st.rest ++ [e], l⟩ := by
        unfold LedSt.on
        rw [hc]
      have q := hQ _ ((((Kp.of_ex e0).trans (.new n1)).trans kw).trans k23) ⟨.ref p1, z2, ⟨dl, upd_same⟩, ?_, ?_⟩
      · rw [hc] at q
        exact q
      · rw [on]
        have tl : Tp K (upd (upd H p0 (.tup [])) p1 (.tup (ps ++ [z0]))) (.ref p1) (dPast ⟨st.first, st.rest ++ [e], l⟩) := by
          have z := Tp.new (tp.append (.one u0)) n1
          unfold dPast LedSt.past
          rw [List.map_cons, List.map_append]
          exact z
        exact (tl.kp kw).kp k23
      · rw [on]
        exact t2.kp k3
/-! ### copy, trial -/
def spCopy (K : PySem.W.Frag) (TT : List (Addr × Str)) (CL : Addr) (B : Nat) : Sp := fun vs H Q _ => ∃ L st, vs = [.ref L] ∧ LedAt K CL H L st ∧ Good B st ∧ ∀ x H', H x = none → Kp TT false [] H H' → LedAt K CL H' x st → Q (.ref x) H'
theorem scCO : FnScope ["self", "found"] ["self"] (defScope (inClass (top 43) 12)) := ⟨rfl, rfl, rfl, by decide +kernel, rfl, by decide +kernel, by decide +kernel⟩
theorem ok_copy (G : LedF K mg CL) (T : Txt K mg) {B : Nat} : GM P w K mg base CX0 9 CL "copy" ["self"] (spCopy K TT CL B) := by
  have nd := scCO.nd
  have G_Led := ok_LI (P := P) (w := w) (base := base) (TT := TT) G T
  refine gm (G.mt (12, "copy", "Led.copy") (by decide +kernel)) scCO (fun _ _ _ _ _ _ us hl => match us, hl with | [_], _ => rfl) (fun vs H Q E h => ?_) (fun f cdv A outer s H vs Q E hr h => ?_)
  · obtain ⟨_, _, rfl, _⟩ := h
    rfl
  · obtain ⟨L, st, rfl, ha, g, hQ⟩ := h
    refine ⟨_, (pss_cons (ps_set (i := 1) nd rfl (Or.inl rfl) (pe_gi G_Led hr G.nm (pa_cons (pe_ix ix_tup (pe_ix ix_tup (pe_fld (pv 0) rfl) (pe_int) (fun _ _ => rfl)) (pe_int) (fun _ _ => rfl)) (pa_cons (pe_ix ix_tup (pe_ix ix_tup (pe_fld (pv 0) rfl) (pe_int) (fun _ _ => rfl)) (pe_int) (fun _ _ => rfl)) pa_nil))))
       (pss_cons (ps_fld (pv 1) (pe_fld (pv 0) rfl) rfl)
       (pss_cons (ps_fld (pv 1) (pe_fld (pv 0) rfl) rfl)
       (pss_one (ps_ret (pv 1)))))), ?_⟩
    obtain ⟨p, q, ⟨dl, hl⟩, hp, hq⟩ := id ha
    obtain ⟨a0, x0, z0, rfl, s0, i0, u0⟩ := ix_of (j := 0) (d := dEntry st.first) hp rfl
    obtain ⟨a1, x1, z1, rfl, s1, i1, u1⟩ := ix_of (j := 1) (d := dHouse st.first.house) u0 rfl
    obtain ⟨a2, x2, z2, e2, s2, i2, u2⟩ := ix_of (j := 2) (d := dStand st.first.stand) u0 rfl
    cases e2
    refine ⟨_, rfl, L, CL, dl, _, _, rfl, hl, G.cls, G.past, rfl, a0, x0, _, _, rfl, rfl, s0, i0, a1, x1, _, z1, rfl, rfl, s1, i1, _, rfl, L, CL, dl, _, _, rfl, hl, G.cls, G.past, rfl, a0, x0, _, _, rfl, rfl, s0, i0, a1, x2, _, z2, rfl, rfl, s2, i2, fun x dx nx ndx nex => ?_⟩
    have ex : Ex H (upd (upd H dx (.own x)) x (.ins CL dx [])) := (Evl.Ex.new ndx).trans (.new ((upd_ne (Ne.symm nex)).trans nx))
    refine ⟨x, dx, z1, z2, _, _, rfl, upd_same, u1.ex ex, u2.ex ex, g.f.h, g.f.sh, fun H1 k1 la => ⟨rfl, ?_⟩⟩
    obtain ⟨p1, q1, ⟨dl1, hl1⟩, hp1, hq1⟩ := la
    have nxL : x ≠ L := fun z => by
      rw [z, hl] at nx
      cases nx
    have hl2 : H1 L = _ := k1.keep L _ (ex _ _ hl) (fun z => nxL (List.mem_singleton.mp z).symm) rfl
    refine ⟨_, rfl, L, CL, dl, _, _, rfl, hl2, G.cls, G.past, rfl, _, rfl, x, CL, dl1, _, rfl, hl1, G.cls, G.past, (show (2 : Nat) < 1000 by decide), ?_⟩
    have hl3 : upd H1 x (.ins CL dl1 (putF "past" (.ref a0) [("past", p1), ("later", q1)])) L = _ := (upd_ne (Ne.symm nxL)).trans hl2
    refine ⟨_, rfl, L, CL, dl, _, _, rfl, hl3, G.cls, G.later, rfl, _, rfl, x, CL, dl1, _, rfl, upd_same, G.cls, G.later, (show (2 : Nat) < 1000 by decide), _, rfl, ?_⟩
    have k2 : Kp TT false [x] H1 _ := Kp.write (o := .ins CL dl1 (putF "past" (.ref a0) [("past", p1), ("later", q1)])) hl1 List.mem_cons_self rfl rfl
    have k3 := k1.trans (k2.trans (Kp.write (o := .ins CL dl1 (putF "later" q (putF "past" (.ref a0) [("past", p1), ("later", q1)]))) upd_same List.mem_cons_self rfl rfl))
    have k4 := (Kp.of_ex ex : Kp TT false [] H _).fresh1 k3 nx
    exact hQ x _ nx k4 ⟨.ref a0, q, ⟨dl1, upd_same⟩, hp.kp k4, hq.kp k4⟩
def spTrial (TT : List (Addr × Str)) (CT : Addr) : Sp := fun vs H Q _ => ∃ L, vs = [.ref L] ∧ ∀ x H' p q, H x = none → Kp TT false [] H H' → TriH CT H' x L p q → Q (.ref x) H'
theorem scTR : FnScope ["self"] ["self"] (defScope (inClass (top 43) 13)) := ⟨rfl, rfl, rfl, by decide +kernel, rfl, by decide +kernel, by decide +kernel⟩
theorem ok_trial (G : LedF K mg CL) (F : TriF K mg CT) : GM P w K mg base CX0 3 CL "trial" ["self"] (spTrial TT CT) := by
  have G_Trial := ok_TI (P := P) (w := w) (base := base) (TT := TT) F
  refine gm (G.mt (13, "trial", "Led.trial") (by decide +kernel)) scTR (fun _ _ _ _ _ _ us hl => match us, hl with | [_], _ => rfl) (fun vs H Q E h => ?_) (fun f cdv A outer s H vs Q E hr h => ?_)
  · obtain ⟨_, rfl, _⟩ := h
    rfl
  · obtain ⟨L, rfl, hQ⟩ := h
    refine ⟨_, (pss_one (ps_ret (pe_gi G_Trial hr F.nm (pa_cons (pv 0) pa_nil)))), ?_⟩
    refine ⟨_, rfl, fun x dx nx ndx nex => ⟨x, dx, L, rfl, upd_same, fun H1 p q k1 t => ⟨rfl, ?_⟩⟩⟩
    have ex : Ex H (upd (upd H dx (.own x)) x (.ins CT dx [])) := (Evl.Ex.new ndx).trans (.new ((upd_ne (Ne.symm nex)).trans nx))
    exact hQ x H1 p q nx ((Kp.of_ex ex : Kp TT false [] H _).fresh1 k1 nx) t
/-! ### == -/
def eqLed (st su : LedSt) : Bool := PyData.eqv (dEntry st.first) (dEntry su.first) && PyData.eqv (.list (st.past.map fun e => dDeed e.deed)) (.list (su.past.map fun e => dDeed e.deed))
def spEq (K : PySem.W.Frag) (CL : Addr) (B : Nat) : Sp := fun vs H Q _ => ∃ L st, LedAt K CL H L st ∧ Good B st ∧ B ≤ 1000 ∧ ((∃ M su, vs = [.ref L, .ref M] ∧ LedAt K CL H M su ∧ Good B su ∧ ∀ H', Ex H H' → Q (.bl (eqLed st su)) H') ∨
  ∃ v t, vs = [.ref L, v] ∧ TyX K H v t ∧ PySem.W.kitOne K t (.ref CL) = some false ∧ ∀ H', Ex H H' → Q (.bl false) H')
theorem scEQ : FnScope ["self", "other", "one"] ["self", "other"] (defScope (inClass (top 43) 14)) := ⟨rfl, rfl, rfl, by decide +kernel, rfl, by decide +kernel, by decide +kernel⟩
theorem ok_eq (G : LedF K mg CL) (T : Txt K mg) {B : Nat} : GM P w K mg base CX0 1 CL "__eq__" ["self", "other"] (spEq K CL B) := by
  have nd := scEQ.nd
  refine gm (G.mt (14, "__eq__", "Led.__eq__") (by decide +kernel)) scEQ (fun _ _ _ _ _ _ us hl => match us, hl with | [_, _], _ => rfl) (fun vs H Q E h => ?_) (fun f cdv A outer s H vs Q E hr h => ?_)
  · obtain ⟨_, _, _, _, _, h⟩ := h
    rcases h with ⟨_, _, rfl, _⟩ | ⟨_, _, rfl, _⟩ <;> rfl
  · obtain ⟨L, st, ha, g, hB, h⟩ := h
    have mb_isinstance := T.no "isinstance" (by decide +kernel)
    refine ⟨_, (pss_cons (ps_if (PW.pt (pw_or (pt_not (pt_val (pe_callB call_isi rfl mb_isinstance (by decide +kernel) (pa_cons (pv 1) (pa_cons (pe_glob rfl G.nm (v := .ref CL) rfl) pa_nil))))) (pw_or1 (pt_cmpR (op_neD hr.units) (pe_ix ix_tup (pe_fld (pv 0) rfl) (pe_int) (fun _ _ => rfl)) (pe_ix ix_tup (pe_fld (pv 1) rfl) (pe_int) (fun _ _ => rfl)) (nomark _))))) (pss_one (ps_ret (pe_bl))) pss_nil)
       (pss_one (ps_ret (pe_cmpR (op_eqD hr.units) (pe_lc (own := [("one", 2)]) rfl nd (pi_tup (pe_fld (pv 0) rfl)) (blkOk_by (own := [("one", 2)]) (N := ["self", "other", "one"]) (sc := (defScope (inClass (top 43) 14))) (by decide +kernel)) (fun _ _ _ _ _ => (pg_name (i := 2) nd rfl (Or.inl rfl))) (fun _ _ _ _ _ => pts_nil) (fun _ _ _ _ _ => (pe_ix (ix_tupK K rfl) (pv 2) (pe_int) (fun _ _ => rfl)))) (pe_lc (own := [("one", 2)]) rfl nd (pi_tup (pe_fld (pv 1) rfl)) (blkOk_by (own := [("one", 2)]) (N := ["self", "other", "one"]) (sc := (defScope (inClass (top 43) 14))) (by decide +kernel)) (fun _ _ _ _ _ => (pg_name (i := 2) nd rfl (Or.inl rfl))) (fun _ _ _ _ _ => pts_nil) (fun _ _ _ _ _ => (pe_ix (ix_tupK K rfl) (pv 2) (pe_int) (fun _ _ => rfl)))) (nomark _))))), ?_⟩
    rcases h with ⟨M, su, rfl, hm, gm, hQ⟩ | ⟨v, t, rfl, ty, kt, hQ⟩
    · obtain ⟨p, q, ⟨dl, hl⟩, hp, hq⟩ := id ha
      obtain ⟨p', q', ⟨dm, hl'⟩, hp', hq'⟩ := id hm
      obtain ⟨ap, ps, rfl, sp, tp⟩ := hp.tup_inv
      obtain ⟨ap', ps', rfl, sp', tp'⟩ := hp'.tup_inv
      obtain ⟨z0, hz0, u0⟩ := tp.get (i := 0) (d := dEntry st.first) rfl
      obtain ⟨z1, hz1, u1⟩ := tp'.get (i := 0) (d := dEntry su.first) rfl
      refine ⟨_, rfl, _, _, .ref CL, .ref CL, true, rfl, .own CL, .base (.ins hl' G.cls G.tyA G.tyB G.tyC G.tyD), G.isL, _, rfl, iteF ?_⟩
      refine ⟨_, rfl, L, CL, dl, _, _, rfl, hl, G.cls, G.past, rfl, ap, ps, _, z0, rfl, rfl, sp, atI_nat (j := 0) hz0, _, rfl, M, CL, dm, _, _, rfl, hl', G.cls, G.past, rfl, ap', ps', _, z1, rfl, rfl, sp', atI_nat (j := 0) hz1, _, _, u0.dp, u1.dp, (nice_entry g.f).shaped (by decide), (nice_entry gm.f).shaped (by decide), _, rfl, ?_⟩
      unfold eqLed at hQ
      cases hc : PyData.eqv (dEntry st.first) (dEntry su.first) with
      | false =>
        rw [hc, Bool.false_and] at hQ
        exact iteT (hQ _ (.refl _))
      | true =>
        rw [hc, Bool.true_and] at hQ
        refine iteF ?_
        have nd1 : ∀ {s : LedSt}, Good B s → NiceL 3 ((s.past.map fun e => dDeed e.deed).length * 101) (s.past.map fun e => dDeed e.deed) := fun {s} gs => NiceL.of fun x hx => by
          obtain ⟨e, he, rfl⟩ := List.mem_map.mp hx
          rcases List.mem_cons.mp he with z | he
          · rw [z]
            exact nice_deed gs.f.d
          · exact nice_deed (gs.r e he).1.d
        have len1 : ∀ {s : LedSt}, Good B s → (s.past.map fun e => dDeed e.deed).length < sizeLine := fun {s} gs => by
          have := gs.len
          rw [List.length_map]
          show s.rest.length + 1 < 2 ^ 24
          omega
        refine ⟨_, rfl, L, CL, dl, _, _, rfl, hl, G.cls, G.past, rfl, ap, rfl, ⟨_, sp⟩, fun D1 n1 => lc_data (K := K) walk_tup (st.past.map fun e => dDeed e.deed) (by rw [tp.len, List.length_map, List.length_map]) (len1 g) n1 (fun H2 e => SqT.kp (T := []) (b := false) (S := []) (.of_ex e) sp) (fun i d x H2 H3 kx hd e y kx => ?_) (fun H2 zs e hz tz => ?_)⟩
        · obtain ⟨rfl, hx⟩ := y
          obtain ⟨en, hen, tx⟩ := tp.getm hx
          rw [List.getElem?_map, hen] at hd
          obtain rfl := Option.some.inj hd
          obtain ⟨ae, es, rfl, se, te⟩ := (tx.ex e).tup_inv
          obtain ⟨vd, _, rfl, t0, te⟩ := te.cons_inv
          exact ⟨rfl, _, rfl, ae, _, _, vd, rfl, rfl, se, atI_nat (j := 0) rfl, kx vd _ (.refl _) t0⟩
        · refine ⟨_, rfl, M, CL, dm, _, _, rfl, e _ _ hl', G.cls, G.past, rfl, ap', rfl, ⟨_, SqT.kp (T := []) (b := false) (S := []) (.of_ex e) sp'⟩, fun D2 n2 => lc_data (K := K) walk_tup (su.past.map fun e => dDeed e.deed) (by rw [tp'.len, List.length_map, List.length_map]) (len1 gm) n2 (fun H4 e4 => SqT.kp (T := []) (b := false) (S := []) (.of_ex (e.trans e4)) sp') (fun i d x H4 H3 kx hd e4 y kx => ?_) (fun H4 ws e4 hw tw => ?_)⟩
          · obtain ⟨rfl, hx⟩ := y
            obtain ⟨en, hen, tx⟩ := tp'.getm hx
            rw [List.getElem?_map, hen] at hd
            obtain rfl := Option.some.inj hd
            obtain ⟨ae, es, rfl, se, te⟩ := (tx.ex (e.trans e4)).tup_inv
            obtain ⟨vd, _, rfl, t0, te⟩ := te.cons_inv
            exact ⟨rfl, _, rfl, ae, _, _, vd, rfl, rfl, se, atI_nat (j := 0) rfl, kx vd _ (.refl _) t0⟩
          · have hz4 := e4 _ _ hz
            refine ⟨.list _, .list _, .lst (SqL.of hz4) (tz.ex e4).dp, .lst (SqL.of hw) tw.dp, (Nice.lst (nd1 g)).shaped (by decide), (Nice.lst (nd1 gm)).shaped (by decide), hQ _ (e.trans e4)⟩
    · exact ⟨_, rfl, v, _, t, .ref CL, false, rfl, .own CL, ty, kt, _, rfl, iteT (hQ _ (.refl _))⟩
end
end T93
-- Lx
set_option maxHeartbeats 2000000
/-! T93, part x: choices that are refused. -/
namespace T93
open PySem PySem.Spec PyProof.Rows L2
section
variable {P : Program} {w : World} {K : PySem.W.Frag} {mg : Str → Option Value} {base : Heap} {TT : List (Addr × Str)} {CL CT CB : Addr}
theorem pss_never {X : Cx} {st : List Stmt} : PSs X st (fun _ _ _ => False) := ⟨fun _ _ _ _ _ _ h => h.elim⟩
/-- the exception as its catcher finds it -/
def XdAt (H : Hp) (d : Addr) : Prop := H d = some (.xd [("place", .int 0)])
def spChoicesBad (K : PySem.W.Frag) (CB : Addr) : Sp := fun vs H _ E => ∃ (v : V) (h : House) (x : Str), vs = [v, .str x] ∧ Tp K H v (dHouse h) ∧ lettersB x h.wards = false ∧ x.length ≤ 1000 ∧ ∀ d H', Ex H H' → XdAt H' d → E (.ref CB) (some d) H'
theorem ok_choices_bad (T : Txt K mg) (F : BadF P K mg CB) : GOk P w K mg base (L2.CX P w) 3 "need_choices" ["house", "choices"] (spChoicesBad K CB) := by
  have G_are_letters := ok_are_letters (P := P) (w := w) (base := base) T
  obtain ⟨fi, fd, qual, XF, iC, tI⟩ := F.ex
  have F1 := xi_ok (w := w) (base := base) XF
  refine gokX (T.df (30, "need_choices") (by decide +kernel)) sc30 (fun _ _ _ _ _ _ us hl => match us, hl with | [_, _], _ => rfl) (fun vs H Q E h => ?_) (fun f cdv A outer s H vs Q E hr h => ?_)
  · obtain ⟨_, _, _, rfl, _⟩ := h
    rfl
  · obtain ⟨v, h, x, rfl, hv, hx, hz, hE⟩ := h
    refine ⟨_, (pss_one (ps_if (pt_not (pt_val (pe_g G_are_letters hr pass0 (pa_cons (pv 1) (pa_cons (pe_ix ix_tup (pv 0) (pe_int) (fun _ _ => rfl)) pa_nil))))) (pss_one (ps_raise rfl (takes_of rfl rfl rfl rfl) (pmk_oex XF.oex iC tI F1 hr (xi_binds XF) .nil pass0 rfl F.nm (pa_cons pe_int pa_nil)))) pss_nil)), ?_⟩
    obtain ⟨a, xs, rfl, s, t⟩ := hv.tup_inv
    obtain ⟨_, _, rfl, h0, t⟩ := t.cons_inv
    obtain ⟨_, _, rfl, h1, t⟩ := t.cons_inv
    obtain rfl := t.nil_inv
    obtain rfl := h1.int_inv
    refine ⟨_, rfl, _, rfl, a, _, _, _, rfl, rfl, s, atI_nat (j := 1) rfl, x, h.wards, rfl, hz, fun H1 e1 => ?_⟩
    rw [hx]
    refine ⟨_, rfl, iteT ⟨by show 1 ≤ 1000; decide, fun ax na => ⟨ax, .int 0, rfl, upd_same, fun dx nd ne => ?_⟩⟩⟩
    have nd1 : H1 dx = none := (upd_ne ne).symm.trans nd
    refine ⟨rfl, dx, _, upd_same, (upd_ne ne).trans upd_same, nd1, hE dx _ (e1.trans fun b o hb => ?_) upd_same⟩
    have b1 : b ≠ dx := ne_of_none hb nd1
    have b2 : b ≠ ax := ne_of_none hb na
    rw [upd_ne b1, del_ne b2, upd_ne b2, upd_ne b1, upd_ne b2]
    exact hb
def spVoteBad (K : PySem.W.Frag) (CL CB : Addr) : Sp := fun vs H _ E => ∃ (L : Addr) (st : LedSt) (x : Str), vs = [.ref L, .str x] ∧ LedAt K CL H L st ∧ lettersB x st.last.house.wards = false ∧ x.length ≤ 1000 ∧ ∀ d H', Ex H H' → XdAt H' d → E (.ref CB) (some d) H'
theorem ok_vote_bad (G : LedF K mg CL) (T : Txt K mg) (F : BadF P K mg CB) : GM P w K mg base (L2.CX P w) 4 CL "vote" ["self", "choices"] (spVoteBad K CL CB) := by
  have nd := scVO.nd
  have G_bad := ok_choices_bad (w := w) (base := base) T F
  have G_house := ok_house (P := P) (w := w) (base := base) G
  have CLS := G.cls
  refine gmX (G.mt (8, "vote", "Led.vote") (by decide +kernel)) scVO (fun _ _ _ _ _ _ us hl => match us, hl with | [_, _], _ => rfl) (fun vs H Q E h => ?_) (fun f cdv A outer s H vs Q E hr h => ?_)
  · obtain ⟨_, _, _, rfl, _⟩ := h
    rfl
  · obtain ⟨L, st, x, rfl, ha, hx, hz, hE⟩ := h
    refine ⟨_, pss_cons (ps_expr (pe_g G_bad hr (passes_call (takes_of rfl rfl rfl rfl) fun _ _ _ _ h => h) (pa_cons (pe_gp G_house CLS hr (pv 0)) (pa_cons (pv 1) pa_nil)))) pss_never, ?_⟩
    obtain ⟨p, q, ⟨dl, hl⟩, hp, hq⟩ := id ha
    exact ⟨_, rfl, L, dl, _, rfl, hl, L, st, rfl, ha, fun hu thu => ⟨_, rfl, hu, st.last.house, x, rfl, thu, hx, hz, hE⟩⟩
end
end T93
-- Lz
set_option maxHeartbeats 2000000
/-! T93, part Lz: list of a text. -/
namespace T93
open PySem PySem.Spec PyProof.Rows L2
section
variable {P : Program} {w : World} {K : PySem.W.Frag} {mg : Str → Option Value} {base : Heap} {TT : List (Addr × Str)} {CL CT CB : Addr}

section
variable {X : Cx} {a : Expr} {ta : TE}
/-- list(x) of a text -/
def kLstS (x : V) (H : Hp) (Q : VK) : Prop := ∃ z : Str, x = .str z ∧ z.cps.size ≤ sizeLine ∧ ∀ q, H q = none → Q (.ref q) (upd H q (.lst (z.cps.toList.map fun c => V.str ⟨#[c]⟩)))
theorem rl_listS (hc : X.calm = true) (pins : List (Addr × Obj)) (s : Shared) (σ : L2.St) (H : Hp) (x : V) (v : Value) (Q : VK) (I : Inv X pins σ H s) (r : RelV x v) (h : kLstS x H Q) :
    wpAny (model X.prog X.w) X.A (call (.type "list") [v]) (EP X pins σ Q) X.xe s := by
  obtain ⟨z, rfl, hz, q⟩ := h
  obtain ⟨t, rfl⟩ := r
  refine PySem.call_list_str (I.ok.hd hc) z t (fun h' tk acc c' hk e hi => ?_) hz
  refine ⟨.ref s.heap.objs.size, upd H s.heap.objs.size (.lst (z.cps.toList.map fun c => V.str ⟨#[c]⟩)), I.laid hk (Nat.le_refl _) ⟨by rw [List.length_map, Array.length_toList]; exact hz, acc.toList, c', ?_, by rw [Array.toArray_toList]; exact e⟩, rfl, q _ (I.hok.fresh (Nat.le_refl _))⟩
  refine vals_of_idx _ _ (by rw [List.length_map, Array.length_toList, Array.length_toList]; exact hi.1) fun j u hj => ?_
  have hs := hi.2 j u (by rw [← Array.getElem?_toList]; exact hj)
  obtain ⟨c, t', hc', rfl⟩ := hs
  exact ⟨.str ⟨#[c]⟩, by rw [List.getElem?_map, Array.getElem?_toList, hc']; rfl, ⟨_, rfl⟩⟩
theorem pe_listOfS {p pos : Pos} (hc : X.calm = true) (hg : Gl X "list") (hm : X.mg "list" = none) (ha : PE X a ta) (na : starEach [a] X.env = (false, eval a X.env) :: starEach [] X.env := by rfl) :
    PE X (.Call (.Name "list" p) [a] [] pos) (tThenZ ta kLstS) := pe_callTy (call_r1 (rl_listS hc)) hg hm (by decide +kernel) (pa_cons ha pa_nil na) (he := na)
end
end
end T93
-- M1
set_option maxHeartbeats 2000000
/-! T93, part M1: draws. -/
namespace T93
open PySem PySem.Spec PyProof.Rows L2
section
variable {P : Program} {w : World} {K : PySem.W.Frag} {mg : Str → Option Value} {base : Heap} {TT : List (Addr × Str)} {CL CT CB : Addr}
/-! ### _law_mixed -/
def spMixed : Sp := fun vs H Q _ => ∃ c n : Int, vs = [.int c, .int n] ∧ 0 ≤ c ∧ c < 2 ^ 40 ∧ 0 ≤ n ∧ n < 2 ^ 20 ∧ ∀ z : Int, 0 ≤ z → z < 2 ^ 31 → Q (.int z) H
theorem sc45 : FnScope ["cell", "n", "blend"] ["cell", "n"] (defScope (top 45)) := ⟨rfl, rfl, rfl, by decide +kernel, rfl, by decide +kernel, by decide +kernel⟩
theorem ok_mixed (T : Txt K mg) : GOk P w K mg base CX0 1 "_law_mixed" ["cell", "n"] spMixed := by
  have nd := sc45.nd
  refine gok (T.df (45, "_law_mixed") (by decide +kernel)) sc45 (fun _ _ _ _ _ _ us hl => match us, hl with | [_, _], _ => rfl) (fun vs H Q E h => ?_) (fun f cdv A outer s H vs Q E hr h => ?_)
  · obtain ⟨_, _, rfl, _⟩ := h
    rfl
  · obtain ⟨c, n, rfl, h1, h2, h3, h4, hQ⟩ := h
    have mb_int := T.no "int" (by decide +kernel)
    refine ⟨_, (pss_cons (ps_set (i := 2) nd rfl (Or.inl rfl) (pe_op op_add (pe_op op_add (pe_op op_mod (pe_callTy call_int1 rfl mb_int boot_int (pa_cons (pe_op op_mul (pe_op op_mul (pv 0) (pe_op op_add (pe_int) (pe_op op_mul (pe_int) (pv 1)))) (pe_int)) pa_nil)) (pe_int)) (pe_op op_mul (pe_op op_mul (pe_int) (pv 1)) (pv 1))) (pe_op op_mul (pe_int) (pv 1))))
       (pss_one (ps_ret (pe_op op_fdiv (pe_op op_mod (pe_callTy call_int1 rfl mb_int boot_int (pa_cons (pe_op op_mul (pv 2) (pe_int)) pa_nil)) (pe_int)) (pe_int))))), ?_⟩
    have b2 : -(2 ^ 64) < (2 : Int) ∧ (2 : Int) < 2 ^ 64 := by decide
    have b3 : -(2 ^ 64) < (48271 : Int) ∧ (48271 : Int) < 2 ^ 64 := by decide
    have b4 : -(2 ^ 64) < (7919 : Int) ∧ (7919 : Int) < 2 ^ 64 := by decide
    have b5 : -(2 ^ 64) < (104729 : Int) ∧ (104729 : Int) < 2 ^ 64 := by decide
    have b6 : -(2 ^ 64) < (69621 : Int) ∧ (69621 : Int) < 2 ^ 64 := by decide
    have bc : -(2 ^ 64) < c ∧ c < 2 ^ 64 := by constructor <;> omega
    have bn : -(2 ^ 64) < n ∧ n < 2 ^ 64 := by constructor <;> omega
    refine ⟨_, rfl, _, rfl, _, _, rfl, rfl, .inl b2, _, _, rfl, rfl, _, _, rfl, rfl, .inl bc, _, _, rfl, rfl, .inr b3, .inl ⟨_, rfl, _, _, rfl, rfl, by show (0 : Int) < 2147483647; decide, ?_⟩⟩
    refine ⟨_, rfl, _, _, rfl, rfl, .inl b4, _, rfl, _, _, rfl, rfl, .inr bn, _, _, rfl, rfl, _, rfl, _, _, rfl, rfl, .inl b5, _, _, rfl, rfl, ?_⟩
    refine ⟨_, rfl, _, _, rfl, rfl, .inr b6, .inl ⟨_, rfl, _, _, rfl, rfl, by show (0 : Int) < 2147483629; decide, _, _, rfl, rfl, ⟨by decide, by decide⟩, ?_⟩⟩
    have m1 := fun x : Int => Int.emod_nonneg x (show (2147483629 : Int) ≠ 0 by decide)
    have m2 := fun x : Int => Int.emod_lt_of_pos x (show (0 : Int) < 2147483629 by decide)
    refine hQ _ (Int.ediv_nonneg (m1 _) (by decide)) (Int.lt_of_le_of_lt (Int.ediv_le_self _ (m1 _)) (Int.lt_of_lt_of_le (m2 _) (by decide)))
theorem canL_ints : ∀ l : List Int, PyData.canLayAll0 (l.map PyData.int) = true
  | [] => rfl
  | i :: r => by rw [List.map_cons, PyData.canLayAll0, PyData.canLay0, canL_ints r]; rfl
theorem depL_ints : ∀ l : List Int, PyData.depthAll (l.map PyData.int) = 0
  | [] => rfl
  | i :: r => by rw [List.map_cons, PyData.depthAll, PyData.depth, depL_ints r]; rfl
theorem shp_ints (l : List Int) : SeqAt.shaped (.list (l.map PyData.int)) = true := by
  unfold SeqAt.shaped
  rw [PyData.canLay0, PyData.depth, canL_ints, depL_ints]
  rfl
theorem ixN_nat {n j : Nat} (h : j < n) : ixN n (j : Int) = some j := by
  unfold ixN
  rw [if_pos (Int.natCast_nonneg j), if_pos (by omega), Int.toNat_natCast]
/-! ### the drawing machine -/
structure MAt (H : Hp) (m c g : Addr) (n : Nat) : Prop where
  ne : c ≠ g
  m : H m = some (.dK [(Sum.inr "cells", .ref c), (Sum.inr "great", .ref g), (Sum.inr "spot", .int n)])
  c : ∃ cs : List Int, H c = some (.lst (cs.map V.int)) ∧ cs.length = 64 ∧ ∀ x ∈ cs, 0 ≤ x ∧ x < 2 ^ 31
  g : ∃ gs : List Int, H g = some (.lst (gs.map V.int)) ∧ gs.length ≤ 100
def spDraw (TT : List (Addr × Str)) : Sp := fun vs H Q _ => ∃ m c g n lim, vs = [.ref m, .int (lim : Nat)] ∧ 1 ≤ lim ∧ lim ≤ 1000 ∧ MAt H m c g n ∧ n ≤ 100000 ∧ ∀ (z : Nat) H', z < lim → Kp TT true [m] H H' → MAt H' m c g (n + 1) → Q (.int z) H'
theorem sc47 : FnScope ["m", "limit", "n", "lot", "here", "cell"] ["m", "limit"] (defScope (top 47)) := ⟨rfl, rfl, rfl, by decide +kernel, rfl, by decide +kernel, by decide +kernel⟩
theorem ok_draw (T : Txt K mg) : GOk P w K mg base CX0 2 "_law_draw" ["m", "limit"] (spDraw TT) := by
  have nd := sc47.nd
  have G__law_mixed := ok_mixed (P := P) (w := w) (base := base) T
  refine gok (T.df (47, "_law_draw") (by decide +kernel)) sc47 (fun _ _ _ _ _ _ us hl => match us, hl with | [_, _], _ => rfl) (fun vs H Q E h => ?_) (fun f cdv A outer s H vs Q E hr h => ?_)
  · obtain ⟨_, _, _, _, _, rfl, _⟩ := h
    rfl
  · obtain ⟨m, c, g, n, lim, rfl, l1, l2, hm, hn, hQ⟩ := h
    have mb_int := T.no "int" (by decide +kernel)
    have mb_len := T.no "len" (by decide +kernel)
    have hu := hu_of hr
    refine ⟨_, (pss_cons (ps_set (i := 2) nd rfl (Or.inl rfl) (pe_dget hu (pv 0) (pe_str) (fun _ _ => rfl)))
       (pss_cons (ps_dput hu (pv 0) (pe_str) (pe_op op_add (pv 2) (pe_int)) rfl)
       (pss_cons (ps_if (pt_cmpR (op_neD hr.units) (pe_dget hu (pv 0) (pe_str) (fun _ _ => rfl)) (pe_lst pa_nil) (nomark _)) (pss_cons (ps_set (i := 3) nd rfl (Or.inl rfl) (pe_dget hu (pv 0) (pe_str) (fun _ _ => rfl)))
       (pss_cons (ps_set (i := 4) nd rfl (Or.inl rfl) (pe_op op_mod (pe_callTy call_int1 rfl mb_int boot_int (pa_cons (pv 2) pa_nil)) (pe_callB call_len_seq rfl mb_len PySem.boot_len (pa_cons (pv 3) pa_nil))))
       (pss_cons (ps_set (i := 5) nd rfl (Or.inl rfl) (pe_ix ix_list (pv 3) (pv 4) (fun _ _ => rfl)))
       (pss_one (ps_if (pt_cmpR op_gt (pv 5) (pe_int) (nomark _)) (pss_cons (ps_asg (pe_op op_fdiv (pv 5) (pv 1)) (pg_sub (pv 3) (pv 4) set_list))
       (pss_one (ps_ret (pe_op op_mod (pe_callTy call_int1 rfl mb_int boot_int (pa_cons (pv 5) pa_nil)) (pv 1))))) pss_nil))))) pss_nil)
       (pss_cons (ps_set (i := 3) nd rfl (Or.inl rfl) (pe_dget hu (pv 0) (pe_str) (fun _ _ => rfl)))
       (pss_one (ps_ret (pe_op op_mod (pe_callTy call_int1 rfl mb_int boot_int (pa_cons (pe_g G__law_mixed hr pass0 (pa_cons (pe_g G__law_mixed hr pass0 (pa_cons (pe_op op_add (pe_ix ix_list (pv 3) (pe_op op_mod (pe_callTy call_int1 rfl mb_int boot_int (pa_cons (pv 2) pa_nil)) (pe_int)) (fun _ _ => rfl)) (pe_op op_mul (pe_int) (pe_op op_fdiv (pv 2) (pe_int)))) (pa_cons (pv 2) pa_nil))) (pa_cons (pe_op op_add (pv 2) (pe_int)) pa_nil))) pa_nil)) (pv 1)))))))), ?_⟩
    refine ⟨_, rfl, m, .int n, rfl, DGet.k (k := Sum.inr "spot") hm.m, ?_⟩
    obtain ⟨cs, hc, hcl, hcb⟩ := hm.c
    obtain ⟨gs, hg, hgl⟩ := hm.g
    have cm : c ≠ m := ne_of hc hm.m (by intro z; cases z)
    have gm : g ≠ m := ne_of hg hm.m (by intro z; cases z)
    refine ⟨_, rfl, _, _, rfl, rfl, _, rfl, m, _, rfl, DPut.k (k := Sum.inr "spot") hm.m (show (3 : Nat) < 2 ^ 24 by decide), ?_⟩
    have hm1 : upd H m (.dK (putK [(Sum.inr "cells", V.ref c), (Sum.inr "great", V.ref g), (Sum.inr "spot", V.int n)] (Sum.inr "spot") (.int ((n : Int) + 1)))) m = some (.dK [(Sum.inr "cells", .ref c), (Sum.inr "great", .ref g), (Sum.inr "spot", .int ((n + 1 : Nat) : Int))]) := upd_same
    have k1 : Kp TT true [m] H (upd H m (.dK (putK [(Sum.inr "cells", V.ref c), (Sum.inr "great", V.ref g), (Sum.inr "spot", V.int n)] (Sum.inr "spot") (.int ((n : Int) + 1))))) := .write hm.m List.mem_cons_self rfl rfl
    have hc1 : upd H m (.dK (putK [(Sum.inr "cells", V.ref c), (Sum.inr "great", V.ref g), (Sum.inr "spot", V.int n)] (Sum.inr "spot") (.int ((n : Int) + 1)))) c = _ := (upd_ne cm).trans hc
    have hg1 : upd H m (.dK (putK [(Sum.inr "cells", V.ref c), (Sum.inr "great", V.ref g), (Sum.inr "spot", V.int n)] (Sum.inr "spot") (.int ((n : Int) + 1)))) g = _ := (upd_ne gm).trans hg
    generalize upd H m (.dK (putK [(Sum.inr "cells", V.ref c), (Sum.inr "great", V.ref g), (Sum.inr "spot", V.int n)] (Sum.inr "spot") (.int ((n : Int) + 1)))) = H1 at hm1 k1 hc1 hg1 ⊢
    have ti : TpAll K H1 (gs.map V.int) (gs.map PyData.int) := .ints gs
    refine ⟨_, rfl, m, .ref g, rfl, DGet.k (k := Sum.inr "great") hm1, by show 0 ≤ sizeLine; decide, fun p hp => ⟨.list (gs.map PyData.int), .list [], .lst (SqL.of ((upd_ne (ne_of_none hg1 hp)).trans hg1)) (ti.ex (.new hp)).dp, .lst (SqL.of upd_same) .nil, shp_ints gs, rfl, _, rfl, ?_⟩⟩
    have e2 : Ex H1 (upd H1 p (.lst [])) := .new hp
    have lp : (0 : Int) < lim := by omega
    cases hgs : gs with
    | nil =>
      refine iteF ?_
      refine ⟨_, rfl, m, .ref c, rfl, DGet.k (k := Sum.inr "cells") (e2 _ _ hm1), ?_⟩
      have hj : n % 64 < 64 := Nat.mod_lt _ (by decide)
      obtain ⟨x0, hx0⟩ : ∃ x0, cs[n % 64]? = some x0 := ⟨_, List.getElem?_eq_getElem (by omega)⟩
      have hb := hcb x0 (List.mem_of_getElem? hx0)
      refine ⟨_, rfl, _, rfl, .inl ⟨_, rfl, _, _, rfl, rfl, by show (0 : Int) < 64; decide, c, _, _, V.int x0, rfl, rfl, SqL.of (e2 _ _ hc1), atI_nat (j := n % 64) (by rw [List.getElem?_map, hx0]; rfl), ?_⟩⟩
      refine ⟨_, rfl, _, _, rfl, rfl, ⟨by decide, by decide⟩, _, _, rfl, rfl, .inl (by decide), _, _, rfl, rfl, _, rfl, _, n, rfl, by omega, by omega, by omega, by omega, fun z1 h1 h2 => ?_⟩
      refine ⟨_, rfl, _, _, rfl, rfl, z1, (n : Int) + 7, rfl, h1, by omega, by omega, by omega, fun z2 h3 h4 => .inl ⟨_, rfl, _, rfl, _, _, rfl, rfl, lp, ?_⟩⟩
      have q1 := Int.emod_nonneg z2 (show (lim : Int) ≠ 0 by omega)
      have q2 := Int.emod_lt_of_pos z2 lp
      have q := hQ (z2 % (lim : Int)).toNat _ (by omega) (k1.trans (.of_ex e2)) ⟨hm.ne, e2 _ _ hm1, ⟨cs, e2 _ _ hc1, hcl, hcb⟩, ⟨gs, e2 _ _ hg1, hgl⟩⟩
      rw [Int.toNat_of_nonneg q1] at q
      exact q
    | cons i r =>
      refine iteT ?_
      have hg2 : upd H1 p (.lst []) g = some (.lst ((i :: r).map V.int)) := by rw [← hgs]; exact e2 _ _ hg1
      refine ⟨_, rfl, m, .ref g, rfl, DGet.k (k := Sum.inr "great") (e2 _ _ hm1), ?_⟩
      have hlp : (0 : Int) < (((i :: r).map V.int).length : Int) := by rw [List.length_map, List.length_cons]; omega
      refine ⟨_, rfl, .inl ⟨_, rfl, _, rfl, g, _, rfl, .inl (SqL.of hg2), _, _, rfl, rfl, hlp, ?_⟩⟩
      have hj : n % (i :: r).length < (i :: r).length := Nat.mod_lt _ (by simp)
      obtain ⟨x0, hx0⟩ : ∃ x0, (i :: r)[n % (i :: r).length]? = some x0 := ⟨_, List.getElem?_eq_getElem hj⟩
      have ej : ((n : Int) % (((i :: r).map V.int).length : Int)) = ((n % (i :: r).length : Nat) : Int) := by rw [List.length_map]; rfl
      refine ⟨_, rfl, _, rfl, g, _, _, V.int x0, rfl, rfl, SqL.of hg2, ?_, ?_⟩
      · rw [ej]
        exact atI_nat (by rw [List.getElem?_map, hx0]; rfl)
      refine ⟨_, rfl, _, _, rfl, rfl, _, rfl, ite2 (fun hpos => ?_) (fun _ => ?_)⟩
      · refine ⟨_, rfl, _, rfl, _, _, rfl, rfl, ⟨lp, by show (lim : Int) < 1073741824; omega⟩, _, rfl, _, rfl, g, _, _, n % (i :: r).length, rfl, rfl, hg2, ?_, ?_⟩
        · rw [ej]
          exact ixN_nat (by rw [List.length_map]; exact hj)
        refine ⟨_, rfl, .inl ⟨_, rfl, _, rfl, _, _, rfl, rfl, lp, ?_⟩⟩
        have q1 := Int.emod_nonneg x0 (show (lim : Int) ≠ 0 by omega)
        have q2 := Int.emod_lt_of_pos x0 lp
        have hmg : m ≠ g := Ne.symm gm
        have q := hQ (x0 % (lim : Int)).toNat _ (by omega) ((k1.trans (.of_ex e2)).trans (.writeI hg2 rfl)) ⟨hm.ne, (upd_ne hmg).trans (e2 _ _ hm1), ⟨cs, (upd_ne hm.ne).trans (e2 _ _ hc1), hcl, hcb⟩, ⟨(i :: r).set (n % (i :: r).length) (x0 / (lim : Int)), by rw [upd_same, List.map_set], by rw [List.length_set, ← hgs]; exact hgl⟩⟩
        rw [Int.toNat_of_nonneg q1] at q
        exact q
      · refine ⟨_, rfl, m, .ref c, rfl, DGet.k (k := Sum.inr "cells") (e2 _ _ hm1), ?_⟩
        have hj : n % 64 < 64 := Nat.mod_lt _ (by decide)
        obtain ⟨x0, hx0⟩ : ∃ x0, cs[n % 64]? = some x0 := ⟨_, List.getElem?_eq_getElem (by omega)⟩
        have hb := hcb x0 (List.mem_of_getElem? hx0)
        refine ⟨_, rfl, _, rfl, .inl ⟨_, rfl, _, _, rfl, rfl, by show (0 : Int) < 64; decide, c, _, _, V.int x0, rfl, rfl, SqL.of (e2 _ _ hc1), atI_nat (j := n % 64) (by rw [List.getElem?_map, hx0]; rfl), ?_⟩⟩
        refine ⟨_, rfl, _, _, rfl, rfl, ⟨by decide, by decide⟩, _, _, rfl, rfl, .inl (by decide), _, _, rfl, rfl, _, rfl, _, n, rfl, by omega, by omega, by omega, by omega, fun z1 h1 h2 => ?_⟩
        refine ⟨_, rfl, _, _, rfl, rfl, z1, (n : Int) + 7, rfl, h1, by omega, by omega, by omega, fun z2 h3 h4 => .inl ⟨_, rfl, _, rfl, _, _, rfl, rfl, lp, ?_⟩⟩
        have q1 := Int.emod_nonneg z2 (show (lim : Int) ≠ 0 by omega)
        have q2 := Int.emod_lt_of_pos z2 lp
        have q := hQ (z2 % (lim : Int)).toNat _ (by omega) (k1.trans (.of_ex e2)) ⟨hm.ne, e2 _ _ hm1, ⟨cs, e2 _ _ hc1, hcl, hcb⟩, ⟨gs, e2 _ _ hg1, hgl⟩⟩
        rw [Int.toNat_of_nonneg q1] at q
        exact q
end
end T93
-- M2
set_option maxHeartbeats 2000000
/-! T93, part M2: what is drawn. -/
namespace T93
open PySem PySem.Spec PyProof.Rows L2
section
variable {P : Program} {w : World} {K : PySem.W.Frag} {mg : Str → Option Value} {base : Heap} {TT : List (Addr × Str)} {CL CT CB : Addr}
/-! ### what is drawn from -/
inductive SrcI (K : PySem.W.Frag) (H : Hp) : V → List V → Prop
  | lst {a : Addr} {xs : List V} (h : H a = some (.lst xs)) (s : Soft true (.lst xs) = false) : SrcI K H (.ref a) xs
  | tup {a : Addr} {xs : List V} (h : SqT K H a xs) : SrcI K H (.ref a) xs
  | txt (z : Str) (hz : z.length ≤ 1000) : SrcI K H (.str z) (z.cps.toList.map fun c => V.str ⟨#[c]⟩)
theorem SrcI.kp {H H' : Hp} {v : V} {xs : List V} {m : Addr} {kvs : List (Key × V)} (h : SrcI K H v xs) (hm : H m = some (.dK kvs)) (k : Kp TT true [m] H H') : SrcI K H' v xs := by
  cases h with
  | lst h s => exact .lst (k.keep _ _ h (fun z => ne_of h hm (by intro z; cases z) (List.mem_singleton.mp z)) s) s
  | tup h => exact .tup (SqT.kp k h)
  | txt z hz => exact .txt z hz
theorem SrcI.len {H : Hp} {v : V} {xs : List V} (h : SrcI K H v xs) : LenV K v H xs.length := by
  cases h with
  | lst h s => exact .inl ⟨_, SqL.of h, rfl⟩
  | tup h => exact .inr ⟨_, h, rfl⟩
  | txt z hz => exact ⟨Nat.le_trans hz (by decide), by rw [List.length_map, Array.length_toList]; rfl⟩
theorem SrcI.ix {H : Hp} {v x : V} {xs : List V} {i : Nat} {Q : VK} (h : SrcI K H v xs) (e : xs[i]? = some x) (q : Q x H) : rIx K v (.int i) H Q := by
  cases h with
  | lst h s => exact .inl ⟨_, xs, i, x, rfl, rfl, SqL.of h, atI_nat e, q⟩
  | tup h => exact .inr (.inl ⟨_, xs, i, x, rfl, rfl, h, atI_nat e, q⟩)
  | txt z hz =>
    rw [List.getElem?_map] at e
    obtain ⟨c, hc, rfl⟩ := Option.map_eq_some_iff.mp e
    exact .inr (.inr ⟨z, i, c, rfl, rfl, Nat.le_trans hz (by decide), atI_nat hc, q⟩)
def spOf (K : PySem.W.Frag) (TT : List (Addr × Str)) : Sp := fun vs H Q _ => ∃ m c g n v xs, vs = [.ref m, v] ∧ SrcI K H v xs ∧ 1 ≤ xs.length ∧ xs.length ≤ 1000 ∧ MAt H m c g n ∧ n ≤ 100000 ∧ ∀ (i : Nat) x H', xs[i]? = some x → Kp TT true [m] H H' → MAt H' m c g (n + 1) → Q x H'
theorem sc50 : FnScope ["m", "some"] ["m", "some"] (defScope (top 50)) := ⟨rfl, rfl, rfl, by decide +kernel, rfl, by decide +kernel, by decide +kernel⟩
theorem ok_of (T : Txt K mg) : GOk P w K mg base CX0 3 "_law_of" ["m", "some"] (spOf K TT) := by
  have G__law_draw := ok_draw (P := P) (w := w) (base := base) (TT := TT) T
  refine gok (T.df (50, "_law_of") (by decide +kernel)) sc50 (fun _ _ _ _ _ _ us hl => match us, hl with | [_, _], _ => rfl) (fun vs H Q E h => ?_) (fun f cdv A outer s H vs Q E hr h => ?_)
  · obtain ⟨_, _, _, _, _, _, rfl, _⟩ := h
    rfl
  · obtain ⟨m, c, g, n, v, xs, rfl, hs, l1, l2, hm, hn, hQ⟩ := h
    have mb_len := T.no "len" (by decide +kernel)
    refine ⟨_, (pss_one (ps_ret (pe_ix ix_seq (pv 1) (pe_g G__law_draw hr pass0 (pa_cons (pv 0) (pa_cons (pe_callB call_len rfl mb_len PySem.boot_len (pa_cons (pv 1) pa_nil)) pa_nil))) (fun _ _ => rfl)))), ?_⟩
    refine ⟨_, rfl, _, rfl, _, rfl, _, xs.length, rfl, hs.len, m, c, g, n, xs.length, rfl, l1, l2, hm, hn, fun z H1 hz k1 m1 => ?_⟩
    obtain ⟨x, hx⟩ : ∃ x, xs[z]? = some x := ⟨_, List.getElem?_eq_getElem hz⟩
    exact (hs.kp hm.m k1).ix hx (hQ z x H1 hx k1 m1)
theorem MAt.ex {H H' : Hp} {m c g : Addr} {n : Nat} (h : MAt H m c g n) (e : Ex H H') : MAt H' m c g n := by
  obtain ⟨ne, hm, ⟨cs, h1, h2, h3⟩, ⟨gs, h4, h5⟩⟩ := h
  exact ⟨ne, e _ _ hm, ⟨cs, e _ _ h1, h2, h3⟩, ⟨gs, e _ _ h4, h5⟩⟩
/-- what is no machine's stands through a draw -/
theorem kp_m {H H' : Hp} {m a : Addr} {kvs : List (Key × V)} {o : HO} (hm : H m = some (.dK kvs)) (k : Kp TT true [m] H H') (h : H a = some o) (hne : o ≠ .dK kvs) (s : Soft true o = false) : H' a = some o :=
  k.keep _ _ h (fun z => ne_of h hm hne (List.mem_singleton.mp z)) s
/-! ### _law_way -/
def spWay (K : PySem.W.Frag) (TT : List (Addr × Str)) : Sp := fun vs H Q _ => ∃ (m c g : Addr) (n B W : Nat), vs = [.ref m, .int B, .int W] ∧ 1 ≤ B ∧ B ≤ 1000 ∧ W ≤ 1000 ∧ MAt H m c g n ∧ n + 10 ≤ 100000 ∧
  ∀ v x n' H', Way.Ok B W x → Tp K H' v (dWay x) → Kp TT true [m] H H' → MAt H' m c g n' → n' ≤ n + 4 → Q v H'
theorem sc51 : FnScope ["m", "bodies", "wards", "kind"] ["m", "bodies", "wards"] (defScope (top 51)) := ⟨rfl, rfl, rfl, by decide +kernel, rfl, by decide +kernel, by decide +kernel⟩
theorem ok_way (T : Txt K mg) : GOk P w K mg base CX0 4 "_law_way" ["m", "bodies", "wards"] (spWay K TT) := by
  have nd := sc51.nd
  have G__law_draw := ok_draw (P := P) (w := w) (base := base) (TT := TT) T
  have G__law_of := ok_of (P := P) (w := w) (base := base) (TT := TT) T
  refine gok (T.df (51, "_law_way") (by decide +kernel)) sc51 (fun _ _ _ _ _ _ us hl => match us, hl with | [_, _, _], _ => rfl) (fun vs H Q E h => ?_) (fun f cdv A outer s H vs Q E hr h => ?_)
  · obtain ⟨_, _, _, _, _, _, rfl, _⟩ := h
    rfl
  · obtain ⟨m, c, g, n, B, W, rfl, b1, b2, w2, hm, hn, hQ⟩ := h
    refine ⟨_, (pss_cons (ps_set (i := 3) nd rfl (Or.inl rfl) (pe_g G__law_draw hr pass0 (pa_cons (pv 0) (pa_cons (pe_int) pa_nil))))
       (pss_cons (ps_if (PW.pt (pw_and (pt_cmpR op_eq (pv 3) (pe_int) (nomark _)) (pw_and1 (pt_cmpR op_gt (pv 2) (pe_int) (nomark _))))) (pss_one (ps_ret (pe_tup (pa_cons (pe_str) (pa_cons (pe_g G__law_draw hr pass0 (pa_cons (pv 0) (pa_cons (pv 2) pa_nil))) pa_nil))))) pss_nil)
       (pss_cons (ps_if (pt_cmpR op_lt (pv 3) (pe_int) (nomark _)) (pss_one (ps_ret (pe_tup (pa_cons (pe_ix ix_list (pe_lst (pa_cons (pe_str) (pa_cons (pe_str) pa_nil))) (pe_g G__law_draw hr pass0 (pa_cons (pv 0) (pa_cons (pe_int) pa_nil))) (fun _ _ => rfl)) (pa_cons (pe_g G__law_draw hr pass0 (pa_cons (pv 0) (pa_cons (pv 1) pa_nil))) (pa_cons (pe_g G__law_of hr pass0 (pa_cons (pv 0) (pa_cons (pe_lst (pa_cons (pe_str) (pa_cons (pe_str) (pa_cons (pe_str) pa_nil)))) pa_nil))) pa_nil)))))) pss_nil)
       (pss_one (ps_ret (pe_ifExp (PW.pt (pw_or (pt_cmpR op_eq (pe_g G__law_draw hr pass0 (pa_cons (pv 0) (pa_cons (pe_int) pa_nil))) (pe_int) (nomark _)) (pw_or1 (pt_cmpR op_eq (pv 2) (pe_int) (nomark _))))) (pe_tup (pa_cons (pe_str) pa_nil)) (pe_tup (pa_cons (pe_str) (pa_cons (pe_g G__law_draw hr pass0 (pa_cons (pv 0) (pa_cons (pv 2) pa_nil))) pa_nil))))))))), ?_⟩
    refine ⟨_, rfl, m, c, g, n, 4, rfl, by decide, by decide, hm, by omega, fun z H1 hz k1 m1 => ?_⟩
    refine ⟨_, rfl, rfl, _, rfl, ?_⟩
    refine (show if decide (V.int (z : Int) = V.int 0) = true then _ else _ from ?_)
    by_cases h0 : z = 0
    · refine iteD (by rw [h0]; rfl) ⟨_, rfl, _, _, rfl, rfl, _, rfl, ?_⟩
      refine (show if decide ((0 : Int) < W) = true then _ else _ from ?_)
      by_cases hw : 0 < W
      · refine iteD (by omega) ?_
        refine ⟨_, rfl, _, rfl, m, c, g, _, W, rfl, by omega, w2, m1, by omega, fun z9 H9 hz9 k9 m9 => ⟨by show 2 ≤ sizeLine; decide, fun p9 n9 => ?_⟩⟩
        exact hQ _ (.ward z9) _ _ hz9 (Tp.new (.cons (.str _) (.cons (.int _) .nil)) n9) (((k1).trans k9).and_new n9) (m9.ex (.new n9)) (by omega)
      · refine iteDF (by omega) ?_
        refine ⟨_, rfl, _, _, rfl, rfl, _, rfl, ?_⟩
        refine (show if decide ((z : Int) < 3) = true then _ else _ from ?_)
        by_cases h3 : z < 3
        · refine iteD (by omega) ?_
          refine ⟨by show 2 ≤ sizeLine; decide, fun p1 n1 => ?_⟩
          have ma := m1.ex (.new (o := .lst [V.str "body", V.str "rest"]) n1)
          refine ⟨_, rfl, m, c, g, _, 2, rfl, by decide, by decide, ma, by omega, fun z2 H2 hz2 k2 m2 => ?_⟩
          have hp2 : H2 p1 = some (.lst [V.str "body", V.str "rest"]) := kp_m ma.m k2 upd_same (by intro z; cases z) rfl
          refine ⟨p1, _, (z2 : Nat), V.str (if decide (z2 = 1) = true then "rest" else "body"), rfl, rfl, SqL.of hp2, atI_nat ?_, ?_⟩
          · rcases (by omega : z2 = 0 ∨ z2 = 1) with h | h <;> rw [h] <;> rfl
          refine ⟨_, rfl, _, rfl, m, c, g, _, B, rfl, b1, b2, m2, by omega, fun z3 H3 hz3 k3 m3 => ?_⟩
          refine ⟨_, rfl, by show 3 ≤ sizeLine; decide, fun p2 n2 => ?_⟩
          refine ⟨m, c, g, _, .ref p2, _, rfl, .lst upd_same rfl, by decide, by decide, m3.ex (.new n2), by omega, fun i x H4 hx k4 m4 => ⟨by show 3 ≤ sizeLine; decide, fun p9 n9 => ?_⟩⟩
          obtain ⟨y, hy⟩ : ∃ y : Option Bool, x = V.str (sideS y) := by
            match i, hx with
            | 0, hx => exact ⟨some true, (Option.some.inj hx).symm⟩
            | 1, hx => exact ⟨some false, (Option.some.inj hx).symm⟩
            | 2, hx => exact ⟨none, (Option.some.inj hx).symm⟩
            | j + 3, hx => simp at hx
          subst hy
          have kk := (((((k1.and_new n1).trans k2).trans k3).and_new n2).trans k4).and_new (o := .tup [V.str (if decide (z2 = 1) = true then "rest" else "body"), V.int z3, V.str (sideS y)]) n9
          exact hQ _ (.far (decide (z2 = 1)) z3 y) _ _ hz3 (Tp.new (.cons (.str _) (.cons (.int _) (.cons (.str _) .nil))) n9) kk (m4.ex (.new n9)) (by omega)
        · refine iteDF (by omega) ?_
          refine ⟨_, rfl, m, c, g, _, 3, rfl, by decide, by decide, m1, by omega, fun z2 H2 hz2 k2 m2 => ⟨rfl, _, rfl, ?_⟩⟩
          have k12 := k1.trans k2
          refine (show if decide (V.int (z2 : Int) = V.int 0) = true then _ else _ from ?_)
          by_cases h0 : z2 = 0
          · refine iteD (by rw [h0]; rfl) ?_
            refine iteT ?_
            refine ⟨by show 1 ≤ sizeLine; decide, fun p9 n9 => ?_⟩
            exact hQ _ .kept _ _ True.intro (Tp.new (.cons (.str _) .nil) n9) (k12.and_new n9) (m2.ex (.new n9)) (by omega)
          · refine iteDF (fun z => h0 (by injection z with z; omega)) ?_
            refine ⟨_, rfl, rfl, _, rfl, ?_⟩
            refine (show if decide (V.int (W : Int) = V.int 0) = true then _ else _ from ?_)
            by_cases hw : W = 0
            · refine iteD (by rw [hw]; rfl) ?_
              refine ⟨by show 1 ≤ sizeLine; decide, fun p9 n9 => ?_⟩
              exact hQ _ .kept _ _ True.intro (Tp.new (.cons (.str _) .nil) n9) (k12.and_new n9) (m2.ex (.new n9)) (by omega)
            · refine iteDF (fun z => hw (by injection z with z; omega)) ?_
              refine ⟨_, rfl, _, rfl, m, c, g, _, W, rfl, by omega, w2, m2, by omega, fun z9 H9 hz9 k9 m9 => ⟨by show 2 ≤ sizeLine; decide, fun p9 n9 => ?_⟩⟩
              exact hQ _ (.ward z9) _ _ hz9 (Tp.new (.cons (.str _) (.cons (.int _) .nil)) n9) (((k12).trans k9).and_new n9) (m9.ex (.new n9)) (by omega)
    · refine iteDF (fun z => h0 (by injection z with z; omega)) ?_
      refine ⟨_, rfl, _, _, rfl, rfl, _, rfl, ?_⟩
      refine (show if decide ((z : Int) < 3) = true then _ else _ from ?_)
      by_cases h3 : z < 3
      · refine iteD (by omega) ?_
        refine ⟨by show 2 ≤ sizeLine; decide, fun p1 n1 => ?_⟩
        have ma := m1.ex (.new (o := .lst [V.str "body", V.str "rest"]) n1)
        refine ⟨_, rfl, m, c, g, _, 2, rfl, by decide, by decide, ma, by omega, fun z2 H2 hz2 k2 m2 => ?_⟩
        have hp2 : H2 p1 = some (.lst [V.str "body", V.str "rest"]) := kp_m ma.m k2 upd_same (by intro z; cases z) rfl
        refine ⟨p1, _, (z2 : Nat), V.str (if decide (z2 = 1) = true then "rest" else "body"), rfl, rfl, SqL.of hp2, atI_nat ?_, ?_⟩
        · rcases (by omega : z2 = 0 ∨ z2 = 1) with h | h <;> rw [h] <;> rfl
        refine ⟨_, rfl, _, rfl, m, c, g, _, B, rfl, b1, b2, m2, by omega, fun z3 H3 hz3 k3 m3 => ?_⟩
        refine ⟨_, rfl, by show 3 ≤ sizeLine; decide, fun p2 n2 => ?_⟩
        refine ⟨m, c, g, _, .ref p2, _, rfl, .lst upd_same rfl, by decide, by decide, m3.ex (.new n2), by omega, fun i x H4 hx k4 m4 => ⟨by show 3 ≤ sizeLine; decide, fun p9 n9 => ?_⟩⟩
        obtain ⟨y, hy⟩ : ∃ y : Option Bool, x = V.str (sideS y) := by
          match i, hx with
          | 0, hx => exact ⟨some true, (Option.some.inj hx).symm⟩
          | 1, hx => exact ⟨some false, (Option.some.inj hx).symm⟩
          | 2, hx => exact ⟨none, (Option.some.inj hx).symm⟩
          | j + 3, hx => simp at hx
        subst hy
        have kk := (((((k1.and_new n1).trans k2).trans k3).and_new n2).trans k4).and_new (o := .tup [V.str (if decide (z2 = 1) = true then "rest" else "body"), V.int z3, V.str (sideS y)]) n9
        exact hQ _ (.far (decide (z2 = 1)) z3 y) _ _ hz3 (Tp.new (.cons (.str _) (.cons (.int _) (.cons (.str _) .nil))) n9) kk (m4.ex (.new n9)) (by omega)
      · refine iteDF (by omega) ?_
        refine ⟨_, rfl, m, c, g, _, 3, rfl, by decide, by decide, m1, by omega, fun z2 H2 hz2 k2 m2 => ⟨rfl, _, rfl, ?_⟩⟩
        have k12 := k1.trans k2
        refine (show if decide (V.int (z2 : Int) = V.int 0) = true then _ else _ from ?_)
        by_cases h0 : z2 = 0
        · refine iteD (by rw [h0]; rfl) ?_
          refine iteT ?_
          refine ⟨by show 1 ≤ sizeLine; decide, fun p9 n9 => ?_⟩
          exact hQ _ .kept _ _ True.intro (Tp.new (.cons (.str _) .nil) n9) (k12.and_new n9) (m2.ex (.new n9)) (by omega)
        · refine iteDF (fun z => h0 (by injection z with z; omega)) ?_
          refine ⟨_, rfl, rfl, _, rfl, ?_⟩
          refine (show if decide (V.int (W : Int) = V.int 0) = true then _ else _ from ?_)
          by_cases hw : W = 0
          · refine iteD (by rw [hw]; rfl) ?_
            refine ⟨by show 1 ≤ sizeLine; decide, fun p9 n9 => ?_⟩
            exact hQ _ .kept _ _ True.intro (Tp.new (.cons (.str _) .nil) n9) (k12.and_new n9) (m2.ex (.new n9)) (by omega)
          · refine iteDF (fun z => hw (by injection z with z; omega)) ?_
            refine ⟨_, rfl, _, rfl, m, c, g, _, W, rfl, by omega, w2, m2, by omega, fun z9 H9 hz9 k9 m9 => ⟨by show 2 ≤ sizeLine; decide, fun p9 n9 => ?_⟩⟩
            exact hQ _ (.ward z9) _ _ hz9 (Tp.new (.cons (.str _) (.cons (.int _) .nil)) n9) (((k12).trans k9).and_new n9) (m9.ex (.new n9)) (by omega)
/-! ### _law_seat -/
def spSeat (K : PySem.W.Frag) (TT : List (Addr × Str)) : Sp := fun vs H Q _ => ∃ (m c g : Addr) (n B W L : Nat) (tv : V) (ts : List Nat), vs = [.ref m, tv, .int B, .int W] ∧ Tp K H tv (.tuple (ts.map fun t : Nat => PyData.int t)) ∧ 1 ≤ ts.length ∧ ts.length ≤ 1000 ∧ (∀ t ∈ ts, 1 ≤ t ∧ t ≤ 6 ∧ t ∣ L) ∧
  1 ≤ B ∧ B ≤ 1000 ∧ W ≤ 1000 ∧ MAt H m c g n ∧ n + 20 ≤ 100000 ∧ ∀ v (x : Seat) n' H', x.Ok L B W → Tp K H' v (dSeat x) → Kp TT true [m] H H' → MAt H' m c g n' → n' ≤ n + 6 → Q v H'
theorem sc52 : FnScope ["m", "terms", "bodies", "wards", "term"] ["m", "terms", "bodies", "wards"] (defScope (top 52)) := ⟨rfl, rfl, rfl, by decide +kernel, rfl, by decide +kernel, by decide +kernel⟩
theorem ok_seat (T : Txt K mg) : GOk P w K mg base CX0 5 "_law_seat" ["m", "terms", "bodies", "wards"] (spSeat K TT) := by
  have nd := sc52.nd
  have G__law_draw := ok_draw (P := P) (w := w) (base := base) (TT := TT) T
  have G__law_of := ok_of (P := P) (w := w) (base := base) (TT := TT) T
  have G__law_way := ok_way (P := P) (w := w) (base := base) (TT := TT) T
  refine gok (T.df (52, "_law_seat") (by decide +kernel)) sc52 (fun _ _ _ _ _ _ us hl => match us, hl with | [_, _, _, _], _ => rfl) (fun vs H Q E h => ?_) (fun f cdv A outer s H vs Q E hr h => ?_)
  · obtain ⟨_, _, _, _, _, _, _, _, _, rfl, _⟩ := h
    rfl
  · obtain ⟨m, c, g, n, B, W, L, tv, ts, rfl, ht, t1, t2, hts, b1, b2, w2, hm, hn, hQ⟩ := h
    refine ⟨_, (pss_cons (ps_set (i := 4) nd rfl (Or.inl rfl) (pe_g G__law_of hr pass0 (pa_cons (pv 0) (pa_cons (pv 1) pa_nil))))
       (pss_one (ps_ret (pe_tup (pa_cons (pv 4) (pa_cons (pe_g G__law_draw hr pass0 (pa_cons (pv 0) (pa_cons (pv 4) pa_nil))) (pa_cons (pe_g G__law_way hr pass0 (pa_cons (pv 0) (pa_cons (pv 2) (pa_cons (pv 3) pa_nil)))) pa_nil))))))), ?_⟩
    obtain ⟨at_, xs, rfl, st, tt⟩ := ht.tup_inv
    have hxl : xs.length = ts.length := by rw [tt.len, List.length_map]
    refine ⟨_, rfl, _, rfl, m, c, g, n, _, xs, rfl, .tup st, by omega, by omega, hm, by omega, fun i x H1 hx k1 m1 => ?_⟩
    obtain ⟨t, ht', tx⟩ := tt.getm hx
    obtain rfl := tx.int_inv
    obtain ⟨q1, q2, q3⟩ := hts t (List.mem_of_getElem? ht')
    refine ⟨_, rfl, _, rfl, _, rfl, m, c, g, _, t, rfl, q1, by omega, m1, by omega, fun z H2 hz k2 m2 => ?_⟩
    refine ⟨_, rfl, _, rfl, _, rfl, m, c, g, _, B, W, rfl, b1, b2, w2, m2, by omega, fun v y n3 H3 hy tv k3 m3 hn3 => ⟨by show 3 ≤ sizeLine; decide, fun p9 n9 => ?_⟩⟩
    exact hQ _ ⟨t, z, y⟩ _ _ ⟨q1, q2, q3, hz, hy⟩ (Tp.new (.cons (.int _) (.cons (.int _) (.cons tv .nil))) n9) (((k1.trans k2).trans k3).and_new n9) (m3.ex (.new n9)) (by omega)
end
end T93
-- M3
set_option maxHeartbeats 2000000
/-! T93, part M3: houses that are drawn. -/
namespace T93
open PySem PySem.Spec PyProof.Rows L2
section
variable {P : Program} {w : World} {K : PySem.W.Frag} {mg : Str → Option Value} {base : Heap} {TT : List (Addr × Str)} {CL CT CB : Addr}
/-! ### _law_house -/
def termsTab : List (List Nat) := [[1, 2], [1, 2, 4], [2, 3, 6], [1, 3, 4], [6, 4], [5]]
theorem terms_ok : ∀ ts ∈ termsTab, 1 ≤ ts.length ∧ ts.length ≤ 1000 ∧ ∃ L, 0 < L ∧ L ≤ 12 ∧ ∀ t ∈ ts, 1 ≤ t ∧ t ≤ 6 ∧ t ∣ L := by
  intro ts h
  have h : ts = [1, 2] ∨ ts = [1, 2, 4] ∨ ts = [2, 3, 6] ∨ ts = [1, 3, 4] ∨ ts = [6, 4] ∨ ts = [5] := by simpa [termsTab] using h
  rcases h with h | h | h | h | h | h <;> subst h
  · exact ⟨by decide, by decide, 2, by decide, by decide, by decide⟩
  · exact ⟨by decide, by decide, 4, by decide, by decide, by decide⟩
  · exact ⟨by decide, by decide, 6, by decide, by decide, by decide⟩
  · exact ⟨by decide, by decide, 12, by decide, by decide, by decide⟩
  · exact ⟨by decide, by decide, 12, by decide, by decide, by decide⟩
  · exact ⟨by decide, by decide, 5, by decide, by decide, by decide⟩
theorem MAt.updL {H : Hp} {m c g D : Addr} {n : Nat} {zs ys : List V} (h : MAt H m c g n) (hD : H D = some (.lst zs)) (hg : D ≠ g) (s : Soft true (.lst zs) = false) : MAt (upd H D (.lst ys)) m c g n := by
  obtain ⟨ne, hm, ⟨cs, h1, h2, h3⟩, ⟨gs, h4, h5⟩⟩ := h
  have dm : m ≠ D := ne_of hm hD (by intro z; cases z)
  have dc : c ≠ D := fun z => by
    rw [z, hD] at h1
    have e := Option.some.inj h1
    injection e with e
    rw [e] at s
    cases cs with
    | nil => cases h2
    | cons x r => cases s
  exact ⟨ne, (upd_ne dm).trans hm, ⟨cs, (upd_ne dc).trans h1, h2, h3⟩, ⟨gs, (upd_ne (Ne.symm hg)).trans h4, h5⟩⟩
def spHouseD (K : PySem.W.Frag) (TT : List (Addr × Str)) : Sp := fun vs H Q _ => ∃ (m c g : Addr) (n : Nat), vs = [.ref m, .int 2, .int 3] ∧ MAt H m c g n ∧ n + 100 ≤ 100000 ∧
  ∀ v (h : House) n' H', h.Ok → h.wards ≤ 3 → h.bodies.length ≤ 2 → (∀ b ∈ h.bodies, b.length ≤ 3) → Tp K H' v (dHouse h) → Kp TT true [m] H H' → MAt H' m c g n' → n' ≤ n + 60 → Q v H'
abbrev N53 : List Str := ["m", "most", "wide", "bodies", "wards", "terms", "found", "k", "some", "spot"]
theorem sc53 : FnScope N53 ["m", "most", "wide"] (defScope (top 53)) := ⟨rfl, rfl, rfl, by decide +kernel, rfl, by decide +kernel, by decide +kernel⟩
theorem ok_houseD (T : Txt K mg) : GOk P w K mg base CX0 6 "_law_house" ["m", "most", "wide"] (spHouseD K TT) := by
  have nd := sc53.nd
  have G__law_draw := ok_draw (P := P) (w := w) (base := base) (TT := TT) T
  have G__law_of := ok_of (P := P) (w := w) (base := base) (TT := TT) T
  have G__law_seat := ok_seat (P := P) (w := w) (base := base) (TT := TT) T
  refine gok (T.df (53, "_law_house") (by decide +kernel)) sc53 (fun _ _ _ _ _ _ us hl => match us, hl with | [_, _, _], _ => rfl) (fun vs H Q E h => ?_) (fun f cdv A outer s H vs Q E hr h => ?_)
  · obtain ⟨_, _, _, _, rfl, _⟩ := h
    rfl
  · obtain ⟨m, c, g, n, rfl, hm, hn, hQ⟩ := h
    have mb_range := T.no "range" (by decide +kernel)
    have mb_tuple := T.no "tuple" (by decide +kernel)
    refine ⟨_, (pss_cons (ps_asg (pe_tup (pa_cons (pe_op op_add (pe_int) (pe_g G__law_draw hr pass0 (pa_cons (pv 0) (pa_cons (pv 1) pa_nil)))) (pa_cons (pe_g G__law_draw hr pass0 (pa_cons (pv 0) (pa_cons (pe_int) pa_nil))) pa_nil))) (pg_tup rfl (pgs_cons (pg_name (i := 3) nd rfl (Or.inr rfl)) (pgs_cons (pg_name (i := 4) nd rfl (Or.inr rfl)) pgs_nil))))
       (pss_cons (ps_set (i := 5) nd rfl (Or.inr rfl) (pe_g G__law_of hr pass0 (pa_cons (pv 0) (pa_cons (pe_lst (pa_cons (pe_tup (pa_cons (pe_int) (pa_cons (pe_int) pa_nil))) (pa_cons (pe_tup (pa_cons (pe_int) (pa_cons (pe_int) (pa_cons (pe_int) pa_nil)))) (pa_cons (pe_tup (pa_cons (pe_int) (pa_cons (pe_int) (pa_cons (pe_int) pa_nil)))) (pa_cons (pe_tup (pa_cons (pe_int) (pa_cons (pe_int) (pa_cons (pe_int) pa_nil)))) (pa_cons (pe_tup (pa_cons (pe_int) (pa_cons (pe_int) pa_nil))) (pa_cons (pe_tup (pa_cons (pe_int) pa_nil)) pa_nil))))))) pa_nil))))
       (pss_cons (ps_set (i := 6) nd rfl (Or.inl rfl) (pe_lst pa_nil))
       (pss_cons (ps_for PassesOwn.never rfl (pi_range1 rfl mb_range (pa_cons (pv 3) pa_nil)) (pg_name (i := 7) nd rfl (Or.inl rfl)) (pss_cons (ps_setLc (i := 8) (own := [("spot", 9)]) rfl nd rfl rfl (sw_true rfl rfl rfl (by decide +kernel)) (pi_range1 rfl mb_range (pa_cons (pe_op op_add (pe_int) (pe_g G__law_draw hr pass0 (pa_cons (pv 0) (pa_cons (pv 2) pa_nil)))) pa_nil)) (blkOk_by (own := [("spot", 9)]) (N := ["m", "most", "wide", "bodies", "wards", "terms", "found", "k", "some", "spot"]) (sc := (defScope (top 53))) (by decide +kernel)) (fun _ _ _ _ _ => (pg_name (i := 9) nd rfl (Or.inl rfl))) (fun _ _ _ _ _ => pts_nil) (fun _ _ _ _ _ => (pe_g G__law_seat hr pass0 (pa_cons (pv 0) (pa_cons (pv 5) (pa_cons (pv 3) (pa_cons (pv 4) pa_nil)))))))
       (pss_one (ps_expr (pe_bm PySem.F.plainAttrs_list PySem.F.slot_list_append PySem.F.type_list_append mt_append (pv 6) (pa_cons (pe_tupleOf rfl mb_tuple (pv 8)) pa_nil))))))
       (pss_one (ps_ret (pe_tup (pa_cons (pe_tupleOf rfl mb_tuple (pv 6)) (pa_cons (pv 4) pa_nil))))))))), ?_⟩
    refine ⟨_, rfl, _, rfl, m, c, g, n, 2, rfl, by decide, by decide, hm, by omega, fun zb H1 hzb k1 m1 => ⟨_, _, rfl, rfl, ?_⟩⟩
    refine ⟨_, rfl, m, c, g, _, 4, rfl, by decide, by decide, m1, by omega, fun W H2 hW k2 m2 => ⟨by show 2 ≤ sizeLine; decide, fun p1 n1 => ?_⟩⟩
    refine ⟨p1, _, rfl, SqT.of upd_same, rfl, _, _, rfl, _, _, rfl, rfl, ?_⟩
    refine ⟨_, rfl, ?_⟩
    refine ⟨by show 2 ≤ sizeLine; decide, fun q1 w1 => ⟨by show 3 ≤ sizeLine; decide, fun q2 w2 => ⟨by show 3 ≤ sizeLine; decide, fun q3 w3 => ⟨by show 3 ≤ sizeLine; decide, fun q4 w4 => ⟨by show 2 ≤ sizeLine; decide, fun q5 w5 => ⟨by show 1 ≤ sizeLine; decide, fun q6 w6 => ⟨by show 6 ≤ sizeLine; decide, fun pl nl => ?_⟩⟩⟩⟩⟩⟩⟩
    have a1 : TpAll K _ [.ref q1] [.tuple ([1, 2].map fun t : Nat => PyData.int t)] := .one (Tp.new (.cons (.int _) (.cons (.int _) .nil)) w1)
    have a2 : TpAll K _ [.ref q1, .ref q2] _ := (a1.ex (.new w2)).append (.one (Tp.new (ds := [1, 2, 4].map fun t : Nat => PyData.int t) (.cons (.int _) (.cons (.int _) (.cons (.int _) .nil))) w2))
    have a3 : TpAll K _ [.ref q1, .ref q2, .ref q3] _ := (a2.ex (.new w3)).append (.one (Tp.new (ds := [2, 3, 6].map fun t : Nat => PyData.int t) (.cons (.int _) (.cons (.int _) (.cons (.int _) .nil))) w3))
    have a4 : TpAll K _ [.ref q1, .ref q2, .ref q3, .ref q4] _ := (a3.ex (.new w4)).append (.one (Tp.new (ds := [1, 3, 4].map fun t : Nat => PyData.int t) (.cons (.int _) (.cons (.int _) (.cons (.int _) .nil))) w4))
    have a5 : TpAll K _ [.ref q1, .ref q2, .ref q3, .ref q4, .ref q5] _ := (a4.ex (.new w5)).append (.one (Tp.new (ds := [6, 4].map fun t : Nat => PyData.int t) (.cons (.int _) (.cons (.int _) .nil)) w5))
    have a6 : TpAll K _ [.ref q1, .ref q2, .ref q3, .ref q4, .ref q5, .ref q6] (termsTab.map fun ts => PyData.tuple (ts.map fun t : Nat => PyData.int t)) := (a5.ex (.new w6)).append (.one (Tp.new (ds := [5].map fun t : Nat => PyData.int t) (.cons (.int _) .nil) w6))
    have a7 := a6.ex (.new (o := .lst [.ref q1, .ref q2, .ref q3, .ref q4, .ref q5, .ref q6]) nl)
    have x3 : Ex H2 _ := ((((((Evl.Ex.new n1).trans (.new w1)).trans (.new w2)).trans (.new w3)).trans (.new w4)).trans (.new w5)).trans ((Evl.Ex.new w6).trans (.new (o := .lst [.ref q1, .ref q2, .ref q3, .ref q4, .ref q5, .ref q6]) nl))
    refine ⟨m, c, g, _, .ref pl, _, rfl, .lst upd_same rfl, (show 1 ≤ 6 by decide), (show 6 ≤ 1000 by decide), m2.ex x3, by omega, fun i tv H3 hx k3 m3 => ?_⟩
    obtain ⟨ts, hts, tt⟩ := a7.getm hx
    obtain ⟨l1, l2, L, L0, L12, hL⟩ := terms_ok ts (List.mem_of_getElem? hts)
    have t3 := tt.kp k3
    have k03 : Kp TT true [m] H H3 := ((k1.trans k2).trans (.of_ex x3)).trans k3
    refine ⟨by show 0 ≤ sizeLine; decide, fun D nD => ?_⟩
    obtain ⟨gs, hgs, _⟩ := m3.g
    have Dg : D ≠ g := Ne.symm (ne_of_none hgs nD)
    have Dm : D ≠ m := Ne.symm (ne_of_none m3.m nD)
    refine ⟨_, rfl, _, rfl, by omega, by omega, for_it walk_range (fun i σ H' => Kp TT true [m] H3 H' ∧ ∃ (zs : List V) (bs : List (List Seat)) (n' : Nat) (o7 o8 o9 : Option V), H' D = some (.lst zs) ∧ TpAll K H' zs (bs.map dBody) ∧ bs.length = i ∧ (∀ b ∈ bs, 1 ≤ b.length ∧ b.length ≤ 3 ∧ ∀ s ∈ b, s.Ok L (1 + zb) W) ∧ MAt H' m c g n' ∧ n' ≤ n + 3 + i * 20 ∧
      σ = [some (.ref m), some (.int 2), some (.int 3), some (.int ((1 + zb : Nat) : Int)), some (.int W), some tv, some (.ref D), o7, o8, o9]) ⟨.new nD, [], [], _, none, none, none, upd_same, .nil, rfl, fun b hb => absurd hb List.not_mem_nil, m3.ex (.new nD), by omega, rfl⟩ (fun _ _ _ _ _ => True.intro) (fun i x σ H4 H5 hi p y => ?_) (fun σ H4 p => ?_)⟩
    · obtain ⟨rfl, rfl⟩ := y
      obtain ⟨k4, zs, bs, n', o7, o8, o9, hz, tz, hbl, hbs, m4, hn', rfl⟩ := p
      refine ⟨_, rfl, _, rfl, m, c, g, _, 3, rfl, by decide, by decide, m4, by omega, fun zw H6 hzw k6 m6 => ?_⟩
      refine ⟨_, _, rfl, rfl, _, rfl, by omega, by omega, fun D2 n2 => ?_⟩
      have Dm2 : D2 ≠ m := Ne.symm (ne_of_none m6.m n2)
      obtain ⟨gs2, hgs2, _⟩ := m6.g
      have Dg2 : D2 ≠ g := Ne.symm (ne_of_none hgs2 n2)
      refine lc_draw (K := K) (T := TT) (m := m) (St := fun n H => MAt H m c g n) (n0 := n' + 1) (cost := 6) dSeat (fun s => s.Ok L (1 + zb) W) walk_range (Nat.lt_of_le_of_lt (by omega : _ ≤ 1000) (by decide)) n2 Dm2 (m6.ex (.new n2)) (fun n H zs ys hm hD s => hm.updL hD Dg2 s) (fun _ => rfl) (fun _ _ => True.intro) (fun j x H7 H8 n7 Kx hj k7 m7 hn7 y kx => ?_) (fun H7 ws ss n7 hsl hss k7 hw tw m7 hn7 => ?_)
      · obtain ⟨rfl, rfl⟩ := y
        have tt7 := t3.kp ((k4.trans k6).trans k7)
        refine ⟨rfl, _, rfl, _, rfl, _, rfl, _, rfl, m, c, g, _, 1 + zb, W, L, tv, ts, rfl, tt7, l1, l2, hL, by omega, by omega, by omega, m7, by omega, fun v x n8 H8 hx tx k8 m8 hn8 => kx v x _ _ hx tx k8 m8 hn8⟩
      · have k67 := k6.trans k7
        have sz : Soft true (.lst zs) = false := soft_l tz (fun d hd => by
          obtain ⟨b, _, rfl⟩ := List.mem_map.mp hd
          rfl) true
        have hz7 := k67.keep D _ hz (by simpa using Dm) sz
        have zl : zs.length = i := by rw [tz.len, List.length_map, hbl]
        refine ⟨_, rfl, .inl ⟨rfl, _, SqL.of hz7⟩, _, rfl, .inl ⟨D2, ws, rfl, SqL.of hw, fun q1 w1 => ?_⟩⟩
        have Dq : D ≠ q1 := ne_of_none hz7 w1
        have hz8 : upd H7 q1 (.tup ws) D = some (.lst zs) := (upd_ne Dq).trans hz7
        refine ⟨D, zs, _, rfl, rfl, hz8, Nat.lt_of_le_of_lt (by omega : _ ≤ 1000) (by decide), ?_⟩
        have kk := (k4.trans k67).and_new (o := .tup ws) w1
        have tn : TpAll K (upd H7 q1 (.tup ws)) [.ref q1] [dBody ss] := .one (Tp.new tw w1)
        have ta : TpAll K (upd (upd H7 q1 (.tup ws)) D (.lst (zs ++ [.ref q1]))) (zs ++ [.ref q1]) (bs.map dBody ++ [dBody ss]) := ((tz.kp (k67.and_new (o := .tup ws) w1)).append tn).kp (Kp.write (T := TT) (b := true) (S := [D]) hz8 List.mem_cons_self rfl rfl)
        refine ⟨kk.fresh (Kp.write hz8 List.mem_cons_self rfl rfl) nD, _, bs ++ [ss], n7, _, _, _, upd_same, by rw [List.map_append]; exact ta, by rw [List.length_append, hbl]; rfl, fun b hb => ?_, (m7.ex (.new w1)).updL hz8 Dg sz, by omega, rfl⟩
        rcases List.mem_append.mp hb with hb | hb
        · exact hbs b hb
        · obtain rfl := List.mem_singleton.mp hb
          exact ⟨by omega, by omega, hss⟩
    · obtain ⟨k4, zs, bs, n', o7, o8, o9, hz, tz, hbl, hbs, m4, hn', rfl⟩ := p
      have hbl : bs.length = 1 + zb := by omega
      refine ⟨_, rfl, .inl ⟨D, zs, rfl, SqL.of hz, fun q1 w1 => ⟨_, rfl, by show 2 ≤ sizeLine; decide, fun p9 n9 => ?_⟩⟩⟩
      have kD : Kp TT true [m] H H4 := k03.trans k4
      refine hQ _ ⟨bs, W⟩ _ _ ⟨L, L0, L12, by show 1 ≤ bs.length; omega, by show bs.length ≤ 3; omega, fun b hb => ⟨(hbs b hb).1, by have := (hbs b hb).2.1; omega⟩, ?_, by show W ≤ 4; omega, fun b hb s hs => ?_⟩ (by show W ≤ 3; omega) (by show bs.length ≤ 2; omega) (fun b hb => (hbs b hb).2.1) ?_ ((kD.and_new w1).and_new n9) ((m4.ex (.new w1)).ex (.new n9)) (by omega)
      · show (bs.map List.length).sum ≤ 9
        match bs, hbl with
        | [], _ => exact Nat.zero_le _
        | [a], _ => have := (hbs a (by simp)).2.1; simp; omega
        | [a, b], _ => have := (hbs a (by simp)).2.1; have := (hbs b (by simp)).2.1; simp; omega
        | _ :: _ :: _ :: _, h => simp at h; omega
      · show s.Ok L bs.length W
        rw [hbl]
        exact (hbs b hb).2.2 s hs
      · exact Tp.new (.cons (Tp.new tz w1) (.cons (.int _) .nil)) n9
end
end T93
-- M4
set_option maxHeartbeats 2000000
/-! T93, part M4: stands and votes that are drawn. -/
namespace T93
open PySem PySem.Spec PyProof.Rows L2
section
variable {P : Program} {w : World} {K : PySem.W.Frag} {mg : Str → Option Value} {base : Heap} {TT : List (Addr × Str)} {CL CT CB : Addr}

section
variable {T : List (Addr × Str)} {J : It} {n : Nat} {G : Hp → Prop} {Y : Nat → Hp → V → Hp → Prop} {g : TG} {te : TE} {vs : List Nat} {σ : L2.St} {H1 : Hp} {D : Addr} {Qd : Hp → Prop}
theorem lookup_relabel_cf {env : Env} : ∀ {names : List (Str × NameKind)} {x : Str}, names.lookup x = some .cell ∨ names.lookup x = some .free →
    (names.map fun (n, k) => if (k == NameKind.free && env.scope.kind == .function && env.kindOf n == some .cell) then (n, NameKind.cell) else (n, k)).lookup x = some .cell ∨ (names.map fun (n, k) => if (k == NameKind.free && env.scope.kind == .function && env.kindOf n == some .cell) then (n, NameKind.cell) else (n, k)).lookup x = some .free
  | [], _, h => by simp at h
  | (n, k) :: r, x, h => by
    have ih := @lookup_relabel_cf env r x
    show List.lookup x ((if (k == NameKind.free && env.scope.kind == .function && env.kindOf n == some .cell) = true then (n, NameKind.cell) else (n, k)) :: _) = _ ∨ List.lookup x ((if (k == NameKind.free && env.scope.kind == .function && env.kindOf n == some .cell) = true then (n, NameKind.cell) else (n, k)) :: _) = _
    cases hx : x == n with
    | true =>
      simp only [List.lookup_cons, hx] at h
      by_cases hc : (k == NameKind.free && env.scope.kind == .function && env.kindOf n == some .cell) = true
      · rw [if_pos hc]
        simp [List.lookup_cons, hx]
      · rw [if_neg hc]
        simpa [List.lookup_cons, hx] using h
    | false =>
      simp only [List.lookup_cons, hx] at h
      by_cases hc : (k == NameKind.free && env.scope.kind == .function && env.kindOf n == some .cell) = true
      · rw [if_pos hc]
        simp only [List.lookup_cons, hx]
        exact ih h
      · rw [if_neg hc]
        simp only [List.lookup_cons, hx]
        exact ih h
/-- a block within a block -/
theorem blk_rel {N : List Str} {sc scope : Scope} {env : Env} {own : List (Str × Nat)} (h : BlkOk N sc scope own) : BlkOk N (relabel sc env) scope own :=
  ⟨h.kind, h.uniq, h.ix, fun y hy e => lookup_relabel_cf (h.free y hy e), h.own⟩
theorem at_app {α : Type} {as : List α} {a b : α} {j : Nat} (h : (as ++ [a])[j]? = some b) : as[j]? = some b ∨ (j = as.length ∧ a = b) := by
  rcases Nat.lt_or_ge j as.length with l | l
  · rw [List.getElem?_append_left l] at h
    exact .inl h
  · rw [List.getElem?_append_right l] at h
    rcases Nat.eq_zero_or_pos (j - as.length) with e | e
    · rw [e] at h
      exact .inr ⟨by omega, Option.some.inj h⟩
    · rw [List.getElem?_eq_none (by simp; omega)] at h
      cases h
theorem lc_drawI {α : Type} {m : Addr} {St : Nat → Hp → Prop} {n0 cost : Nat} (f : α → PyData) (okA : Nat → α → Prop) (w : Walk J n G Y) (hz : n < sizeLine) (hD : H1 D = none) (hDm : D ≠ m) (st0 : St n0 (upd H1 D (.lst [])))
    (stD : ∀ n' H zs ys, St n' H → H D = some (.lst zs) → Soft true (.lst zs) = false → St n' (upd H D (.lst ys))) (hf : ∀ a, notInt (f a) = true)
    (hG : ∀ H, Kp T true [m] H1 H → G H)
    (hs : ∀ (i : Nat) (x : V) (H H' : Hp) (n' : Nat) (Kx : V → Hp → Prop), i < n → Kp T true [m] H1 H → St n' H → n' ≤ n0 + i * cost → Y i H x H' →
      (∀ y a H4 n4, okA i a → Tp K H4 y (f a) → Kp T true [m] H H4 → St n4 H4 → n4 ≤ n' + cost → Kx y H4) → g x (wipe σ vs) H' fun σ2 H2 => wipe σ2 vs = wipe σ vs ∧ te σ2 H2 Kx)
    (hd : ∀ (H : Hp) (zs : List V) (as : List α) (n' : Nat), as.length = n → (∀ j a, as[j]? = some a → okA j a) → Kp T true [m] H1 H → H D = some (.lst zs) → TpAll K H zs (as.map f) → St n' H → n' ≤ n0 + n * cost → Qd H) :
    ∃ W : Nat → Nat → Hp → Prop, (∃ m, W 0 m (upd H1 D (.lst []))) ∧ ∀ i m H, W i m H →
      (J.stop i H ∧ Qd H) ∨ (J.go i H ∧ ∃ Nx : Hp → Prop, (∀ H', Nx H' → ∃ m', m' < m ∧ W (i + 1) m' H') ∧ ∀ x H', J.yld i H x H' → g x (wipe σ vs) H' fun σ2 H2 => wipe σ2 vs = wipe σ vs ∧ tYes σ2 H2 fun b H3 =>
        if b = true then te σ2 H3 fun y H4 => ∃ acc, H4 D = some (.lst acc) ∧ acc.length < sizeLine ∧ Nx (upd H4 D (.lst (acc ++ [y]))) else Nx H3) := by
  have sd : ∀ {H : Hp} {zs : List V} {as : List α}, TpAll K H zs (as.map f) → Soft true (.lst zs) = false := fun {H zs as} t => soft_l t (fun d hd => by
    obtain ⟨a, _, rfl⟩ := List.mem_map.mp hd
    exact hf a) true
  refine lc_it w (fun i H => Kp T true [m] H1 H ∧ ∃ (zs : List V) (as : List α) (n' : Nat), H D = some (.lst zs) ∧ as.length = i ∧ (∀ j a, as[j]? = some a → okA j a) ∧ TpAll K H zs (as.map f) ∧ St n' H ∧ n' ≤ n0 + i * cost) ⟨.new hD, [], [], n0, upd_same, rfl, fun j a h => by simp at h, .nil, st0, by omega⟩ (fun i H _ p => hG H p.1) (fun i x H H' hi p y => ?_) (fun H p => ?_)
  · obtain ⟨k, zs, as, n', hz1, hl, ho, tz, st, hn'⟩ := p
    have ln : zs.length = i := by rw [tz.len, List.length_map, hl]
    have q := hs i x H H' n' (fun y H4 => ∃ acc, H4 D = some (.lst acc) ∧ acc.length < sizeLine ∧ (Kp T true [m] H1 (upd H4 D (.lst (acc ++ [y]))) ∧ ∃ (zs : List V) (as : List α) (n' : Nat), upd H4 D (.lst (acc ++ [y])) D = some (.lst zs) ∧ as.length = i + 1 ∧ (∀ j a, as[j]? = some a → okA j a) ∧ TpAll K (upd H4 D (.lst (acc ++ [y]))) zs (as.map f) ∧ St n' (upd H4 D (.lst (acc ++ [y]))) ∧ n' ≤ n0 + (i + 1) * cost)) hi k st hn' y (fun y4 a H4 n4 oa ta k4 st4 hn4 => ?_)
    · exact tyes_of q
    · have hz4 : H4 D = some (.lst zs) := k4.keep D _ hz1 (fun z => hDm (List.mem_singleton.mp z)) (sd tz)
      have kw : Kp T true [D] H4 (upd H4 D (.lst (zs ++ [y4]))) := .write hz4 List.mem_cons_self rfl rfl
      refine ⟨zs, hz4, by omega, ?_, zs ++ [y4], as ++ [a], n4, upd_same, by rw [List.length_append, hl]; rfl, fun j b hb => ?_, ?_, stD _ _ _ _ st4 hz4 (sd tz), by rw [Nat.succ_mul]; omega⟩
      · exact Kp.fresh (p := D) (k.trans k4) (kw.mono fun b hb => by
          rw [List.mem_singleton.mp hb]
          exact List.mem_cons_self) hD
      · rcases at_app hb with hb | ⟨e, hb⟩
        · exact ho j b hb
        · rw [e, hl, ← hb]
          exact oa
      · rw [List.map_append]
        exact ((tz.kp k4).append (.cons ta .nil)).kp kw
  · obtain ⟨k, zs, as, n', hz1, hl, ho, tz, st, hn'⟩ := p
    exact hd H zs as n' hl ho k hz1 tz st hn'
end
abbrev N54 : List Str := ["m", "house_so", "body", "seat"]
theorem sc54 : FnScope N54 ["m", "house_so"] (defScope (top 54)) := ⟨rfl, rfl, rfl, by decide +kernel, rfl, by decide +kernel, by decide +kernel⟩
def spStandD (K : PySem.W.Frag) (TT : List (Addr × Str)) : Sp := fun vs H Q _ => ∃ (m c g : Addr) (n : Nat) (hv : V) (h : House), vs = [.ref m, hv] ∧ Tp K H hv (dHouse h) ∧ h.bodies.length ≤ 3 ∧ (∀ b ∈ h.bodies, b.length ≤ 9) ∧ MAt H m c g n ∧ n + 30 ≤ 100000 ∧
  ∀ v (st : Stand) n' H', Shape h st → Tp K H' v (dStand st) → Kp TT true [m] H H' → MAt H' m c g n' → n' ≤ n + 27 → Q v H'
theorem ok_standD (T : Txt K mg) : GOk P w K mg base CX0 4 "_law_stand" ["m", "house_so"] (spStandD K TT) := by
  have nd := sc54.nd
  have G__law_of := ok_of (P := P) (w := w) (base := base) (TT := TT) T
  refine gok (T.df (54, "_law_stand") (by decide +kernel)) sc54 (fun _ _ _ _ _ _ us hl => match us, hl with | [_, _], _ => rfl) (fun vs H Q E h => ?_) (fun f cdv A outer s H vs Q E hr h => ?_)
  · obtain ⟨_, _, _, _, _, _, rfl, _⟩ := h
    rfl
  · obtain ⟨m, c, g, n, hv, h, rfl, th, hb2, hb3, hm, hn, hQ⟩ := h
    have mb_tuple := T.no "tuple" (by decide +kernel)
    refine ⟨_, (pss_one (ps_ret (pe_tupleOf rfl mb_tuple (pe_lc (own := [("body", 2)]) rfl nd (pi_tup (pe_ix ix_tup (pv 1) (pe_int) (fun _ _ => rfl))) (blkOk_by (own := [("body", 2)]) (N := ["m", "house_so", "body", "seat"]) (sc := (defScope (top 54))) (by decide +kernel)) (fun _ _ _ _ _ => (pg_name (i := 2) nd rfl (Or.inl rfl))) (fun _ _ _ _ _ => pts_nil) (fun _ _ _ _ _ => (pe_joinK K rfl (pe_str) (pe_lc (own := [("seat", 3)]) rfl nd (pi_tupK K rfl (pv 2)) (blk_rel (blkOk_by (own := [("seat", 3)]) (N := ["m", "house_so", "body", "seat"]) (sc := { kind := .function, names := [(".0", .local), ("body", .local), ("m", .free)], isGenerator := false, isCoroutine := false }) (by decide +kernel))) (fun _ _ _ _ _ => (pg_name (i := 3) nd rfl (Or.inl rfl))) (fun _ _ _ _ _ => pts_nil) (fun _ _ _ _ _ => (pe_g G__law_of hr pass0 (pa_cons (pv 0) (pa_cons (pe_str) pa_nil))))))))))), ?_⟩
    obtain ⟨ah, hs, rfl, sh, th⟩ := th.tup_inv
    obtain ⟨bv, hb0, tb⟩ := th.get (i := 0) rfl
    obtain ⟨ab, bs, rfl, sb, tb⟩ := tb.tup_inv
    have hbl : bs.length = h.bodies.length := by rw [tb.len, List.length_map]
    refine ⟨_, rfl, ah, hs, 0, _, rfl, rfl, sh, atI_nat hb0, ab, rfl, ⟨_, sb⟩, fun D nD => ?_⟩
    have Dm : D ≠ m := Ne.symm (ne_of_none hm.m nD)
    obtain ⟨gs, hgs, _⟩ := hm.g
    have Dg : D ≠ g := Ne.symm (ne_of_none hgs nD)
    refine lc_drawI (n := bs.length) (K := K) (T := TT) (m := m) (St := fun n H => MAt H m c g n) (n0 := n) (cost := 9) dRow (fun i (r : Row) => (h.bodies.map List.length)[i]? = some r.length) walk_tup (Nat.lt_of_le_of_lt (by omega : _ ≤ 1000) (by decide)) nD Dm (hm.ex (.new nD)) (fun n H zs ys hm hD s => hm.updL hD Dg s) (fun _ => rfl) (fun H2 k => SqT.kp k sb) (fun i x H2 H3 n2 Kx hi k2 m2 hn2 y kx => ?_) (fun H2 ws sr n2 hsl hss k2 hw tw m2 hn2 => ?_)
    · obtain ⟨rfl, hx⟩ := y
      obtain ⟨b, hb, tb'⟩ := tb.getm hx
      obtain ⟨a1, xs, rfl, s1, t1⟩ := tb'.tup_inv
      have hx1 : xs.length = b.length := by rw [t1.len, List.length_map]
      have b9 := hb3 b (List.mem_of_getElem? hb)
      refine ⟨rfl, ⟨_, rfl⟩, _, rfl, a1, rfl, ⟨_, SqT.kp k2 s1⟩, fun D2 nD2 => ?_⟩
      have Dm2 : D2 ≠ m := Ne.symm (ne_of_none m2.m nD2)
      obtain ⟨gs2, hgs2, _⟩ := m2.g
      have Dg2 : D2 ≠ g := Ne.symm (ne_of_none hgs2 nD2)
      refine lc_draw (n := xs.length) (K := K) (T := TT) (m := m) (St := fun n H => MAt H m c g n) (n0 := n2) (cost := 1) (fun b => PyData.str (lt b)) (fun _ => True) walk_tup (Nat.lt_of_le_of_lt (by omega : _ ≤ 1000) (by decide)) nD2 Dm2 (m2.ex (.new nD2)) (fun n H zs ys hm hD s => hm.updL hD Dg2 s) (fun _ => rfl) (fun H2 k => SqT.kp (k2.trans k) s1) (fun j x H4 H5 n4 Kx hi k4 m4 hn4 y kx => ?_) (fun H4 ws sr n4 hsl _ k4 hw tw m4 hn4 => ?_)
      · obtain ⟨rfl, hx⟩ := y
        refine ⟨rfl, _, rfl, m, c, g, _, .str "ab", _, rfl, .txt "ab" (by decide), by decide, by decide, m4, by omega, fun z v H6 hz k6 m6 => ?_⟩
        obtain ⟨b, rfl⟩ : ∃ b, v = V.str (lt b) := by
          match z, hz with
          | 0, hz => exact ⟨true, (Option.some.inj hz).symm⟩
          | 1, hz => exact ⟨false, (Option.some.inj hz).symm⟩
          | j + 2, hz =>
            have e : j + 2 < 2 := (List.getElem?_eq_some_iff.mp hz).1
            omega
        exact kx _ b _ _ True.intro (.str _) k6 m6 (by omega)
      · obtain rfl := TpAll.of_strs (ns := sr.map lt) (by rw [List.map_map]; exact tw)
        refine ⟨_, D2, sr.map lt, rfl, rfl, .inl (SqL.of hw), ?_, ?_⟩
        · rw [lt_sum, List.length_map]
          show _ + _ * 0 ≤ _
          omega
        · rw [TL.join_eq, join_lt]
          exact kx _ sr _ _ (by rw [List.getElem?_map, hb]; show some b.length = _; rw [hsl, hx1]) (.str _) k4 m4 (by omega)
    · refine .inl ⟨D, ws, rfl, SqL.of hw, fun q1 w1 => ?_⟩
      refine hQ _ sr _ _ ?_ (Tp.new tw w1) (k2.and_new w1) (m2.ex (.new w1)) (by rw [hbl] at hn2; omega)
      refine List.ext_getElem? fun i => ?_
      rw [List.getElem?_map]
      cases e : sr[i]? with
      | none =>
        have := List.getElem?_eq_none_iff.mp e
        exact (List.getElem?_eq_none (by rw [List.length_map]; omega)).symm
      | some r => exact (hss i r e).symm
/-! ### _law_votes -/
theorem ab_of {z : Nat} {v : V} (hz : (("ab" : Str).cps.toList.map fun c => V.str ⟨#[c]⟩)[z]? = some v) : ∃ b, v = V.str (lt b) := by
  match z, hz with
  | 0, hz => exact ⟨true, (Option.some.inj hz).symm⟩
  | 1, hz => exact ⟨false, (Option.some.inj hz).symm⟩
  | j + 2, hz =>
    have e : j + 2 < 2 := (List.getElem?_eq_some_iff.mp hz).1
    omega
abbrev N55 : List Str := ["m", "wards", "many", "t", "k"]
theorem sc55 : FnScope N55 ["m", "wards", "many"] (defScope (top 55)) := ⟨rfl, rfl, rfl, by decide +kernel, rfl, by decide +kernel, by decide +kernel⟩
def spVotesD (K : PySem.W.Frag) (TT : List (Addr × Str)) : Sp := fun vs H Q _ => ∃ (m c g : Addr) (n W N : Nat), vs = [.ref m, .int W, .int N] ∧ W ≤ 4 ∧ N ≤ 2 ∧ MAt H m c g n ∧ n + 30 ≤ 100000 ∧
  ∀ v (rs : List Row) n' H', rs.length = N → (∀ r ∈ rs, r.length = W) → Tp K H' v (.tuple (rs.map dRow)) → Kp TT true [m] H H' → MAt H' m c g n' → n' ≤ n + N * 4 → Q v H'
theorem ok_votesD (T : Txt K mg) : GOk P w K mg base CX0 4 "_law_votes" ["m", "wards", "many"] (spVotesD K TT) := by
  have nd := sc55.nd
  have G__law_of := ok_of (P := P) (w := w) (base := base) (TT := TT) T
  refine gok (T.df (55, "_law_votes") (by decide +kernel)) sc55 (fun _ _ _ _ _ _ us hl => match us, hl with | [_, _, _], _ => rfl) (fun vs H Q E h => ?_) (fun f cdv A outer s H vs Q E hr h => ?_)
  · obtain ⟨_, _, _, _, _, _, rfl, _⟩ := h
    rfl
  · obtain ⟨m, c, g, n, W, N, rfl, hW, hN, hm, hn, hQ⟩ := h
    have mb_range := T.no "range" (by decide +kernel)
    have mb_tuple := T.no "tuple" (by decide +kernel)
    refine ⟨_, (pss_one (ps_ret (pe_tupleOf rfl mb_tuple (pe_lc (own := [("t", 3)]) rfl nd (pi_range1 rfl mb_range (pa_cons (pv 2) pa_nil)) (blkOk_by (own := [("t", 3)]) (N := ["m", "wards", "many", "t", "k"]) (sc := (defScope (top 55))) (by decide +kernel)) (fun _ _ _ _ _ => (pg_name (i := 3) nd rfl (Or.inl rfl))) (fun _ _ _ _ _ => pts_nil) (fun _ _ _ _ _ => (pe_joinK K rfl (pe_str) (pe_lc (own := [("k", 4)]) rfl nd (pi_range1 rfl mb_range (pa_cons (pv 1) pa_nil)) (blk_rel (blkOk_by (own := [("k", 4)]) (N := ["m", "wards", "many", "t", "k"]) (sc := { kind := .function, names := [(".0", .local), ("t", .local), ("range", .globalImplicit), ("m", .free), ("wards", .free)], isGenerator := false, isCoroutine := false }) (by decide +kernel))) (fun _ _ _ _ _ => (pg_name (i := 4) nd rfl (Or.inl rfl))) (fun _ _ _ _ _ => pts_nil) (fun _ _ _ _ _ => (pe_g G__law_of hr pass0 (pa_cons (pv 0) (pa_cons (pe_str) pa_nil))))))))))), ?_⟩
    refine ⟨_, rfl, _, rfl, by omega, by omega, fun D nD => ?_⟩
    have Dm : D ≠ m := Ne.symm (ne_of_none hm.m nD)
    obtain ⟨gs, hgs, _⟩ := hm.g
    have Dg : D ≠ g := Ne.symm (ne_of_none hgs nD)
    refine lc_draw (n := N) (K := K) (T := TT) (m := m) (St := fun n H => MAt H m c g n) (n0 := n) (cost := 4) dRow (fun (r : Row) => r.length = W) walk_range (Nat.lt_of_le_of_lt (by omega : _ ≤ 1000) (by decide)) nD Dm (hm.ex (.new nD)) (fun n H zs ys hm hD s => hm.updL hD Dg s) (fun _ => rfl) (fun H2 k => True.intro) (fun i x H2 H3 n2 Kx hi k2 m2 hn2 y kx => ?_) (fun H2 ws sr n2 hsl hss k2 hw tw m2 hn2 => ?_)
    · obtain ⟨rfl, rfl⟩ := y
      refine ⟨rfl, ⟨_, rfl⟩, _, rfl, _, rfl, by omega, by omega, fun D2 nD2 => ?_⟩
      have Dm2 : D2 ≠ m := Ne.symm (ne_of_none m2.m nD2)
      obtain ⟨gs2, hgs2, _⟩ := m2.g
      have Dg2 : D2 ≠ g := Ne.symm (ne_of_none hgs2 nD2)
      refine lc_draw (n := W) (K := K) (T := TT) (m := m) (St := fun n H => MAt H m c g n) (n0 := n2) (cost := 1) (fun b => PyData.str (lt b)) (fun _ => True) walk_range (Nat.lt_of_le_of_lt (by omega : _ ≤ 1000) (by decide)) nD2 Dm2 (m2.ex (.new nD2)) (fun n H zs ys hm hD s => hm.updL hD Dg2 s) (fun _ => rfl) (fun H2 k => True.intro) (fun j x H4 H5 n4 Kx hi k4 m4 hn4 y kx => ?_) (fun H4 ws sr n4 hsl _ k4 hw tw m4 hn4 => ?_)
      · obtain ⟨rfl, rfl⟩ := y
        refine ⟨rfl, _, rfl, m, c, g, _, .str "ab", _, rfl, .txt "ab" (by decide), by decide, by decide, m4, by omega, fun z v H6 hz k6 m6 => ?_⟩
        obtain ⟨b, rfl⟩ := ab_of hz
        exact kx _ b _ _ True.intro (.str _) k6 m6 (by omega)
      · obtain rfl := TpAll.of_strs (ns := sr.map lt) (by rw [List.map_map]; exact tw)
        refine ⟨_, D2, sr.map lt, rfl, rfl, .inl (SqL.of hw), ?_, ?_⟩
        · rw [lt_sum, List.length_map]
          show _ + _ * 0 ≤ _
          omega
        · rw [TL.join_eq, join_lt]
          exact kx _ sr _ _ hsl (.str _) k4 m4 (by omega)
    · refine .inl ⟨D, ws, rfl, SqL.of hw, fun q1 w1 => ?_⟩
      exact hQ _ sr _ _ hsl hss (Tp.new tw w1) (k2.and_new w1) (m2.ex (.new w1)) hn2
end
end T93
-- M5
set_option maxHeartbeats 2000000
/-! T93, part M5: the drawing machine made. -/
namespace T93
open PySem PySem.Spec PyProof.Rows L2
section
variable {P : Program} {w : World} {K : PySem.W.Frag} {mg : Str → Option Value} {base : Heap} {TT : List (Addr × Str)} {CL CT CB : Addr}

/-! ### _law_folded -/
abbrev N46 : List Str := ["script", "found", "n", "cell"]
theorem sc46 : FnScope N46 ["script"] (defScope (top 46)) := ⟨rfl, rfl, rfl, by decide +kernel, rfl, by decide +kernel, by decide +kernel⟩
theorem soft_false (xs : List V) : Soft false (.lst xs) = false := by
  cases xs with
  | nil => rfl
  | cons x r => cases x <;> rfl
theorem sql_kp {a : Addr} {xs : List V} {H H' : Hp} (k : Kp TT false [] H H') (s : SqL K H a xs) : SqL K H' a xs := by
  rcases s with (h | ⟨o, h⟩) | h
  · exact .inl (.inl (k.keep a _ h List.not_mem_nil (soft_false xs)))
  · exact .inl (.inr ⟨o, k.frz a _ _ h⟩)
  · exact .inr h
def Fold (H : Hp) (D : Addr) : Prop := ∃ cs : List Int, H D = some (.lst (cs.map V.int)) ∧ cs.length = 64 ∧ ∀ x ∈ cs, 0 ≤ x ∧ x < 2 ^ 31
def spFolded (K : PySem.W.Frag) (TT : List (Addr × Str)) : Sp := fun vs H Q _ => ∃ (a : Addr) (ns : List Int), vs = [.ref a] ∧ SqL K H a (ns.map V.int) ∧ ns.length ≤ 1000 ∧
  ∀ D H', H D = none → Kp TT false [] H H' → Fold H' D → Q (.ref D) H'
theorem ok_folded (T : Txt K mg) : GOk P w K mg base CX0 1 "_law_folded" ["script"] (spFolded K TT) := by
  have nd := sc46.nd
  refine gok (T.df (46, "_law_folded") (by decide +kernel)) sc46 (fun _ _ _ _ _ _ us hl => match us, hl with | [_], _ => rfl) (fun vs H Q E h => ?_) (fun f cdv A outer s H vs Q E hr h => ?_)
  · obtain ⟨_, _, rfl, _⟩ := h
    rfl
  · obtain ⟨a, ns, rfl, hs, hns, hQ⟩ := h
    have mb_enumerate := T.no "enumerate" (by decide +kernel)
    have mb_int := T.no "int" (by decide +kernel)
    have mb_range := T.no "range" (by decide +kernel)
    refine ⟨_, (pss_cons (ps_setLc (i := 1) (own := [("n", 2)]) rfl nd rfl rfl (sw_true rfl rfl rfl (by decide +kernel)) (pi_range1 rfl mb_range (pa_cons (pe_int) pa_nil)) (blkOk_by (own := [("n", 2)]) (N := ["script", "found", "n", "cell"]) (sc := (defScope (top 46))) (by decide +kernel)) (fun _ _ _ _ _ => (pg_name (i := 2) nd rfl (Or.inl rfl))) (fun _ _ _ _ _ => pts_nil) (fun _ _ _ _ _ => (pe_op op_add (pe_int) (pv 2))))
       (pss_cons (ps_for PassesOwn.never rfl (pi_enum (by rfl) mb_enumerate (pa_cons (pv 0) pa_nil)) (pg_tup rfl (pgs_cons (pg_name (i := 2) nd rfl (Or.inl rfl)) (pgs_cons (pg_name (i := 3) nd rfl (Or.inl rfl)) pgs_nil))) (pss_one (ps_asg (pe_op op_mod (pe_callTy call_int1 rfl mb_int boot_int (pa_cons (pe_op op_add (pe_op op_mul (pe_ix ix_list (pv 1) (pe_op op_mod (pe_callTy call_int1 rfl mb_int boot_int (pa_cons (pv 2) pa_nil)) (pe_int)) (fun _ _ => rfl)) (pe_int)) (pv 3)) pa_nil)) (pe_int)) (pg_sub (pv 1) (pe_op op_mod (pe_callTy call_int1 rfl mb_int boot_int (pa_cons (pv 2) pa_nil)) (pe_int)) set_list))))
       (pss_cons (ps_for PassesOwn.never rfl (pi_range2 rfl mb_range (pa_cons (pe_int) (pa_cons (pe_int) pa_nil))) (pg_name (i := 2) nd rfl (Or.inl rfl)) (pss_one (ps_asg (pe_op op_mod (pe_callTy call_int1 rfl mb_int boot_int (pa_cons (pe_op op_add (pe_ix ix_list (pv 1) (pv 2) (fun _ _ => rfl)) (pe_op op_mul (pe_ix ix_list (pv 1) (pe_op op_sub (pv 2) (pe_int)) (fun _ _ => rfl)) (pe_int))) pa_nil)) (pe_int)) (pg_sub (pv 1) (pv 2) set_list))))
       (pss_one (ps_ret (pv 1)))))), ?_⟩
    refine ⟨_, rfl, by decide, by decide, fun D nD => ?_⟩
    have fin : ∀ (cs : List Int) (j : Nat) (x : Int), cs.length = 64 → (∀ x ∈ cs, 0 ≤ x ∧ x < 2 ^ 31) → (cs.set j (x % 2147483647)).length = 64 ∧ ∀ y ∈ cs.set j (x % 2147483647), 0 ≤ y ∧ y < 2 ^ 31 := fun cs j x h1 h2 => ⟨by rw [List.length_set, h1], fun y hy => by
      rcases List.mem_or_eq_of_mem_set hy with hy | rfl
      · exact h2 y hy
      · omega⟩
    have step : ∀ (H1 : Hp) (cs : List Int) (zs : List V), Kp TT false [] H H1 → H1 D = some (.lst (cs.map V.int)) → Kp TT false [] H (upd H1 D (.lst zs)) := fun H1 cs zs k h => k.fresh (Kp.write h List.mem_cons_self rfl rfl) nD
    refine lc_data (n := 64) (K := K) walk_range ((List.range 64).map fun n => PyData.int (17 + (n : Nat))) rfl (by decide) nD (fun _ _ => True.intro) (fun i d x H2 H3 Kx hd e y kx => ?_) (fun H2 zs e hz tz => ?_)
    · obtain ⟨rfl, rfl⟩ := y
      rw [List.getElem?_map] at hd
      obtain ⟨j, hj, rfl⟩ := Option.map_eq_some_iff.mp hd
      have ej : i = j := by
        rw [List.getElem?_range (by
          have := (List.getElem?_eq_some_iff.mp hj).1
          simpa using this)] at hj
        exact Option.some.inj hj
      subst ej
      refine ⟨rfl, _, rfl, _, _, rfl, rfl, ?_⟩
      have q := kx (.int (17 + (i : Nat))) _ (.refl _) (.int _)
      show Kx (.int ((17 : Int) + (0 + (i : Nat)))) _
      rw [show (17 : Int) + (0 + (i : Nat)) = 17 + (i : Nat) by omega]
      exact q
    · have tz' : TpAll K H2 zs (((List.range 64).map fun n => 17 + ((n : Nat) : Int)).map PyData.int) := by
        rw [List.map_map]
        exact tz
      obtain rfl := tz'.of_ints
      refine ⟨_, rfl, a, _, rfl, sql_kp (TT := TT) (.of_ex e) hs, for_it walk_enum (fun i σ H' => Kp TT false [] H H' ∧ Fold H' D ∧ ∃ o2 o3 : Option V, σ = [some (.ref a), some (.ref D), o2, o3]) ⟨.of_ex e, ⟨_, hz, rfl, fun x hx => ?_⟩, _, _, rfl⟩ (fun i σ H' _ p => sql_kp p.1 hs) (fun i x σ H3 H4 hi p y => ?_) (fun σ H3 p => ?_)⟩
      · obtain ⟨j, hj, rfl⟩ := List.mem_map.mp hx
        have := List.mem_range.mp hj
        omega
      · obtain ⟨k, ⟨cs, hc, hcl, hcb⟩, o2, o3, rfl⟩ := p
        obtain ⟨T1, x1, y1, rfl, n1, rfl, h1, h2⟩ := y
        cases h1
        have h2 : (ns.map V.int)[i]? = some y1 := h2
        rw [List.getElem?_map] at h2
        obtain ⟨z, hzz, rfl⟩ := Option.map_eq_some_iff.mp h2
        have hc1 : upd H3 T1 (.tup [.int (i : Nat), .int z]) D = some (.lst (cs.map V.int)) := (upd_ne (ne_of_none hc n1)).trans hc
        have hj : i % 64 < 64 := Nat.mod_lt _ (by decide)
        obtain ⟨x0, hx0⟩ : ∃ x0, cs[i % 64]? = some x0 := ⟨_, List.getElem?_eq_getElem (by omega)⟩
        refine ⟨T1, _, rfl, SqT.of upd_same, rfl, _, _, rfl, _, _, rfl, rfl, ?_⟩
        refine ⟨_, rfl, _, rfl, .inl ⟨_, rfl, _, _, rfl, rfl, by show (0 : Int) < 64; decide, D, _, _, V.int x0, rfl, rfl, SqL.of hc1, atI_nat (j := i % 64) (by rw [List.getElem?_map, hx0]; rfl), ?_⟩⟩
        refine ⟨_, _, rfl, rfl, .inr ⟨by decide, by decide⟩, _, rfl, _, _, rfl, rfl, .inl ⟨_, rfl, _, _, rfl, rfl, by show (0 : Int) < 2147483647; decide, ?_⟩⟩
        refine ⟨_, rfl, _, rfl, .inl ⟨_, rfl, _, _, rfl, rfl, by show (0 : Int) < 64; decide, D, _, _, i % 64, rfl, rfl, hc1, ixN_nat (by rw [List.length_map, hcl]; exact hj), ?_⟩⟩
        have f := fin cs (i % 64) (x0 * 48271 + z) hcl hcb
        exact ⟨step _ _ _ (k.and_new n1) hc1, ⟨_, by rw [upd_same, ← List.map_set], f.1, f.2⟩, _, _, rfl⟩
      · obtain ⟨k, ⟨cs, hc, hcl, hcb⟩, o2, o3, rfl⟩ := p
        refine ⟨_, _, rfl, ⟨by decide, by decide, by decide, by decide⟩, for_it walk_range (fun i σ H' => Kp TT false [] H H' ∧ Fold H' D ∧ ∃ o2 o3 : Option V, σ = [some (.ref a), some (.ref D), o2, o3]) ⟨k, ⟨cs, hc, hcl, hcb⟩, _, _, rfl⟩ (fun _ _ _ _ _ => True.intro) (fun i x σ H4 H5 hi p y => ?_) (fun σ H4 p => ?_)⟩
        · obtain ⟨rfl, rfl⟩ := y
          obtain ⟨k, ⟨cs, hc, hcl, hcb⟩, o2, o3, rfl⟩ := p
          have hi' : i < 63 := hi
          obtain ⟨x0, hx0⟩ : ∃ x0, cs[1 + i]? = some x0 := ⟨_, List.getElem?_eq_getElem (by omega)⟩
          obtain ⟨x1, hx1⟩ : ∃ x1, cs[i]? = some x1 := ⟨_, List.getElem?_eq_getElem (by omega)⟩
          have e1 : ((1 : Int) + (i : Nat)) = ((1 + i : Nat) : Int) := by omega
          have e2 : (((1 + i : Nat) : Int) - 1) = ((i : Nat) : Int) := by omega
          show tAsg _ _ _ (List.set _ 2 (some (V.int ((1 : Int) + (i : Nat))))) _
          rw [e1]
          refine ⟨_, rfl, _, rfl, D, _, _, V.int x0, rfl, rfl, SqL.of hc, atI_nat (by rw [List.getElem?_map, hx0]; rfl), ?_⟩
          refine ⟨_, rfl, _, rfl, _, _, rfl, rfl, D, _, _, V.int x1, rfl, rfl, SqL.of hc, by rw [e2]; exact atI_nat (by rw [List.getElem?_map, hx1]; rfl), ?_⟩
          refine ⟨_, _, rfl, rfl, .inr ⟨by decide, by decide⟩, _, _, rfl, rfl, .inl ⟨_, rfl, _, _, rfl, rfl, by show (0 : Int) < 2147483647; decide, ?_⟩⟩
          refine ⟨_, rfl, _, rfl, D, _, _, 1 + i, rfl, rfl, hc, ixN_nat (by rw [List.length_map, hcl]; omega), ?_⟩
          have f := fin cs (1 + i) (x0 + x1 * 16807) hcl hcb
          exact ⟨step _ _ _ k hc, ⟨_, by rw [upd_same, ← List.map_set], f.1, f.2⟩, _, _, rfl⟩
        · obtain ⟨k, fo, o2, o3, rfl⟩ := p
          exact ⟨_, rfl, hQ D _ nD k fo⟩
/-! ### _law_begun -/
abbrev N48 : List Str := ["script", "m", "cell"]
theorem sc48 : FnScope N48 ["script"] (defScope (top 48)) := ⟨rfl, rfl, rfl, by decide +kernel, rfl, by decide +kernel, by decide +kernel⟩
def spBegun (K : PySem.W.Frag) (TT : List (Addr × Str)) : Sp := fun vs H Q _ => ∃ (a : Addr) (ns : List Int), vs = [.ref a] ∧ SqL K H a (ns.map V.int) ∧ ns.length ≤ 100 ∧
  ∀ m c g H', Kp TT false [] H H' → MAt H' m c g 0 → Q (.ref m) H'
theorem ok_begun (T : Txt K mg) : GOk P w K mg base CX0 2 "_law_begun" ["script"] (spBegun K TT) := by
  have nd := sc48.nd
  have G__law_folded := ok_folded (P := P) (w := w) (base := base) (TT := TT) T
  refine gok (T.df (48, "_law_begun") (by decide +kernel)) sc48 (fun _ _ _ _ _ _ us hl => match us, hl with | [_], _ => rfl) (fun vs H Q E h => ?_) (fun f cdv A outer s H vs Q E hr h => ?_)
  · obtain ⟨_, _, rfl, _⟩ := h
    rfl
  · obtain ⟨a, ns, rfl, hs, hns, hQ⟩ := h
    have hu := hu_of hr
    refine ⟨_, (pss_cons (ps_set (i := 1) nd rfl (Or.inl rfl) (pe_disp (pps_cons (pe_str) (pe_g G__law_folded hr pass0 (pa_cons (pv 0) pa_nil)) (pps_cons (pe_str) (pe_lst pa_nil) (pps_cons (pe_str) (pe_int) pps_nil))) (by rfl) (by rfl) (fun z => by cases z) (by decide)))
       (pss_cons (ps_dput hu (pv 1) (pe_str) (pe_lc (own := [("cell", 2)]) rfl nd (pi_list (pv 0)) (blkOk_by (own := [("cell", 2)]) (N := ["script", "m", "cell"]) (sc := (defScope (top 48))) (by decide +kernel)) (fun _ _ _ _ _ => (pg_name (i := 2) nd rfl (Or.inl rfl))) (fun _ _ _ _ _ => pts_nil) (fun _ _ _ _ _ => (pe_ifExp (pt_cmpR op_ge (pv 2) (pe_op op_pow (pe_int) (pe_int)) (nomark _)) (pv 2) (pe_int)))) rfl)
       (pss_one (ps_ret (pv 1))))), ?_⟩
    refine fun m nm => ?_
    have hs0 := sql_kp (TT := TT) (Kp.new (o := .dK []) nm) hs
    refine ⟨_, rfl, a, ns, rfl, hs0, by omega, fun c H1 nc k1 f1 => ?_⟩
    have hm1 : H1 m = some (.dK []) := k1.keep m _ upd_same List.not_mem_nil rfl
    have mc : c ≠ m := fun z => by
      rw [z, upd_same] at nc
      cases nc
    refine ⟨by show 0 ≤ sizeLine; decide, fun q nq => ?_⟩
    have mq : m ≠ q := ne_of_none hm1 nq
    obtain ⟨cs, hc, hcl, hcb⟩ := f1
    have cq : c ≠ q := ne_of_none hc nq
    refine ⟨(upd_ne mq).trans hm1, [(Sum.inr "cells", .ref c), (Sum.inr "great", .ref q), (Sum.inr "spot", .int 0)], rfl, (show 3 ≤ 15 by decide), ?_⟩
    have hm1' : upd H1 q (.lst []) m = some (.dK []) := (upd_ne mq).trans hm1
    have hm2 : upd (upd H1 q (.lst [])) m (.dK (mergeK [] [(Sum.inr "cells", .ref c), (Sum.inr "great", .ref q), (Sum.inr "spot", .int 0)])) m = some (.dK [(Sum.inr "cells", .ref c), (Sum.inr "great", .ref q), (Sum.inr "spot", .int 0)]) := upd_same
    have k2 : Kp TT false [] H (upd (upd H1 q (.lst [])) m (.dK (mergeK [] [(Sum.inr "cells", .ref c), (Sum.inr "great", .ref q), (Sum.inr "spot", .int 0)]))) := (((Kp.new nm).trans k1).and_new nq).fresh (Kp.write hm1' List.mem_cons_self rfl rfl) nm
    have hc2 : upd (upd H1 q (.lst [])) m (.dK (mergeK [] [(Sum.inr "cells", .ref c), (Sum.inr "great", .ref q), (Sum.inr "spot", .int 0)])) c = _ := (upd_ne mc).trans ((upd_ne cq).trans hc)
    generalize upd (upd H1 q (.lst [])) m (.dK (mergeK [] [(Sum.inr "cells", .ref c), (Sum.inr "great", .ref q), (Sum.inr "spot", .int 0)])) = H2 at hm2 k2 hc2 ⊢
    refine ⟨_, rfl, a, rfl, ⟨_, sql_kp k2 hs⟩, fun g ng => ?_⟩
    refine lc_data (n := (ns.map V.int).length) (K := K) walk_list (ns.map fun z => PyData.int (if 10 ^ 18 ≤ z then z else 0)) (by rw [List.length_map, List.length_map]) (by rw [List.length_map]; exact Nat.lt_of_le_of_lt (by omega : _ ≤ 1000) (by decide)) ng (fun H3 e => sql_kp (k2.trans (.of_ex e)) hs) (fun i d x H3 H4 Kx hd e y kx => ?_) (fun H3 zs e hz tz => ?_)
    · obtain ⟨rfl, hx⟩ := y
      rw [List.getElem?_map] at hd hx
      obtain ⟨z, hj, rfl⟩ := Option.map_eq_some_iff.mp hd
      rw [hj] at hx
      obtain rfl := Option.some.inj hx
      refine ⟨rfl, _, rfl, _, _, rfl, rfl, ⟨by decide, by decide, by decide⟩, _, _, rfl, rfl, _, rfl, ?_⟩
      refine (show if decide ((10 : Int) ^ 18 ≤ z) = true then _ else _ from ?_)
      by_cases h : (10 : Int) ^ 18 ≤ z
      · refine iteD h ⟨_, rfl, ?_⟩
        exact kx _ _ (.refl _) (by rw [if_pos h]; exact .int _)
      · refine iteDF h ?_
        exact kx _ _ (.refl _) (by rw [if_neg h]; exact .int _)
    · have tz' : TpAll K H3 zs ((ns.map fun z => if 10 ^ 18 ≤ z then z else 0).map PyData.int) := by
        rw [List.map_map]
        exact tz
      obtain rfl := tz'.of_ints
      have gm : m ≠ g := ne_of_none hm2 ng
      have gc : c ≠ g := ne_of_none hc2 ng
      refine ⟨_, rfl, m, _, rfl, DPut.k (k := Sum.inr "great") (e _ _ hm2) (show (3 : Nat) < 2 ^ 24 by decide), _, rfl, ?_⟩
      have k3 := k2.trans (Kp.of_ex (T := TT) (b := false) (S := []) e)
      refine hQ m c g _ (k3.fresh (Kp.write (e _ _ hm2) List.mem_cons_self rfl rfl) nm) ⟨gc, upd_same, ⟨cs, (upd_ne mc).trans (e _ _ hc2), hcl, hcb⟩, ⟨_, (upd_ne (Ne.symm gm)).trans hz, by rw [List.length_map]; exact hns⟩⟩
end
end T93
-- M6
set_option maxHeartbeats 2000000
/-! T93, part M6: what the law counts by itself. -/
namespace T93
open PySem PySem.Spec PyProof.Rows L2
section
variable {P : Program} {w : World} {K : PySem.W.Frag} {mg : Str → Option Value} {base : Heap} {TT : List (Addr × Str)} {CL CT CB : Addr}

/-! ### _law_like -/
abbrev N49 : List Str := ["answer", "due"]
theorem sc49 : FnScope N49 ["answer", "due"] (defScope (top 49)) := ⟨rfl, rfl, rfl, by decide +kernel, rfl, by decide +kernel, by decide +kernel⟩
def spLike (K : PySem.W.Frag) : Sp := fun vs H Q _ => ∃ (u v : V) (d : PyData), vs = [u, v] ∧ Dp K H u d ∧ Dp K H v d ∧ Nice 40 100000 d ∧ Q (.bl true) H
theorem ok_like (T : Txt K mg) : GZ P w K mg base CX0 1 "_law_like" ["answer", "due"] (spLike K) := by
  have nd := sc49.nd
  refine gz (T.df (49, "_law_like") (by decide +kernel)) sc49 (fun _ _ _ _ _ _ us hl => match us, hl with | [_, _], _ => rfl) (fun vs H Q E h => ?_) (fun f cdv A outer s H vs Q E hr gd h => ?_)
  · obtain ⟨_, _, _, rfl, _⟩ := h
    rfl
  · obtain ⟨u, v, d, rfl, hu1, hv1, hn, hQ⟩ := h
    have mb_repr := T.no "repr" (by decide +kernel)
    refine ⟨_, (pss_one (ps_ret (pe_cmpR op_eq (pe_callB (call_reprD gd hr.units) rfl mb_repr (by decide +kernel) (pa_cons (pv 0) pa_nil)) (pe_callB (call_reprD gd hr.units) rfl mb_repr (by decide +kernel) (pa_cons (pv 1) pa_nil)) (nomark _)))), ?_⟩
    have sh := hn.shown (by decide)
    refine ⟨_, rfl, u, d, rfl, hu1, hn.sh, hn.noDict, hn.dep, sh, _, rfl, v, d, rfl, hv1, hn.sh, hn.noDict, hn.dep, sh, rfl, ?_⟩
    show Q (.bl (decide (V.str d.shown = V.str d.shown))) H
    rw [decide_eq_true rfl]
    exact hQ
/-! ### _law_is_due -/
abbrev N58 : List Str := ["t", "term", "phase"]
theorem sc58 : FnScope N58 ["t", "term", "phase"] (defScope (top 58)) := ⟨rfl, rfl, rfl, by decide +kernel, rfl, by decide +kernel, by decide +kernel⟩
def spIsDue : Sp := fun vs H Q _ => ∃ (t : Nat) (s : Seat), vs = [.int t, .int s.term, .int s.phase] ∧ 1 ≤ s.term ∧ Q (.bl (dueB t s)) H
theorem ok_is_due (T : Txt K mg) : GOk P w K mg base CX0 1 "_law_is_due" ["t", "term", "phase"] spIsDue := by
  have nd := sc58.nd
  refine gok (T.df (58, "_law_is_due") (by decide +kernel)) sc58 (fun _ _ _ _ _ _ us hl => match us, hl with | [_, _, _], _ => rfl) (fun vs H Q E h => ?_) (fun f cdv A outer s H vs Q E hr h => ?_)
  · obtain ⟨_, _, rfl, _⟩ := h
    rfl
  · obtain ⟨t, x, rfl, ht, hQ⟩ := h
    have mb_int := T.no "int" (by decide +kernel)
    refine ⟨_, (pss_one (ps_ret (pe_cmpR op_eq (pe_op op_mod (pe_callTy call_int1 rfl mb_int boot_int (pa_cons (pe_op op_sub (pe_op op_add (pv 0) (pv 1)) (pv 2)) pa_nil)) (pv 1)) (pe_int) (nomark _)))), ?_⟩
    refine ⟨_, rfl, _, rfl, _, _, rfl, rfl, _, rfl, _, _, rfl, rfl, .inl ⟨_, rfl, _, rfl, _, _, rfl, rfl, by show (0 : Int) < x.term; omega, ?_⟩⟩
    refine ⟨rfl, ?_⟩
    show Q (.bl (decide (V.int (((t : Int) + x.term - x.phase) % (x.term : Int)) = V.int 0))) H
    have e : decide (V.int (((t : Int) + x.term - x.phase) % (x.term : Int)) = V.int 0) = dueB t x := by
      unfold dueB
      rw [show ((t : Int) + x.term - x.phase) = (t : Int) - x.phase + x.term by omega, Int.add_emod_right]
      exact decide_eq_decide.mpr ⟨fun z => by injection z, fun z => by rw [z]⟩
    rw [e]
    exact hQ
/-! ### _law_side -/
def sg : Option Bool → Str
  | some b => lt b
  | none => "-"
def side3 (ls : List (Option Bool)) : Str := if ls.count (some true) = ls.count (some false) then "=" else lt (decide (ls.count (some false) < ls.count (some true)))
theorem sg_eq (o : Option Bool) (b : Bool) : decide (V.str (sg o) = V.str (lt b)) = decide (o = some b) := by
  cases o with
  | none => cases b <;> decide
  | some c => cases b <;> cases c <;> decide
theorem flt_count (b : Bool) : ∀ ls : List (Option Bool), (ls.map fun o => if o = some b then some (PyData.int 1) else none).filterMap id = (List.replicate (ls.count (some b)) 1).map PyData.int
  | [] => rfl
  | o :: r => by
    rw [List.map_cons, List.filterMap_cons]
    by_cases h : o = some b
    · rw [if_pos h, h, List.count_cons_self, List.replicate_succ, List.map_cons, ← flt_count b r]
      rfl
    · rw [if_neg h, List.count_cons_of_ne h]
      exact flt_count b r
theorem sum_ones : ∀ n : Nat, (List.replicate n (1 : Int)).sum = n
  | 0 => rfl
  | n + 1 => by
    rw [List.replicate_succ, List.sum_cons, sum_ones n]
    omega
abbrev N56 : List Str := ["letters", "many", "near", "far", "k"]
theorem sc56 : FnScope N56 ["letters", "many"] (defScope (top 56)) := ⟨rfl, rfl, rfl, by decide +kernel, rfl, by decide +kernel, by decide +kernel⟩
def spSide (K : PySem.W.Frag) : Sp := fun vs H Q _ => ∃ (l g : Addr) (ls : List (Option Bool)), vs = [.ref l, .ref g] ∧ SqL K H l (ls.map fun o => V.str (sg o)) ∧ SqL K H g (List.replicate ls.length (.int 1)) ∧ ls.length ≤ 1000 ∧
  ∀ H', Ex H H' → Q (.str (side3 ls)) H'
theorem sql_ex {K : PySem.W.Frag} {a : Addr} {xs : List V} {H H' : Hp} (k : Ex H H') (s : SqL K H a xs) : SqL K H' a xs := sql_kp (TT := []) (.of_ex k) s
theorem ok_side (T : Txt K mg) : GOk P w K mg base CX0 1 "_law_side" ["letters", "many"] (spSide K) := by
  have nd := sc56.nd
  refine gok (T.df (56, "_law_side") (by decide +kernel)) sc56 (fun _ _ _ _ _ _ us hl => match us, hl with | [_, _], _ => rfl) (fun vs H Q E h => ?_) (fun f cdv A outer s H vs Q E hr h => ?_)
  · obtain ⟨_, _, _, rfl, _⟩ := h
    rfl
  · obtain ⟨l, g, ls, rfl, hl, hg, hz, hQ⟩ := h
    have mb_len := T.no "len" (by decide +kernel)
    have mb_range := T.no "range" (by decide +kernel)
    have mb_sum := T.no "sum" (by decide +kernel)
    refine ⟨_, (pss_cons (ps_set (i := 2) nd rfl (Or.inl rfl) (pe_callB (cr_sum rfl) rfl mb_sum (by decide +kernel) (pa_cons (pe_lc (own := [("k", 4)]) rfl nd (pi_range1 rfl mb_range (pa_cons (pe_callB call_len_seq rfl mb_len PySem.boot_len (pa_cons (pv 0) pa_nil)) pa_nil)) (blkOk_by (own := [("k", 4)]) (N := ["letters", "many", "near", "far", "k"]) (sc := (defScope (top 56))) (by decide +kernel)) (fun _ _ _ _ _ => (pg_name (i := 4) nd rfl (Or.inl rfl))) (fun _ _ _ _ _ => (pts_one (pt_cmpR op_eq (pe_ix (ix_listK K rfl) (pv 0) (pv 4) (fun _ _ => rfl)) (pe_str) (nomark _)))) (fun _ _ _ _ _ => (pe_ix (ix_listK K rfl) (pv 1) (pv 4) (fun _ _ => rfl)))) pa_nil)))
       (pss_cons (ps_set (i := 3) nd rfl (Or.inl rfl) (pe_callB (cr_sum rfl) rfl mb_sum (by decide +kernel) (pa_cons (pe_lc (own := [("k", 4)]) rfl nd (pi_range1 rfl mb_range (pa_cons (pe_callB call_len_seq rfl mb_len PySem.boot_len (pa_cons (pv 0) pa_nil)) pa_nil)) (blkOk_by (own := [("k", 4)]) (N := ["letters", "many", "near", "far", "k"]) (sc := (defScope (top 56))) (by decide +kernel)) (fun _ _ _ _ _ => (pg_name (i := 4) nd rfl (Or.inl rfl))) (fun _ _ _ _ _ => (pts_one (pt_cmpR op_eq (pe_ix (ix_listK K rfl) (pv 0) (pv 4) (fun _ _ => rfl)) (pe_str) (nomark _)))) (fun _ _ _ _ _ => (pe_ix (ix_listK K rfl) (pv 1) (pv 4) (fun _ _ => rfl)))) pa_nil)))
       (pss_one (ps_ret (pe_ifExp (pt_cmpR op_eq (pv 2) (pv 3) (nomark _)) (pe_str) (pe_ifExp (pt_cmpR op_gt (pv 2) (pv 3) (nomark _)) (pe_str) (pe_str))))))), ?_⟩
    refine ⟨_, rfl, l, _, rfl, .inl hl, _, rfl, by rw [List.length_map]; omega, by rw [List.length_map]; omega, ?_⟩
    rw [List.length_map, Int.toNat_natCast]
    refine fun D nD => ?_
    refine lc_flt (n := ls.length) (K := K) walk_range (ls.map fun o => if o = some true then some (PyData.int 1) else none) (by rw [List.length_map]) (by rw [List.length_map]; exact Nat.lt_of_le_of_lt (by omega : _ ≤ 1000) (by decide)) nD (fun _ _ => True.intro) (fun i o x H2 H3 Kx Kn ho e y kx kn => ?_) (fun H2 zs e hz2 tz => ?_)
    · obtain ⟨rfl, rfl⟩ := y
      rw [List.getElem?_map] at ho
      obtain ⟨c, hc, rfl⟩ := Option.map_eq_some_iff.mp ho
      have hi : i < ls.length := (List.getElem?_eq_some_iff.mp hc).1
      show wipe _ _ = _ ∧ _
      have e0 : (0 : Int) + (i : Nat) = ((i : Nat) : Int) := by omega
      have hl2 := sql_ex (id e) hl
      have hg2 := sql_ex (id e) hg
      refine ⟨rfl, _, rfl, _, rfl, l, _, _, V.str (sg c), rfl, rfl, hl2, by rw [e0]; exact atI_nat (by rw [List.getElem?_map, hc]; rfl), rfl, _, rfl, ?_⟩
      refine (show if decide (V.str (sg c) = V.str (lt true)) = true then _ else _ from ?_)
      rw [sg_eq]
      by_cases h : c = some true
      · refine iteD h ?_
        exact ⟨_, rfl, _, rfl, g, _, _, V.int 1, rfl, rfl, hg2, by rw [e0]; exact atI_nat (by rw [List.getElem?_replicate, if_pos hi]), kx _ _ _ (if_pos h) (.refl _) (.int _)⟩
      · refine iteDF h ?_
        exact kn _ (if_neg h) (.refl _)
    rw [flt_count] at tz
    obtain rfl := tz.of_ints
    refine ⟨D, _, rfl, SqL.of hz2, ?_⟩
    rw [sum_ones]
    have e1 := e
    refine ⟨_, rfl, l, _, rfl, .inl (sql_ex e1 hl), _, rfl, by rw [List.length_map]; omega, by rw [List.length_map]; omega, ?_⟩
    rw [List.length_map, Int.toNat_natCast]
    refine fun D2 nD2 => ?_
    refine lc_flt (n := ls.length) (K := K) walk_range (ls.map fun o => if o = some false then some (PyData.int 1) else none) (by rw [List.length_map]) (by rw [List.length_map]; exact Nat.lt_of_le_of_lt (by omega : _ ≤ 1000) (by decide)) nD2 (fun _ _ => True.intro) (fun i o x H2 H3 Kx Kn ho e y kx kn => ?_) (fun H2 zs e hz2 tz => ?_)
    · obtain ⟨rfl, rfl⟩ := y
      rw [List.getElem?_map] at ho
      obtain ⟨c, hc, rfl⟩ := Option.map_eq_some_iff.mp ho
      have hi : i < ls.length := (List.getElem?_eq_some_iff.mp hc).1
      show wipe _ _ = _ ∧ _
      have e0 : (0 : Int) + (i : Nat) = ((i : Nat) : Int) := by omega
      have hl2 := sql_ex (e1.trans e) hl
      have hg2 := sql_ex (e1.trans e) hg
      refine ⟨rfl, _, rfl, _, rfl, l, _, _, V.str (sg c), rfl, rfl, hl2, by rw [e0]; exact atI_nat (by rw [List.getElem?_map, hc]; rfl), rfl, _, rfl, ?_⟩
      refine (show if decide (V.str (sg c) = V.str (lt false)) = true then _ else _ from ?_)
      rw [sg_eq]
      by_cases h : c = some false
      · refine iteD h ?_
        exact ⟨_, rfl, _, rfl, g, _, _, V.int 1, rfl, rfl, hg2, by rw [e0]; exact atI_nat (by rw [List.getElem?_replicate, if_pos hi]), kx _ _ _ (if_pos h) (.refl _) (.int _)⟩
      · refine iteDF h ?_
        exact kn _ (if_neg h) (.refl _)
    rw [flt_count] at tz
    obtain rfl := tz.of_ints
    refine ⟨D2, _, rfl, SqL.of hz2, ?_⟩
    rw [sum_ones]
    refine ⟨_, rfl, _, rfl, rfl, _, rfl, ?_⟩
    have q := hQ _ (e1.trans e)
    unfold side3 at q
    refine (show if decide (V.int (ls.count (some true) : Nat) = V.int (ls.count (some false) : Nat)) = true then _ else _ from ?_)
    by_cases h : ls.count (some true) = ls.count (some false)
    · rw [if_pos h] at q
      exact iteD (by rw [h]) q
    · rw [if_neg h] at q
      refine iteDF (fun z => h (by injection z with z; omega)) ⟨_, rfl, _, rfl, _, _, rfl, rfl, _, rfl, ?_⟩
      refine (show if decide (((ls.count (some false) : Nat) : Int) < (ls.count (some true) : Nat)) = true then _ else _ from ?_)
      by_cases h2 : ls.count (some false) < ls.count (some true)
      · rw [decide_eq_true h2] at q
        exact iteD (by omega) q
      · rw [decide_eq_false h2] at q
        exact iteDF (by omega) q
/-! ### _law_ones -/
theorem flat1 (x : V) : ∀ n : Nat, (List.replicate n [x]).flatten = List.replicate n x
  | 0 => rfl
  | n + 1 => by
    rw [List.replicate_succ, List.flatten_cons, flat1 x n]
    rfl
theorem tyes_go {te : TE} {σ : L2.St} {H : Hp} {Kx : V → Hp → Prop} {Kn : Hp → Prop} (q : te σ H Kx) : tYes σ H fun b H3 => if b = true then te σ H3 Kx else Kn H3 := by
  show if true = true then te σ H Kx else Kn H
  rw [if_pos rfl]
  exact q
def OnesAt (H : Hp) (g : Addr) (h : House) : Prop := ∃ zs : List V, H g = some (.lst zs) ∧ zs.length = h.bodies.length ∧ ∀ (i : Nat) (b : List Seat), h.bodies[i]? = some b → ∃ a, zs[i]? = some (.ref a) ∧ H a = some (.lst (List.replicate b.length (.int 1)))
abbrev N57 : List Str := ["house_so", "body"]
theorem sc57 : FnScope N57 ["house_so"] (defScope (top 57)) := ⟨rfl, rfl, rfl, by decide +kernel, rfl, by decide +kernel, by decide +kernel⟩
def spOnes (K : PySem.W.Frag) : Sp := fun vs H Q _ => ∃ (hv : V) (h : House), vs = [hv] ∧ Tp K H hv (dHouse h) ∧ h.Ok ∧ ∀ g H', Ex H H' → OnesAt H' g h → Q (.ref g) H'
theorem ok_ones (T : Txt K mg) : GOk P w K mg base CX0 1 "_law_ones" ["house_so"] (spOnes K) := by
  have nd := sc57.nd
  refine gok (T.df (57, "_law_ones") (by decide +kernel)) sc57 (fun _ _ _ _ _ _ us hl => match us, hl with | [_], _ => rfl) (fun vs H Q E h => ?_) (fun f cdv A outer s H vs Q E hr h => ?_)
  · obtain ⟨_, _, rfl, _⟩ := h
    rfl
  · obtain ⟨hv, h, rfl, th, ok, hQ⟩ := h
    have mb_len := T.no "len" (by decide +kernel)
    refine ⟨_, (pss_one (ps_ret (pe_lc (own := [("body", 1)]) rfl nd (pi_tup (pe_ix ix_tup (pv 0) (pe_int) (fun _ _ => rfl))) (blkOk_by (own := [("body", 1)]) (N := ["house_so", "body"]) (sc := (defScope (top 57))) (by decide +kernel)) (fun _ _ _ _ _ => (pg_name (i := 1) nd rfl (Or.inl rfl))) (fun _ _ _ _ _ => pts_nil) (fun _ _ _ _ _ => (pe_op op_rep (pe_lst (pa_cons (pe_int) pa_nil)) (pe_callB (call_lenK K rfl) rfl mb_len PySem.boot_len (pa_cons (pv 1) pa_nil))))))), ?_⟩
    obtain ⟨ah, hs, rfl, sh, th⟩ := th.tup_inv
    obtain ⟨bv, hb0, tb⟩ := th.get (i := 0) rfl
    obtain ⟨ab, bs, rfl, sb, tb⟩ := tb.tup_inv
    have hbl : bs.length = h.bodies.length := by rw [tb.len, List.length_map]
    obtain ⟨L, okL⟩ := ok
    have b3 := okL.b3
    refine ⟨_, rfl, ah, hs, 0, _, rfl, rfl, sh, atI_nat hb0, ab, rfl, ⟨_, sb⟩, fun D nD => ?_⟩
    refine lc_it walk_tup (fun i H' => Ex H H' ∧ ∃ zs : List V, H' D = some (.lst zs) ∧ zs.length = i ∧ ∀ (j : Nat) (b : List Seat), j < i → h.bodies[j]? = some b → ∃ a, zs[j]? = some (.ref a) ∧ a ≠ D ∧ H' a = some (.lst (List.replicate b.length (.int 1)))) ⟨.new nD, [], upd_same, rfl, fun j b hj => absurd hj (Nat.not_lt_zero j)⟩ (fun i H' _ p => SqT.kp (T := []) (b := false) (S := []) (.of_ex p.1) sb) (fun i x H2 H3 hi p y => ?_) (fun H2 p => ?_)
    · obtain ⟨e, zs, hz, hzl, hzs⟩ := p
      obtain ⟨rfl, hx⟩ := y
      obtain ⟨b, hb, tx⟩ := tb.getm hx
      obtain ⟨ax, ss, rfl, sx, ts⟩ := tx.tup_inv
      have ssl : ss.length = b.length := by rw [ts.len, List.length_map]
      have b9 := (okL.sz b (List.mem_of_getElem? hb)).2
      refine ⟨rfl, tyes_go ?_⟩
      refine ⟨by show 1 ≤ sizeLine; decide, fun p1 n1 => ?_⟩
      have e1 := (Evl.Ex.new (o := .lst [.int 1]) n1)
      have sx1 := SqT.kp (T := []) (b := false) (S := []) (.of_ex (e.trans e1)) sx
      refine ⟨_, rfl, ax, _, rfl, .inr sx1, p1, _, _, rfl, rfl, upd_same, by omega, by omega, ?_, fun p2 n2 => ?_⟩
      · show 1 * _ ≤ _
        exact Nat.le_trans (by omega : _ ≤ 9) (by decide)
      · have e2 := e1.trans (.new (o := .lst (List.replicate ((ss.length : Nat) : Int).toNat [V.int 1]).flatten) n2)
        have hz4 := e2 _ _ hz
        have nz : p2 ≠ D := fun z => by
          rw [z] at n2
          rw [e1 _ _ hz] at n2
          cases n2
        refine ⟨zs, hz4, Nat.lt_of_le_of_lt (by omega : _ ≤ 1000) (by decide), (e.trans e2).mut nD, _, upd_same, by rw [List.length_append, hzl]; rfl, fun j b' hj hb' => ?_⟩
        rcases Nat.lt_or_ge j i with l | l
        · obtain ⟨a, h1, h2, h3⟩ := hzs j b' l hb'
          exact ⟨a, by rw [List.getElem?_append_left (by omega)]; exact h1, h2, (upd_ne h2).trans (e2 _ _ h3)⟩
        · obtain rfl : j = i := by omega
          rw [hb] at hb'
          obtain rfl := Option.some.inj hb'
          refine ⟨p2, by rw [List.getElem?_append_right (by omega), hzl, Nat.sub_self]; rfl, nz, (upd_ne nz).trans ?_⟩
          rw [upd_same, Int.toNat_natCast, ssl, flat1]
    · obtain ⟨e, zs, hz, hzl, hzs⟩ := p
      exact hQ D _ e ⟨zs, hz, by rw [hzl, hbl], fun i b hb => by
        obtain ⟨a, h1, _, h3⟩ := hzs i b (by rw [hbl]; exact (List.getElem?_eq_some_iff.mp hb).1) hb
        exact ⟨a, h1, h3⟩⟩
end
end T93
-- M7
set_option maxHeartbeats 2000000
/-! T93, part M7: the year as the law counts it. -/
namespace T93
open PySem PySem.Spec PyProof.Rows L2
section
variable {P : Program} {w : World} {K : PySem.W.Frag} {mg : Str → Option Value} {base : Heap} {TT : List (Addr × Str)} {CL CT CB : Addr}

/-! ### plain -/
def mask (fl : Bool) (t : Nat) (r : Row) (b : List Seat) : List (Option Bool) := (r.zip b).map fun p => if fl && dueB t p.2 then none else some p.1
theorem count_some (c : Bool) : ∀ l : List Bool, (l.map some).count (some c) = l.count c
  | [] => rfl
  | a :: l => by
    rw [List.map_cons, List.count_cons, List.count_cons, count_some c l]
    cases a <;> cases c <;> rfl
theorem mask_false {t : Nat} {r : Row} {b : List Seat} (h : r.length = b.length) : mask false t r b = r.map some := by
  have e : (r.zip b).map Prod.fst = r := List.map_fst_zip (Nat.le_of_eq h)
  show (r.zip b).map (fun p => some p.1) = _
  rw [show (fun p : Bool × Seat => some p.1) = some ∘ Prod.fst from rfl, ← List.map_map, e]
theorem mask_count (c : Bool) (t : Nat) (r : Row) (b : List Seat) : (mask true t r b).count (some c) = (stay t r b).count c := by
  unfold mask stay
  induction r.zip b with
  | nil => rfl
  | cons p l ih =>
    rw [List.map_cons, List.filter_cons, List.count_cons, ih]
    cases h : dueB t p.2 with
    | true => simp
    | false => simp [List.count_cons]
theorem count_tf : ∀ l : List Bool, l.count false + l.count true = l.length
  | [] => rfl
  | a :: l => by
    rw [List.count_cons, List.count_cons, List.length_cons, ← count_tf l]
    cases a <;> simp <;> omega
theorem side3_most {ls : List (Option Bool)} {r : Row} (h : ∀ c, ls.count (some c) = r.count c) : side3 ls = mostS r := by
  have e := count_tf r
  unfold side3 mostS most ahead
  rw [h true, h false]
  by_cases z : r.count true = r.count false
  · rw [if_pos z, if_pos (by omega)]
  · rw [if_neg z, if_neg (by omega)]
    show lt _ = lt _
    congr 1
    exact decide_eq_decide.mpr (by omega)
theorem side3_mask {fl : Bool} {t : Nat} {r : Row} {b : List Seat} (h : r.length = b.length) : side3 (mask fl t r b) = mostS (if fl then stay t r b else r) := by
  cases fl with
  | true => exact side3_most fun c => mask_count c t r b
  | false =>
    rw [mask_false h]
    exact side3_most fun c => count_some c r
theorem step_set {α : Type} {new old : List α} {j : Nat} {x : α} (hl : new.length = old.length) (hj : new[j]? = some x) : (new.take j ++ old.drop j).set j x = new.take (j + 1) ++ old.drop (j + 1) := by
  have hn : j < new.length := (List.getElem?_eq_some_iff.mp hj).1
  have e : new.take (j + 1) = new.take j ++ [x] := by rw [List.take_succ, hj]; rfl
  have d : old.drop j = old[j]'(by omega) :: old.drop (j + 1) := List.drop_eq_getElem_cons (by omega)
  rw [e, d, List.set_append_right _ _ (by rw [List.length_take]; omega), List.length_take, Nat.min_eq_left (Nat.le_of_lt hn), Nat.sub_self, List.set_cons_zero, List.append_assoc]
  rfl
theorem step_keep {α : Type} {new old : List α} {j : Nat} {x : α} (hl : new.length = old.length) (hj : new[j]? = some x) (ho : old[j]? = some x) : new.take j ++ old.drop j = new.take (j + 1) ++ old.drop (j + 1) := by
  rw [← step_set hl hj]
  have hn : j < new.length := (List.getElem?_eq_some_iff.mp hj).1
  have d : old.drop j = x :: old.drop (j + 1) := by
    rw [List.drop_eq_getElem_cons (by omega)]
    rw [List.getElem?_eq_getElem (by omega)] at ho
    rw [Option.some.inj ho]
  rw [d, List.set_append_right _ _ (by rw [List.length_take]; omega), List.length_take, Nat.min_eq_left (Nat.le_of_lt hn), Nat.sub_self, List.set_cons_zero]
theorem sgs (r : Row) : ((txt r).cps.toList.map fun c => V.str ⟨#[c]⟩) = (r.map some).map fun o => V.str (sg o) := by
  rw [txt_l, List.map_map, List.map_map]
  refine List.map_congr_left fun b _ => ?_
  cases b <;> rfl
/-! ### _law_after -/
abbrev N59 : List Str := ["house_so", "many", "stand_so", "t", "vote", "found", "k", "row", "spot", "term", "phase", "way", "told_so", "far", "letters", "j", "seat"]
theorem sc59 : FnScope N59 ["house_so", "many", "stand_so", "t", "vote"] (defScope (top 59)) := ⟨rfl, rfl, rfl, by decide +kernel, rfl, by decide +kernel, by decide +kernel⟩
def spAfter (K : PySem.W.Frag) : Sp := fun vs H Q _ => ∃ (hv sv : V) (g : Addr) (h : House) (st : Stand) (t : Nat) (v : Row), vs = [hv, .ref g, sv, .int t, .str (txt v)] ∧ Tp K H hv (dHouse h) ∧ OnesAt H g h ∧ Tp K H sv (dStand st) ∧
  h.Ok ∧ Shape h st ∧ v.length = h.wards ∧ ∀ z H', Ex H H' → Tp K H' z (dStand (year h st t v)) → Q z H'
theorem ok_after (T : Txt K mg) : GOk P w K mg base CX0 2 "_law_after" ["house_so", "many", "stand_so", "t", "vote"] (spAfter K) := by
  have nd := sc59.nd
  have G__law_is_due := ok_is_due (P := P) (w := w) (base := base) T
  have G__law_side := ok_side (P := P) (w := w) (base := base) T
  refine gok (T.df (59, "_law_after") (by decide +kernel)) sc59 (fun _ _ _ _ _ _ us hl => match us, hl with | [_, _, _, _, _], _ => rfl) (fun vs H Q E h => ?_) (fun f cdv A outer s H vs Q E hr h => ?_)
  · obtain ⟨_, _, _, _, _, _, _, rfl, _⟩ := h
    rfl
  · obtain ⟨hv, sv, g, h, st, t, v, rfl, th, on, ts, ⟨L, ok⟩, sh, hvl, hQ⟩ := h
    have mb_len := T.no "len" (by decide +kernel)
    have mb_list := T.no "list" (by decide +kernel)
    have mb_range := T.no "range" (by decide +kernel)
    have mb_tuple := T.no "tuple" (by decide +kernel)
    refine ⟨_, (pss_cons (ps_set (i := 5) nd rfl (Or.inl rfl) (pe_lst pa_nil))
       (pss_cons (ps_for PassesOwn.never rfl (pi_range1 rfl mb_range (pa_cons (pe_callB call_len_seq rfl mb_len PySem.boot_len (pa_cons (pe_ix ix_tup (pv 0) (pe_int) (fun _ _ => rfl)) pa_nil)) pa_nil)) (pg_name (i := 6) nd rfl (Or.inl rfl)) (pss_cons (ps_set (i := 7) nd rfl (Or.inl rfl) (pe_str))
       (pss_cons (ps_for PassesOwn.never rfl (pi_range1 rfl mb_range (pa_cons (pe_callB call_len_seq rfl mb_len PySem.boot_len (pa_cons (pe_ix ix_tup (pe_ix ix_tup (pv 0) (pe_int) (fun _ _ => rfl)) (pv 6) (fun _ _ => rfl)) pa_nil)) pa_nil)) (pg_name (i := 8) nd rfl (Or.inl rfl)) (pss_cons (ps_asg (pe_slice sl_tupA (pe_ix ix_tup (pe_ix ix_tup (pe_ix ix_tup (pv 0) (pe_int) (fun _ _ => rfl)) (pv 6) (fun _ _ => rfl)) (pv 8) (fun _ _ => rfl)) po_none (po_some (pe_int))) (pg_tup rfl (pgs_cons (pg_name (i := 9) nd rfl (Or.inl rfl)) (pgs_cons (pg_name (i := 10) nd rfl (Or.inl rfl)) (pgs_cons (pg_name (i := 11) nd rfl (Or.inl rfl)) pgs_nil)))))
       (pss_cons (ps_set (i := 12) nd rfl (Or.inl rfl) (pe_str))
       (pss_cons (ps_if (PW.pt (pw_and (pt_val (pe_g G__law_is_due hr pass0 (pa_cons (pv 3) (pa_cons (pv 9) (pa_cons (pv 10) pa_nil))))) (pw_and1 (pt_cmpR op_eq (pe_ix ix_tup (pv 11) (pe_int) (fun _ _ => rfl)) (pe_str) (nomark _))))) (pss_one (ps_set (i := 12) nd rfl (Or.inl rfl) (pe_ix ix_str (pv 4) (pe_ix ix_tup (pv 11) (pe_int) (fun _ _ => rfl)) (fun _ _ => rfl)))) (pss_one (ps_if (PW.pt (pw_and (pt_val (pe_g G__law_is_due hr pass0 (pa_cons (pv 3) (pa_cons (pv 9) (pa_cons (pv 10) pa_nil))))) (pw_and1 (pt_cmpR op_in_seq (pe_ix ix_tup (pv 11) (pe_int) (fun _ _ => rfl)) (pe_tup (pa_cons (pe_str) (pa_cons (pe_str) pa_nil))) rfl)))) (pss_cons (ps_par (i := 13) (j := 14) rfl nd rfl rfl (by decide) rfl rfl (pa_cons (pe_ix ix_tup (pv 11) (pe_int) (fun _ _ => rfl)) (pa_cons (pe_listOfS rfl (by rfl) mb_list (pe_ix ix_tup (pv 2) (pe_ix ix_tup (pv 11) (pe_int) (fun _ _ => rfl)) (fun _ _ => rfl))) pa_nil)) rfl)
       (pss_cons (ps_for PassesOwn.never rfl (pi_range1 rfl mb_range (pa_cons (pe_callB call_len_seq rfl mb_len PySem.boot_len (pa_cons (pv 14) pa_nil)) pa_nil)) (pg_name (i := 15) nd rfl (Or.inl rfl)) (pss_cons (ps_set (i := 16) nd rfl (Or.inl rfl) (pe_ix ix_tup (pe_ix ix_tup (pe_ix ix_tup (pv 0) (pe_int) (fun _ _ => rfl)) (pv 13) (fun _ _ => rfl)) (pv 15) (fun _ _ => rfl)))
       (pss_one (ps_if (PW.pt (pw_and (pt_cmpR op_eq (pe_ix ix_tup (pv 11) (pe_int) (fun _ _ => rfl)) (pe_str) (nomark _)) (pw_and1 (pt_val (pe_g G__law_is_due hr pass0 (pa_cons (pv 3) (pa_cons (pe_ix ix_tup (pv 16) (pe_int) (fun _ _ => rfl)) (pa_cons (pe_ix ix_tup (pv 16) (pe_int) (fun _ _ => rfl)) pa_nil)))))))) (pss_one (ps_asg (pe_str) (pg_sub (pv 14) (pv 15) set_list))) pss_nil))))
       (pss_cons (ps_set (i := 12) nd rfl (Or.inl rfl) (pe_g G__law_side hr pass0 (pa_cons (pv 14) (pa_cons (pe_ix ix_list (pv 1) (pv 13) (fun _ _ => rfl)) pa_nil))))
       (pss_one (ps_if (pt_cmpR op_eq (pv 12) (pe_str) (nomark _)) (pss_one (ps_set (i := 12) nd rfl (Or.inl rfl) (pe_ifExp (pt_cmpR op_ne (pe_ix ix_tup (pv 11) (pe_int) (fun _ _ => rfl)) (pe_str) (nomark _)) (pe_ix ix_tup (pv 11) (pe_int) (fun _ _ => rfl)) (pe_str)))) pss_nil))))) pss_nil)))
       (pss_one (ps_set (i := 7) nd rfl (Or.inl rfl) (pe_op op_add_str (pv 7) (pe_ifExp (pt_cmpR op_ne (pv 12) (pe_str) (nomark _)) (pv 12) (pe_ix ix_str (pe_ix ix_tup (pv 2) (pv 6) (fun _ _ => rfl)) (pv 8) (fun _ _ => rfl))))))))))
       (pss_one (ps_expr (pe_bm PySem.F.plainAttrs_list PySem.F.slot_list_append PySem.F.type_list_append mt_append (pv 5) (pa_cons (pv 7) pa_nil)))))))
       (pss_one (ps_ret (pe_tupleOf rfl mb_tuple (pv 5)))))), ?_⟩
    obtain ⟨ah, hs, rfl, sh1, th1⟩ := th.tup_inv
    obtain ⟨_, _, rfl, h0, th1⟩ := th1.cons_inv
    obtain ⟨ab, bs, rfl, sb, tb⟩ := h0.tup_inv
    obtain ⟨as, rs, rfl, ss, tr⟩ := ts.tup_inv
    have b3 := ok.b3
    have hbl : bs.length = h.bodies.length := by rw [tb.len, List.length_map]
    have hrl : rs.length = h.bodies.length := by rw [tr.len, List.length_map, shape_len sh]
    have cv : ∀ {H' : Hp} {a : Addr} {xs : List V}, Ex H H' → SqT K H a xs → SqT K H' a xs := fun e s => SqT.kp (T := []) (b := false) (S := []) (.of_ex e) s
    have yl : (year h st t v).length = h.bodies.length := by
      unfold year
      rw [List.length_map, List.length_zip, shape_len sh, Nat.min_self]
    have a0 : ∀ {α : Type} {xs : List α} {i : Nat} {z : α}, xs[i]? = some z → atI xs ((0 : Int) + (i : Nat)) = some z := fun e => by
      rw [Int.zero_add]
      exact atI_nat e
    refine ⟨by show 0 ≤ sizeLine; decide, fun D hD => ?_⟩
    have x1 : Ex H (upd H D (.lst [])) := .new hD
    refine ⟨_, rfl, ah, _, _, _, rfl, rfl, cv x1 sh1, atI_nat (j := 0) rfl, ab, bs, rfl, .inr (cv x1 sb), _, rfl, by omega, by omega, ?_⟩
    rw [Int.toNat_natCast]
    refine for_it walk_range (fun i σ H' => Ex H H' ∧ H' D = some (.lst (((year h st t v).take i).map fun r => V.str (txt r))) ∧
      ∃ o6 o7 o8 o9 o10 o11 o12 o13 o14 o15 o16 : Option V, σ = [some (.ref ah), some (.ref g), some (.ref as), some (.int t), some (.str (txt v)), some (.ref D), o6, o7, o8, o9, o10, o11, o12, o13, o14, o15, o16]) ⟨x1, upd_same, _, _, _, _, _, _, _, _, _, _, _, rfl⟩ (fun i σ H' _ p => True.intro) (fun i x σ H1 H2 hi p y => ?_) (fun σ H' p => ?_)
    · obtain ⟨rfl, rfl⟩ := y
      obtain ⟨e1, hl, o6, o7, o8, o9, o10, o11, o12, o13, o14, o15, o16, rfl⟩ := p
      obtain ⟨b, hb⟩ : ∃ b, h.bodies[i]? = some b := ⟨_, List.getElem?_eq_getElem (by omega)⟩
      obtain ⟨vb, hvb, tvb⟩ := tb.get (i := i) (d := dBody b) (by rw [List.getElem?_map, hb]; rfl)
      obtain ⟨aq, zs, rfl, sq, tz⟩ := tvb.tup_inv
      obtain ⟨r, hr'⟩ : ∃ r, st[i]? = some r := ⟨_, List.getElem?_eq_getElem (by rw [shape_len sh]; omega)⟩
      obtain ⟨b', hb', hrb⟩ := shape_row sh hr'
      rw [hb] at hb'
      obtain rfl := Option.some.inj hb'
      obtain ⟨vr, hvr, tvr⟩ := tr.get (i := i) (d := dRow r) (by rw [List.getElem?_map, hr']; rfl)
      obtain rfl := tvr.str_inv
      have b9 := (ok.sz b (List.mem_of_getElem? hb)).2
      have hy : (year h st t v)[i]? = some ((b.zip r).map (seatYear h st t v)) := by
        unfold year
        rw [List.getElem?_map, zip_at hb hr']
        rfl
      have hzs : zs.length = b.length := by rw [tz.len, List.length_map]
      have hzl : ((b.zip r).map (seatYear h st t v)).length = r.length := by rw [List.length_map, List.length_zip, hrb, Nat.min_self]
      refine ⟨_, rfl, ah, _, _, _, rfl, rfl, cv e1 sh1, atI_nat (j := 0) rfl, _, rfl, ab, _, _, _, rfl, rfl, cv e1 sb, a0 hvb, aq, zs, rfl, .inr (cv e1 sq), _, rfl, by omega, by omega, ?_⟩
      rw [Int.toNat_natCast]
      refine for_it walk_range (fun j σ H' => Ex H H' ∧ H' D = some (.lst (((year h st t v).take i).map fun r => V.str (txt r))) ∧
        ∃ o8 o9 o10 o11 o12 o13 o14 o15 o16 : Option V, σ = [some (.ref ah), some (.ref g), some (.ref as), some (.int t), some (.str (txt v)), some (.ref D), some (.int (0 + (i : Nat))), some (.str (txt (((b.zip r).map (seatYear h st t v)).take j))), o8, o9, o10, o11, o12, o13, o14, o15, o16]) ⟨e1, hl, _, _, _, _, _, _, _, _, _, rfl⟩ (fun j σ H' _ p => True.intro) (fun j x σ H3 H4 hj p y => ?_) (fun σ H' p => ?_)
      · obtain ⟨rfl, rfl⟩ := y
        obtain ⟨e3, hl3, o8, o9, o10, o11, o12, o13, o14, o15, o16, rfl⟩ := p
        obtain ⟨q1, hq⟩ : ∃ q1, b[j]? = some q1 := ⟨_, List.getElem?_eq_getElem (by omega)⟩
        obtain ⟨b1, hb1⟩ : ∃ b1, r[j]? = some b1 := ⟨_, List.getElem?_eq_getElem (by omega)⟩
        obtain ⟨vq, hvq, tq⟩ := tz.get (i := j) (d := dSeat q1) (by rw [List.getElem?_map, hq]; rfl)
        obtain ⟨ay, ws, rfl, sy, tw⟩ := tq.tup_inv
        obtain ⟨_, _, rfl, w0, tw⟩ := tw.cons_inv
        obtain ⟨_, _, rfl, w1, tw⟩ := tw.cons_inv
        obtain ⟨wv, _, rfl, w2, tw⟩ := tw.cons_inv
        obtain rfl := tw.nil_inv
        obtain rfl := w0.int_inv
        obtain rfl := w1.int_inv
        have sok := ok.seats b (List.mem_of_getElem? hb) q1 (List.mem_of_getElem? hq)
        have hrow : ((b.zip r).map (seatYear h st t v))[j]? = some (seatYear h st t v (q1, b1)) := by rw [List.getElem?_map, zip_at hq hb1]; rfl
        have hrl' : (((b.zip r).map (seatYear h st t v)).take j).length ≤ 9 := by
          rw [List.length_take, hzl]
          omega
        refine ⟨_, rfl, ah, _, _, _, rfl, rfl, cv e3 sh1, atI_nat (j := 0) rfl, _, rfl, ab, _, _, _, rfl, rfl, cv e3 sb, a0 hvb, _, rfl, aq, _, _, _, rfl, rfl, cv e3 sq, a0 hvq, ?_⟩
        refine ⟨3, rfl, ay, _, rfl, cv e3 sy, fun _ => ?_, fun z => absurd ⟨rfl, rfl⟩ z⟩
        refine ⟨ay, _, rfl, cv e3 sy, rfl, _, _, rfl, _, _, rfl, _, _, rfl, rfl, ?_⟩
        refine ⟨_, rfl, _, rfl, _, rfl, t, q1, rfl, sok.one, _, rfl, ?_⟩
        by_cases hd : dueB t q1 = true
        · rw [hd]
          have hs : seatYear h st t v (q1, b1) = (tell h st t v q1.way).getD b1 := if_pos hd
          rw [hs] at hrow
          refine iteT ?_
          obtain ⟨aw, xw, rfl, sw, tw⟩ : ∃ aw xw, wv = V.ref aw ∧ SqT K H aw xw ∧ TpAll K H xw (match q1.way with
            | .ward i => [.str "ward", .int i]
            | .far r i y => [.str (if r then "rest" else "body"), .int i, .str (sideS y)]
            | .kept => [.str "kept"]) := by
            have w2 : Tp K H wv (dWay q1.way) := w2
            cases hw : q1.way <;> rw [hw] at w2 <;> exact w2.tup_inv
          have wok := sok.way
          cases hw : q1.way with
          | ward k =>
            rw [hw] at tw wok hrow
            obtain ⟨_, _, rfl, k0, tw⟩ := tw.cons_inv
            obtain ⟨_, _, rfl, k1, tw⟩ := tw.cons_inv
            obtain rfl := tw.nil_inv
            obtain rfl := k0.str_inv
            obtain rfl := k1.int_inv
            have wk : k < v.length := by rw [hvl]; exact wok
            obtain ⟨c, hc⟩ : ∃ c, v[k]? = some c := ⟨_, List.getElem?_eq_getElem wk⟩
            have et : tell h st t v (.ward k) = some c := hc
            rw [et] at hrow
            have w4 := ok.wd
            refine ⟨_, rfl, aw, _, _, _, rfl, rfl, cv e3 sw, atI_nat (j := 0) rfl, rfl, _, rfl, iteT ?_⟩
            refine ⟨_, rfl, _, rfl, aw, _, _, _, rfl, rfl, cv e3 sw, atI_nat (j := 1) rfl, txt v, _, if c = true then 97 else 98, rfl, rfl, ?_, ?_, ?_⟩
            · rw [txt_len]
              exact Nat.le_trans (by omega : _ ≤ 1000) (by decide)
            · refine atI_nat ?_
              rw [txt_l, List.getElem?_map, hc]
              rfl
            · rw [show (⟨#[if c = true then 97 else 98]⟩ : Str) = lt c by cases c <;> rfl]
              have e5 := e3
              have hl5 := hl3
              refine ⟨_, rfl, _, rfl, rfl, _, rfl, ?_⟩
              refine (show if (!decide (V.str (lt c) = V.str "")) = true then _ else _ from ?_)
              rw [show (!decide (V.str (lt c) = V.str "")) = true by cases c <;> decide]
              refine iteT ⟨_, rfl, _, _, rfl, rfl, ?_, e5, hl5, ?_⟩
              · rw [txt_len]
                have := lt_len c
                show _ + (lt c).length ≤ 2 ^ 24
                omega
              · rw [take_snoc hrow, ← txt_snoc]
                exact ⟨_, _, _, _, _, _, _, _, _, rfl⟩
          | kept =>
            rw [hw] at tw wok hrow
            obtain ⟨_, _, rfl, k0, tw⟩ := tw.cons_inv
            obtain rfl := tw.nil_inv
            obtain rfl := k0.str_inv
            refine ⟨_, rfl, aw, _, _, _, rfl, rfl, cv e3 sw, atI_nat (j := 0) rfl, rfl, _, rfl, iteF ?_⟩
            refine ⟨_, rfl, _, rfl, _, rfl, t, q1, rfl, sok.one, _, rfl, ?_⟩
            rw [hd]
            refine iteT ?_
            refine ⟨_, rfl, aw, _, _, _, rfl, rfl, cv e3 sw, atI_nat (j := 0) rfl, by show 2 ≤ sizeLine; decide, fun p2 hp2 => ⟨p2, _, rfl, .inr (SqT.of upd_same), rfl, rfl, _, rfl, iteF ?_⟩⟩
            have e4 := e3.trans (.new (o := .tup [V.str "body", V.str "rest"]) hp2)
            have hl4 : upd H4 p2 (.tup [V.str "body", V.str "rest"]) D = _ := (upd_ne (ne_of_none hl3 hp2)).trans hl3
            have e5 := e4
            have hl5 := hl4
            refine ⟨_, rfl, _, rfl, rfl, _, rfl, iteF ?_⟩
            refine ⟨_, rfl, _, rfl, as, _, _, _, rfl, rfl, cv e5 ss, a0 hvr, _, rfl, txt r, _, if b1 = true then 97 else 98, rfl, rfl, ?_, ?_, ?_⟩
            · show (txt r).length ≤ sizeLine
              rw [txt_len]
              exact Nat.le_trans (by omega : _ ≤ 1000) (by decide)
            · refine a0 ?_
              rw [txt_l, List.getElem?_map, hb1]
              rfl
            · rw [show (⟨#[if b1 = true then 97 else 98]⟩ : Str) = lt b1 by cases b1 <;> rfl]
              refine ⟨_, _, rfl, rfl, ?_, e5, hl5, ?_⟩
              · rw [txt_len, lt_len]
                show _ ≤ 2 ^ 24
                omega
              · rw [take_snoc hrow, ← txt_snoc]
                exact ⟨_, _, _, _, _, _, _, _, _, rfl⟩
          | far fl k y =>
            rw [hw] at tw wok hrow
            obtain ⟨_, _, rfl, k0, tw⟩ := tw.cons_inv
            obtain ⟨_, _, rfl, k1, tw⟩ := tw.cons_inv
            obtain ⟨_, _, rfl, k2, tw⟩ := tw.cons_inv
            obtain rfl := tw.nil_inv
            obtain rfl := k0.str_inv
            obtain rfl := k1.int_inv
            obtain rfl := k2.str_inv
            have hk : k < h.bodies.length := wok
            obtain ⟨c, hc⟩ : ∃ c, h.bodies[k]? = some c := ⟨_, List.getElem?_eq_getElem hk⟩
            obtain ⟨r0, hr0⟩ : ∃ r0, st[k]? = some r0 := ⟨_, List.getElem?_eq_getElem (by rw [shape_len sh]; exact hk)⟩
            obtain ⟨c', hc', hrc⟩ := shape_row sh hr0
            rw [hc] at hc'
            obtain rfl := Option.some.inj hc'
            have c9 := (ok.sz c (List.mem_of_getElem? hc)).2
            obtain ⟨vr, hvr0, tvr⟩ := tr.get (i := k) (d := dRow r0) (by rw [List.getElem?_map, hr0]; rfl)
            obtain rfl := tvr.str_inv
            obtain ⟨vc, hvc, tvc⟩ := tb.get (i := k) (d := dBody c) (by rw [List.getElem?_map, hc]; rfl)
            obtain ⟨ac, zc, rfl, sc, tzc⟩ := tvc.tup_inv
            have g1 : st.getD k [] = r0 := by rw [List.getD_eq_getElem?_getD, hr0]; rfl
            have g2 : h.bodies.getD k [] = c := by rw [List.getD_eq_getElem?_getD, hc]; rfl
            have et : tell h st t v (.far fl k y) = match most (if fl then stay t r0 c else r0) with
                | none => y
                | some b => some b := by
              show (match most (if fl then stay t (st.getD k []) (h.bodies.getD k []) else st.getD k []) with
                | none => y
                | some b => some b) = _
              rw [g1, g2]
            rw [et] at hrow
            have e2 : decide (V.str (if fl = true then "rest" else "body") = V.str "ward") = false := by cases fl <;> decide +kernel
            have e3' : inV (V.str (if fl = true then "rest" else "body")) [V.str "body", V.str "rest"] = true := by cases fl <;> decide +kernel
            have e4' : decide (V.str (if fl = true then "rest" else "body") = V.str "rest") = fl := by cases fl <;> decide +kernel
            refine ⟨_, rfl, aw, _, _, _, rfl, rfl, cv e3 sw, atI_nat (j := 0) rfl, rfl, _, rfl, ?_⟩
            rw [e2]
            refine iteF ?_
            refine ⟨_, rfl, _, rfl, _, rfl, t, q1, rfl, sok.one, _, rfl, ?_⟩
            rw [hd]
            refine iteT ?_
            refine ⟨_, rfl, aw, _, _, _, rfl, rfl, cv e3 sw, atI_nat (j := 0) rfl, by show 2 ≤ sizeLine; decide, fun p2 hp2 => ⟨p2, _, rfl, .inr (SqT.of upd_same), rfl, rfl, _, rfl, ?_⟩⟩
            refine (show if inV (V.str (if fl = true then "rest" else "body")) [V.str "body", V.str "rest"] = true then _ else _ from ?_)
            rw [e3']
            refine iteT ?_
            have e4 := e3.trans (.new (o := .tup [V.str "body", V.str "rest"]) hp2)
            have hl4 : upd H4 p2 (.tup [V.str "body", V.str "rest"]) D = _ := (upd_ne (ne_of_none hl3 hp2)).trans hl3
            refine ⟨_, rfl, aw, _, _, _, rfl, rfl, cv e4 sw, atI_nat (j := 1) rfl, _, rfl, _, rfl, aw, _, _, _, rfl, rfl, cv e4 sw, atI_nat (j := 1) rfl, as, _, _, _, rfl, rfl, cv e4 ss, atI_nat hvr0, txt r0, rfl, ?_, fun l nl => ?_⟩
            · show (txt r0).length ≤ sizeLine
              rw [txt_len]
              exact Nat.le_trans (by omega : _ ≤ 1000) (by decide)
            · have hlN : H l = none := by
                cases e : H l with
                | none => rfl
                | some o =>
                  rw [e4 _ _ e] at nl
                  cases nl
              rw [sgs]
              have e5 := e4.trans (.new (o := .lst ((r0.map some).map fun o => V.str (sg o))) nl)
              have hDl : D ≠ l := ne_of_none hl4 nl
              have hl5 : upd (upd H4 p2 (.tup [V.str "body", V.str "rest"])) l (.lst ((r0.map some).map fun o => V.str (sg o))) D = _ := (upd_ne hDl).trans hl4
              have lm : (mask fl t r0 c).length = (r0.map some).length := by
                unfold mask
                rw [List.length_map, List.length_zip, List.length_map, hrc, Nat.min_self]
              have lr : ((r0.map some).map fun o => V.str (sg o)).length = r0.length := by rw [List.length_map, List.length_map]
              refine ⟨_, _, rfl, _, rfl, l, _, rfl, .inl (SqL.of upd_same), _, rfl, by rw [lr]; omega, by rw [lr]; omega, ?_⟩
              rw [lr, Int.toNat_natCast]
              refine for_it walk_range (fun u σ H' => Ex H H' ∧ H' D = some (.lst (((year h st t v).take i).map fun r => V.str (txt r))) ∧ H' l = some (.lst (((mask fl t r0 c).take u ++ (r0.map some).drop u).map fun o => V.str (sg o))) ∧
                ∃ o15 o16 : Option V, σ = [some (.ref ah), some (.ref g), some (.ref as), some (.int t), some (.str (txt v)), some (.ref D), some (.int (0 + (i : Nat))), some (.str (txt (((b.zip r).map (seatYear h st t v)).take j))), some (.int (0 + (j : Nat))), some (.int q1.term), some (.int q1.phase), some (.ref aw), some (.str ""), some (.int k), some (.ref l), o15, o16]) ⟨e5, hl5, by rw [List.take_zero, List.drop_zero, List.nil_append]; exact upd_same, _, _, rfl⟩ (fun u σ H' _ p => True.intro) (fun u x σ H6 H7 hu p y => ?_) (fun σ H6 p => ?_)
              · obtain ⟨rfl, rfl⟩ := y
                obtain ⟨e6, hl6, hls, o15, o16, rfl⟩ := p
                have hu' : u < r0.length := hu
                obtain ⟨q0, hq0⟩ : ∃ q0, c[u]? = some q0 := ⟨_, List.getElem?_eq_getElem (by omega)⟩
                obtain ⟨b0, hb0⟩ : ∃ b0, r0[u]? = some b0 := ⟨_, List.getElem?_eq_getElem hu'⟩
                obtain ⟨vq0, hvq0, tq0⟩ := tzc.get (i := u) (d := dSeat q0) (by rw [List.getElem?_map, hq0]; rfl)
                obtain ⟨az, wz, rfl, sz, twz⟩ := tq0.tup_inv
                obtain ⟨_, _, rfl, w0, twz⟩ := twz.cons_inv
                obtain ⟨_, _, rfl, w1, twz⟩ := twz.cons_inv
                obtain rfl := w0.int_inv
                obtain rfl := w1.int_inv
                have sok0 := ok.seats c (List.mem_of_getElem? hc) q0 (List.mem_of_getElem? hq0)
                have hold : (r0.map some)[u]? = some (some b0) := by rw [List.getElem?_map, hb0]; rfl
                have hnew : (mask fl t r0 c)[u]? = some (if (fl && dueB t q0) = true then none else some b0) := by
                  unfold mask
                  rw [List.getElem?_map, zip_at hb0 hq0]
                  rfl
                refine ⟨_, rfl, ah, _, _, _, rfl, rfl, cv e6 sh1, atI_nat (j := 0) rfl, _, rfl, ab, _, _, _, rfl, rfl, cv e6 sb, atI_nat hvc, _, rfl, ac, _, _, _, rfl, rfl, cv e6 sc, a0 hvq0, ?_⟩
                refine ⟨_, rfl, aw, _, _, _, rfl, rfl, cv e6 sw, atI_nat (j := 0) rfl, rfl, _, rfl, ?_⟩
                refine (show if decide (V.str (if fl = true then "rest" else "body") = V.str "rest") = true then _ else _ from ?_)
                rw [e4']
                cases hfl : fl with
                | false =>
                  rw [hfl] at hnew hls
                  refine iteF (iteF ⟨e6, hl6, ?_, _, _, rfl⟩)
                  rw [← step_keep (by rw [← hfl]; exact lm) hnew hold]
                  exact hls
                | true =>
                  rw [hfl] at hnew hls
                  refine iteT ?_
                  refine ⟨_, rfl, _, rfl, az, _, _, _, rfl, rfl, cv e6 sz, atI_nat (j := 0) rfl, _, rfl, az, _, _, _, rfl, rfl, cv e6 sz, atI_nat (j := 1) rfl, t, q0, rfl, sok0.one, _, rfl, ?_⟩
                  cases hd0 : dueB t q0 with
                  | false =>
                    rw [hd0] at hnew
                    refine iteF ⟨e6, hl6, ?_, _, _, rfl⟩
                    rw [← step_keep (by rw [← hfl]; exact lm) hnew hold]
                    exact hls
                  | true =>
                    rw [hd0] at hnew
                    refine iteT ⟨_, rfl, _, rfl, l, _, _, u, rfl, rfl, hls, ?_, e6.mut hlN, (upd_ne hDl).trans hl6, ?_, _, _, rfl⟩
                    · rw [Int.zero_add]
                      refine ixN_nat ?_
                      have lm' : (mask true t r0 c).length = r0.length := by rw [← hfl, lm, List.length_map]
                      rw [List.length_map, List.length_append, List.length_take, List.length_drop, List.length_map, lm']
                      omega
                    · rw [upd_same, ← step_set (by rw [← hfl]; exact lm) hnew, List.map_set]
                      rfl
              · obtain ⟨e6, hl6, hls, o15, o16, rfl⟩ := p
                rw [List.take_of_length_le (by rw [lm, List.length_map]; exact Nat.le_refl _), List.drop_eq_nil_of_le (by rw [List.length_map]; exact Nat.le_refl _), List.append_nil] at hls
                obtain ⟨gz, hg0, hgl, hgs⟩ := on
                obtain ⟨ga, hga, hgo⟩ := hgs k c hc
                have ml : (mask fl t r0 c).length = c.length := by rw [lm, List.length_map, hrc]
                refine ⟨_, rfl, _, rfl, _, rfl, g, _, _, _, rfl, rfl, SqL.of (e6 _ _ hg0), atI_nat hga, l, ga, mask fl t r0 c, rfl, SqL.of hls, by rw [ml]; exact SqL.of (e6 _ _ hgo), by omega, fun H8 e8 => ?_⟩
                have e68 := e6.trans e8
                have hl8 := e8 _ _ hl6
                rw [side3_mask hrc]
                cases hm : most (if fl then stay t r0 c else r0) with
                | none =>
                  have em : mostS (if fl then stay t r0 c else r0) = "=" := by unfold mostS; rw [hm]
                  rw [em]
                  refine ⟨_, rfl, rfl, _, rfl, iteT ⟨_, rfl, aw, _, _, _, rfl, rfl, cv e68 sw, atI_nat (j := 2) rfl, rfl, _, rfl, ?_⟩⟩
                  cases y with
                  | none =>
                    have hrow : ((b.zip r).map (seatYear h st t v))[j]? = some b1 := by
                      rw [hm] at hrow
                      exact hrow
                    refine iteF ?_
                    have e5 := e68
                    have hl5 := hl8
                    refine ⟨_, rfl, _, rfl, rfl, _, rfl, iteF ?_⟩
                    refine ⟨_, rfl, _, rfl, as, _, _, _, rfl, rfl, cv e5 ss, a0 hvr, _, rfl, txt r, _, if b1 = true then 97 else 98, rfl, rfl, ?_, ?_, ?_⟩
                    · show (txt r).length ≤ sizeLine
                      rw [txt_len]
                      exact Nat.le_trans (by omega : _ ≤ 1000) (by decide)
                    · refine a0 ?_
                      rw [txt_l, List.getElem?_map, hb1]
                      rfl
                    · rw [show (⟨#[if b1 = true then 97 else 98]⟩ : Str) = lt b1 by cases b1 <;> rfl]
                      refine ⟨_, _, rfl, rfl, ?_, e5, hl5, ?_⟩
                      · rw [txt_len, lt_len]
                        show _ ≤ 2 ^ 24
                        omega
                      · rw [take_snoc hrow, ← txt_snoc]
                        exact ⟨_, _, _, _, _, _, _, _, _, rfl⟩
                  | some z =>
                    have hrow : ((b.zip r).map (seatYear h st t v))[j]? = some z := by
                      rw [hm] at hrow
                      exact hrow
                    refine (show if (!decide (V.str (lt z) = V.str "kept")) = true then _ else _ from ?_)
                    rw [show (!decide (V.str (lt z) = V.str "kept")) = true by cases z <;> decide +kernel]
                    refine iteT ⟨_, rfl, aw, _, _, _, rfl, rfl, cv e68 sw, atI_nat (j := 2) rfl, ?_⟩
                    have e5 := e68
                    have hl5 := hl8
                    refine ⟨_, rfl, _, rfl, rfl, _, rfl, ?_⟩
                    refine (show if (!decide (V.str (lt z) = V.str "")) = true then _ else _ from ?_)
                    rw [show (!decide (V.str (lt z) = V.str "")) = true by cases z <;> decide]
                    refine iteT ⟨_, rfl, _, _, rfl, rfl, ?_, e5, hl5, ?_⟩
                    · rw [txt_len]
                      have := lt_len z
                      show _ + (lt z).length ≤ 2 ^ 24
                      omega
                    · rw [take_snoc hrow, ← txt_snoc]
                      exact ⟨_, _, _, _, _, _, _, _, _, rfl⟩
                | some z =>
                  have em : mostS (if fl then stay t r0 c else r0) = lt z := by unfold mostS; rw [hm]
                  have hrow : ((b.zip r).map (seatYear h st t v))[j]? = some z := by
                    rw [hm] at hrow
                    exact hrow
                  rw [em]
                  refine ⟨_, rfl, rfl, _, rfl, ?_⟩
                  refine (show if decide (V.str (lt z) = V.str "=") = true then _ else _ from ?_)
                  rw [show decide (V.str (lt z) = V.str "=") = false by cases z <;> decide +kernel]
                  refine iteF ?_
                  have e5 := e68
                  have hl5 := hl8
                  refine ⟨_, rfl, _, rfl, rfl, _, rfl, ?_⟩
                  refine (show if (!decide (V.str (lt z) = V.str "")) = true then _ else _ from ?_)
                  rw [show (!decide (V.str (lt z) = V.str "")) = true by cases z <;> decide]
                  refine iteT ⟨_, rfl, _, _, rfl, rfl, ?_, e5, hl5, ?_⟩
                  · rw [txt_len]
                    have := lt_len z
                    show _ + (lt z).length ≤ 2 ^ 24
                    omega
                  · rw [take_snoc hrow, ← txt_snoc]
                    exact ⟨_, _, _, _, _, _, _, _, _, rfl⟩
        · rw [Bool.eq_false_iff.mpr hd]
          have hs : seatYear h st t v (q1, b1) = (none : Option Bool).getD b1 := if_neg hd
          rw [hs] at hrow
          refine iteF ?_
          refine ⟨_, rfl, _, rfl, _, rfl, t, q1, rfl, sok.one, _, rfl, ?_⟩
          rw [Bool.eq_false_iff.mpr hd]
          refine iteF ?_
          have e5 := e3
          have hl5 := hl3
          refine ⟨_, rfl, _, rfl, rfl, _, rfl, iteF ?_⟩
          refine ⟨_, rfl, _, rfl, as, _, _, _, rfl, rfl, cv e5 ss, a0 hvr, _, rfl, txt r, _, if b1 = true then 97 else 98, rfl, rfl, ?_, ?_, ?_⟩
          · show (txt r).length ≤ sizeLine
            rw [txt_len]
            exact Nat.le_trans (by omega : _ ≤ 1000) (by decide)
          · refine a0 ?_
            rw [txt_l, List.getElem?_map, hb1]
            rfl
          · rw [show (⟨#[if b1 = true then 97 else 98]⟩ : Str) = lt b1 by cases b1 <;> rfl]
            refine ⟨_, _, rfl, rfl, ?_, e5, hl5, ?_⟩
            · rw [txt_len, lt_len]
              show _ ≤ 2 ^ 24
              omega
            · rw [take_snoc hrow, ← txt_snoc]
              exact ⟨_, _, _, _, _, _, _, _, _, rfl⟩
      · obtain ⟨e3, hl3, o8, o9, o10, o11, o12, o13, o14, o15, o16, rfl⟩ := p
        rw [show zs.length = ((b.zip r).map (seatYear h st t v)).length by rw [hzs, hzl, hrb], List.take_length]
        refine ⟨_, rfl, .inl ⟨rfl, _, SqL.of hl3⟩, _, rfl, D, _, _, rfl, rfl, hl3, ?_, e3.mut hD, ?_, _, _, _, _, _, _, _, _, _, _, _, rfl⟩
        · rw [List.length_map, List.length_take, yl]
          exact Nat.lt_of_le_of_lt (Nat.le_trans (Nat.min_le_right _ _) b3) (by decide)
        · rw [upd_same, take_snoc hy, List.map_append]
          rfl
    · obtain ⟨e1, hl, o6, o7, o8, o9, o10, o11, o12, o13, o14, o15, o16, rfl⟩ := p
      rw [show bs.length = (year h st t v).length by rw [hbl, yl], List.take_length] at hl
      refine ⟨_, rfl, .inl ⟨D, _, rfl, SqL.of hl, fun q hq => hQ _ _ (e1.trans (.new hq)) (Tp.new (tp_rows _) hq)⟩⟩
end
end T93
-- M8
set_option maxHeartbeats 2000000
/-! T93, part M8: the law keeps its own deeds. -/
namespace T93
open PySem PySem.Spec PyProof.Rows L2
section
variable {P : Program} {w : World} {K : PySem.W.Frag} {mg : Str → Option Value} {base : Heap} {TT : List (Addr × Str)} {CL CT CB : Addr}

def OwnAt (K : PySem.W.Frag) (H : Hp) (O : Addr) (st : LedSt) : Prop := ∃ (p q : Addr) (ps qs : List V), H O = some (.dK [(Sum.inr "past", .ref p), (Sum.inr "later", .ref q)]) ∧ H p = some (.lst ps) ∧ TpAll K H ps (st.past.map dEntry) ∧ H q = some (.lst qs) ∧ TpAll K H qs (st.later.map dEntry)
theorem soft_es {H : Hp} {zs : List V} {l : List Entry} (t : TpAll K H zs (l.map dEntry)) (b : Bool) : Soft b (.lst zs) = false := soft_l t (fun d hd => by
  obtain ⟨e, _, rfl⟩ := List.mem_map.mp hd
  rfl) b
/-- an address that holds no list -/
def NoL (H : Hp) (S : List Addr) : Prop := ∀ a ∈ S, ∀ xs : List V, H a ≠ some (.lst xs)
theorem OwnAt.kp {H H' : Hp} {O : Addr} {st : LedSt} {b : Bool} {S : List Addr} (h : OwnAt K H O st) (k : Kp TT b S H H') (n : O ∉ S) (hS : NoL H S) : OwnAt K H' O st := by
  obtain ⟨p, q, ps, qs, h0, hp, tp, hq, tq⟩ := h
  exact ⟨p, q, ps, qs, k.keep _ _ h0 n rfl, k.keep _ _ hp (fun z => hS p z _ hp) (soft_es tp b), tp.kp k, k.keep _ _ hq (fun z => hS q z _ hq) (soft_es tq b), tq.kp k⟩
theorem OwnAt.ex {H H' : Hp} {O : Addr} {st : LedSt} (h : OwnAt K H O st) (e : Ex H H') : OwnAt K H' O st := h.kp (TT := []) (b := false) (S := []) (.of_ex e) List.not_mem_nil (fun _ z => absurd z List.not_mem_nil)
theorem TpAll.cut {H : Hp} {vs : List V} {ds : List PyData} {lo hi : Option Int} (t : TpAll K H vs ds) : TpAll K H (cutV vs lo hi) (cutL ds lo hi) := by
  unfold cutV cutL
  rw [← t.len]
  exact (t.drop _).take _
/-! ### _law_gone_back -/
theorem sc60 : FnScope ["own"] ["own"] (defScope (top 60)) := ⟨rfl, rfl, rfl, by decide +kernel, rfl, by decide +kernel, by decide +kernel⟩
def spGoneBack (K : PySem.W.Frag) (TT : List (Addr × Str)) (B : Nat) : Sp := fun vs H Q _ => ∃ O st, vs = [.ref O] ∧ OwnAt K H O st ∧ Good B st ∧ B ≤ 1000 ∧ ∀ H', Kp TT false [O] H H' → OwnAt K H' O st.back → Q (.bl (!st.rest.isEmpty)) H'
theorem ok_gone_back (T : Txt K mg) {B : Nat} : GOk P w K mg base CX0 1 "_law_gone_back" ["own"] (spGoneBack K TT B) := by
  have nd := sc60.nd
  refine gok (T.df (60, "_law_gone_back") (by decide +kernel)) sc60 (fun _ _ _ _ _ _ us hl => match us, hl with | [_], _ => rfl) (fun vs H Q E h => ?_) (fun f cdv A outer s H vs Q E hr h => ?_)
  · obtain ⟨_, _, rfl, _⟩ := h
    rfl
  · obtain ⟨O, st, rfl, own, g, hB, hQ⟩ := h
    have mb_len := T.no "len" (by decide +kernel)
    have hu := hu_of hr
    refine ⟨_, (pss_cons (ps_if (pt_cmpR op_eq (pe_callB call_len_seq rfl mb_len PySem.boot_len (pa_cons (pe_dget hu (pv 0) (pe_str) (fun _ _ => rfl)) pa_nil)) (pe_int) (nomark _)) (pss_one (ps_ret (pe_bl))) pss_nil)
       (pss_cons (ps_dput hu (pv 0) (pe_str) (pe_op op_cat (pe_slice sl_list (pe_dget hu (pv 0) (pe_str) (fun _ _ => rfl)) (po_some (pe_un un_neg (pe_int))) po_none) (pe_dget hu (pv 0) (pe_str) (fun _ _ => rfl))) rfl)
       (pss_cons (ps_dput hu (pv 0) (pe_str) (pe_slice sl_list (pe_dget hu (pv 0) (pe_str) (fun _ _ => rfl)) po_none (po_some (pe_un un_neg (pe_int)))) rfl)
       (pss_one (ps_ret (pe_bl)))))), ?_⟩
    obtain ⟨p, q, ps, qs, h0, hp, tp, hq, tq⟩ := own
    have hpl : ps.length = st.rest.length + 1 := by rw [tp.len, List.length_map]; rfl
    have hql : qs.length = st.later.length := by rw [tq.len, List.length_map]
    have hg := g.len
    refine ⟨_, rfl, O, .ref p, rfl, DGet.k (k := Sum.inr "past") h0, p, _, rfl, .inl (SqL.of hp), rfl, _, rfl, ?_⟩
    refine (show if decide (V.int ((ps.length : Nat) : Int) = V.int 1) = true then _ else _ from ?_)
    rcases rest_cases st.rest with hr0 | ⟨r, e, hre⟩
    · refine iteD (by rw [hpl, hr0]; rfl) ?_
      have q' := hQ H (.refl) (by rw [back_nil hr0]; exact ⟨p, q, ps, qs, h0, hp, tp, hq, tq⟩)
      rw [hr0] at q'
      exact q'
    · refine iteDF (fun z => by
        injection z with z
        rw [hpl, hre, List.length_append] at z
        simp at z
        omega) ?_
      have ep : st.past.map dEntry = (st.first :: r).map dEntry ++ [dEntry e] := by
        show (st.first :: st.rest).map dEntry = _
        rw [hre, List.map_cons, List.map_append, List.map_cons]
        rfl
      refine ⟨_, rfl, O, .ref p, rfl, DGet.k (k := Sum.inr "past") h0, _, rfl, _, rfl, p, ps, rfl, SqL.of hp, fun n1 w1 => ?_⟩
      have e1 := Evl.Ex.new (o := .lst (cutV ps (some (-1)) none)) w1
      have c1 : (cutV ps (some (-1)) none).length ≤ ps.length := cutV_length _ _ _
      refine ⟨_, rfl, O, .ref q, rfl, DGet.k (k := Sum.inr "later") (e1 _ _ h0), n1, q, _, _, rfl, rfl, upd_same, e1 _ _ hq, Nat.le_trans (by omega : _ ≤ 10000) (by decide), fun n2 w2 => ?_⟩
      have e2 := e1.trans (.new (o := .lst (cutV ps (some (-1)) none ++ qs)) w2)
      refine ⟨_, rfl, O, _, rfl, DPut.k (k := Sum.inr "later") (e2 _ _ h0) (show (2 : Nat) < 2 ^ 24 by decide), ?_⟩
      have k3 := (Kp.of_ex (T := TT) (b := false) (S := [O]) e2).trans (.write (o := .dK (putK [(Sum.inr "past", V.ref p), (Sum.inr "later", V.ref q)] (Sum.inr "later") (.ref n2))) (e2 _ _ h0) List.mem_cons_self rfl rfl)
      have h3 : upd (upd (upd H n1 (.lst (cutV ps (some (-1)) none))) n2 (.lst (cutV ps (some (-1)) none ++ qs))) O (.dK (putK [(Sum.inr "past", V.ref p), (Sum.inr "later", V.ref q)] (Sum.inr "later") (.ref n2))) O = some (.dK [(Sum.inr "past", V.ref p), (Sum.inr "later", V.ref n2)]) := upd_same
      have np : p ≠ O := ne_of hp h0 (by intro z; cases z)
      have n2O : n2 ≠ O := fun z => by
        rw [z, e1 _ _ h0] at w2
        cases w2
      have hp3 := (upd_ne (o := .dK (putK [(Sum.inr "past", V.ref p), (Sum.inr "later", V.ref q)] (Sum.inr "later") (.ref n2))) np).trans (e2 _ _ hp)
      have hn3 : upd (upd (upd H n1 (.lst (cutV ps (some (-1)) none))) n2 (.lst (cutV ps (some (-1)) none ++ qs))) O (.dK (putK [(Sum.inr "past", V.ref p), (Sum.inr "later", V.ref q)] (Sum.inr "later") (.ref n2))) n2 = _ := (upd_ne n2O).trans upd_same
      generalize upd (upd (upd H n1 (.lst (cutV ps (some (-1)) none))) n2 (.lst (cutV ps (some (-1)) none ++ qs))) O (.dK (putK [(Sum.inr "past", V.ref p), (Sum.inr "later", V.ref q)] (Sum.inr "later") (.ref n2))) = H3 at h3 k3 hp3 hn3 ⊢
      refine ⟨_, rfl, O, .ref p, rfl, DGet.k (k := Sum.inr "past") h3, _, rfl, _, rfl, p, ps, rfl, SqL.of hp3, fun n4 w4 => ?_⟩
      have e4 := Evl.Ex.new (o := .lst (cutV ps none (some (-1)))) w4
      refine ⟨_, rfl, O, _, rfl, DPut.k (k := Sum.inr "past") (e4 _ _ h3) (show (2 : Nat) < 2 ^ 24 by decide), ?_⟩
      have k5 := k3.trans ((Kp.of_ex (T := TT) (b := false) (S := [O]) e4).trans (.write (o := .dK (putK [(Sum.inr "past", V.ref p), (Sum.inr "later", V.ref n2)] (Sum.inr "past") (.ref n4))) (e4 _ _ h3) List.mem_cons_self rfl rfl))
      have n4O : n4 ≠ O := fun z => by
        rw [z, h3] at w4
        cases w4
      have q' := hQ _ k5 (by
        rw [back_app hre]
        have t1 : TpAll K H (cutV ps none (some (-1))) ((st.first :: r).map dEntry) := by
          have := tp.cut (lo := none) (hi := some (-1))
          rw [ep, cut_m1, List.dropLast_concat] at this
          exact this
        have t2 : TpAll K H (cutV ps (some (-1)) none ++ qs) ((e :: st.later).map dEntry) := by
          have := tp.cut (lo := some (-1)) (hi := none)
          rw [ep, cut_l1] at this
          exact this.append tq
        exact ⟨n4, n2, _, _, upd_same, (upd_ne n4O).trans upd_same, t1.kp k5, (upd_ne n2O).trans (e4 _ _ hn3), t2.kp k5⟩)
      rw [hre] at q'
      have en : (r ++ [e]).isEmpty = false := by cases r <;> rfl
      rw [en] at q'
      exact q'
end
end T93
-- M9
set_option maxHeartbeats 2000000
/-! T93, part M9: the law keeps its own deeds, on. -/
namespace T93
open PySem PySem.Spec PyProof.Rows L2
section
variable {P : Program} {w : World} {K : PySem.W.Frag} {mg : Str → Option Value} {base : Heap} {TT : List (Addr × Str)} {CL CT CB : Addr}

/-! ### _law_gone_on -/
theorem sc61 : FnScope ["own"] ["own"] (defScope (top 61)) := ⟨rfl, rfl, rfl, by decide +kernel, rfl, by decide +kernel, by decide +kernel⟩
def spGoneOn (K : PySem.W.Frag) (TT : List (Addr × Str)) (B : Nat) : Sp := fun vs H Q _ => ∃ O st, vs = [.ref O] ∧ OwnAt K H O st ∧ Good B st ∧ B ≤ 1000 ∧ ∀ H', Kp TT false [O] H H' → OwnAt K H' O st.on → Q (.bl (!st.later.isEmpty)) H'
theorem ok_gone_on (T : Txt K mg) {B : Nat} : GOk P w K mg base CX0 1 "_law_gone_on" ["own"] (spGoneOn K TT B) := by
  have nd := sc61.nd
  refine gok (T.df (61, "_law_gone_on") (by decide +kernel)) sc61 (fun _ _ _ _ _ _ us hl => match us, hl with | [_], _ => rfl) (fun vs H Q E h => ?_) (fun f cdv A outer s H vs Q E hr h => ?_)
  · obtain ⟨_, _, rfl, _⟩ := h
    rfl
  · obtain ⟨O, st, rfl, own, g, hB, hQ⟩ := h
    have hu := hu_of hr
    refine ⟨_, (pss_cons (ps_if (pt_cmpR (op_eqD hr.units) (pe_dget hu (pv 0) (pe_str) (fun _ _ => rfl)) (pe_lst pa_nil) (nomark _)) (pss_one (ps_ret (pe_bl))) pss_nil)
       (pss_cons (ps_dput hu (pv 0) (pe_str) (pe_op op_cat (pe_dget hu (pv 0) (pe_str) (fun _ _ => rfl)) (pe_slice sl_list (pe_dget hu (pv 0) (pe_str) (fun _ _ => rfl)) po_none (po_some (pe_int)))) rfl)
       (pss_cons (ps_dput hu (pv 0) (pe_str) (pe_slice sl_list (pe_dget hu (pv 0) (pe_str) (fun _ _ => rfl)) (po_some (pe_int)) po_none) rfl)
       (pss_one (ps_ret (pe_bl)))))), ?_⟩
    obtain ⟨p, q, ps, qs, h0, hp, tp, hq, tq⟩ := id own
    have hpl : ps.length = st.rest.length + 1 := by rw [tp.len, List.length_map]; rfl
    have hql : qs.length = st.later.length := by rw [tq.len, List.length_map]
    have hg := g.len
    have nl := nice_entries fun e he => (g.l e he).1
    refine ⟨_, rfl, O, .ref q, rfl, DGet.k (k := Sum.inr "later") h0, by show 0 ≤ sizeLine; decide, fun n0 w0 => ⟨.list (st.later.map dEntry), .list [], .lst (SqL.of ((upd_ne (ne_of_none hq w0)).trans hq)) (tq.ex (.new w0)).dp, .lst (SqL.of upd_same) .nil, (Nice.lst nl).shaped (by decide), rfl, _, rfl, ?_⟩⟩
    have e0 : Ex H (upd H n0 (.lst [])) := .new w0
    cases hc : st.later with
    | nil =>
      refine iteT ?_
      have z := hQ _ (.of_ex e0) (by
        have : st.on = st := by unfold LedSt.on; rw [hc]
        rw [this]
        exact own.ex e0)
      rw [hc] at z
      exact z
    | cons e l =>
      refine iteF ?_
      rw [hc] at tq
      have h1 := e0 _ _ h0
      have hq1 := e0 _ _ hq
      have hp1 := e0 _ _ hp
      refine ⟨_, rfl, O, .ref p, rfl, DGet.k (k := Sum.inr "past") h1, _, rfl, O, .ref q, rfl, DGet.k (k := Sum.inr "later") h1, 1, rfl, q, qs, rfl, SqL.of hq1, fun n1 w1 => ?_⟩
      have e1 := e0.trans (.new (o := .lst (cutV qs none (some 1))) w1)
      have c1 : (cutV qs none (some 1)).length ≤ qs.length := cutV_length _ _ _
      refine ⟨p, n1, _, _, rfl, rfl, e1 _ _ hp, upd_same, Nat.le_trans (by omega : _ ≤ 10000) (by decide), fun n2 w2 => ?_⟩
      have e2 := e1.trans (.new (o := .lst (ps ++ cutV qs none (some 1))) w2)
      have h2 := e2 _ _ h0
      have n2O : n2 ≠ O := fun z => by
        rw [z, e1 _ _ h0] at w2
        cases w2
      have hn2 : upd (upd (upd H n0 (.lst [])) n1 (.lst (cutV qs none (some 1)))) n2 (.lst (ps ++ cutV qs none (some 1))) n2 = some (.lst (ps ++ cutV qs none (some 1))) := upd_same
      generalize upd (upd (upd H n0 (.lst [])) n1 (.lst (cutV qs none (some 1)))) n2 (.lst (ps ++ cutV qs none (some 1))) = H2 at e2 h2 hn2 ⊢
      refine ⟨_, rfl, O, _, rfl, DPut.k (k := Sum.inr "past") h2 (show (2 : Nat) < 2 ^ 24 by decide), ?_⟩
      have k3 := (Kp.of_ex (T := TT) (b := false) (S := [O]) e2).trans (.write (o := .dK (putK [(Sum.inr "past", V.ref p), (Sum.inr "later", V.ref q)] (Sum.inr "past") (.ref n2))) h2 List.mem_cons_self rfl rfl)
      have h3 : upd H2 O (.dK (putK [(Sum.inr "past", V.ref p), (Sum.inr "later", V.ref q)] (Sum.inr "past") (.ref n2))) O = some (.dK [(Sum.inr "past", V.ref n2), (Sum.inr "later", V.ref q)]) := upd_same
      have nq : q ≠ O := ne_of hq h0 (by intro z; cases z)
      have hq3 := (upd_ne (o := .dK (putK [(Sum.inr "past", V.ref p), (Sum.inr "later", V.ref q)] (Sum.inr "past") (.ref n2))) nq).trans (e2 _ _ hq)
      have hn3 := (upd_ne (o := .dK (putK [(Sum.inr "past", V.ref p), (Sum.inr "later", V.ref q)] (Sum.inr "past") (.ref n2))) n2O).trans hn2
      generalize upd H2 O (.dK (putK [(Sum.inr "past", V.ref p), (Sum.inr "later", V.ref q)] (Sum.inr "past") (.ref n2))) = H3 at h3 k3 hq3 hn3 ⊢
      refine ⟨_, rfl, O, .ref q, rfl, DGet.k (k := Sum.inr "later") h3, 1, rfl, q, qs, rfl, SqL.of hq3, fun n4 w4 => ?_⟩
      have e4 := Evl.Ex.new (o := .lst (cutV qs (some 1) none)) w4
      refine ⟨_, rfl, O, _, rfl, DPut.k (k := Sum.inr "later") (e4 _ _ h3) (show (2 : Nat) < 2 ^ 24 by decide), ?_⟩
      have k5 := k3.trans ((Kp.of_ex (T := TT) (b := false) (S := [O]) e4).trans (.write (o := .dK (putK [(Sum.inr "past", V.ref n2), (Sum.inr "later", V.ref q)] (Sum.inr "later") (.ref n4))) (e4 _ _ h3) List.mem_cons_self rfl rfl))
      have n4O : n4 ≠ O := fun z => by
        rw [z, h3] at w4
        cases w4
      have on : st.on = ⟨st.first, st.rest ++ [e], l⟩ := by
        unfold LedSt.on
        rw [hc]
      have q' := hQ _ k5 (by
        rw [on]
        have t1 : TpAll K H (cutV qs (some 1) none) (l.map dEntry) := by
          have := tq.cut (lo := some ((1 : Nat) : Int)) (hi := none)
          rw [cut_from] at this
          exact this
        have t2 : TpAll K H (ps ++ cutV qs none (some 1)) ((st.first :: (st.rest ++ [e])).map dEntry) := by
          have := tq.cut (lo := none) (hi := some ((1 : Nat) : Int))
          rw [cut_to] at this
          have z := tp.append this
          rw [List.map_cons, List.map_append]
          exact z
        exact ⟨n2, n4, _, _, upd_same, (upd_ne n2O).trans (e4 _ _ hn3), t2.kp k5, (upd_ne n4O).trans upd_same, t1.kp k5⟩)
      rw [hc] at q'
      exact q'
/-! ### _law_copied -/
theorem sc62 : FnScope ["own"] ["own"] (defScope (top 62)) := ⟨rfl, rfl, rfl, by decide +kernel, rfl, by decide +kernel, by decide +kernel⟩
def spCopied (K : PySem.W.Frag) (TT : List (Addr × Str)) : Sp := fun vs H Q _ => ∃ O st, vs = [.ref O] ∧ OwnAt K H O st ∧ ∀ O2 H', H O2 = none → Kp TT false [] H H' → OwnAt K H' O2 st → Q (.ref O2) H'
theorem ok_copied (T : Txt K mg) : GOk P w K mg base CX0 1 "_law_copied" ["own"] (spCopied K TT) := by
  have nd := sc62.nd
  refine gok (T.df (62, "_law_copied") (by decide +kernel)) sc62 (fun _ _ _ _ _ _ us hl => match us, hl with | [_], _ => rfl) (fun vs H Q E h => ?_) (fun f cdv A outer s H vs Q E hr h => ?_)
  · obtain ⟨_, _, rfl, _⟩ := h
    rfl
  · obtain ⟨O, st, rfl, own, hQ⟩ := h
    have hu := hu_of hr
    refine ⟨_, (pss_one (ps_ret (pe_disp (pps_cons (pe_str) (pe_dget hu (pv 0) (pe_str) (fun _ _ => rfl)) (pps_cons (pe_str) (pe_dget hu (pv 0) (pe_str) (fun _ _ => rfl)) pps_nil)) (by rfl) (by rfl) (fun z => by cases z) (by decide)))), ?_⟩
    obtain ⟨p, q, ps, qs, h0, hp, tp, hq, tq⟩ := own
    refine fun n hn => ?_
    have e1 : Ex H (upd H n (.dK [])) := .new hn
    have e2 : Ex H (upd (upd H n (.dK [])) n (.dK (mergeK [] [(Sum.inr "past", .ref p), (Sum.inr "later", .ref q)]))) := e1.mut hn
    refine ⟨_, rfl, O, .ref p, rfl, DGet.k (k := Sum.inr "past") (e1 _ _ h0), _, rfl, O, .ref q, rfl, DGet.k (k := Sum.inr "later") (e1 _ _ h0), upd_same, [(Sum.inr "past", .ref p), (Sum.inr "later", .ref q)], rfl, (show 2 ≤ 15 by decide), ?_⟩
    exact hQ n _ hn (.of_ex e2) ⟨p, q, ps, qs, upd_same, e2 _ _ hp, tp.ex e2, e2 _ _ hq, tq.ex e2⟩
/-! ### _law_own -/
theorem sc63 : FnScope ["house_so", "stand_so"] ["house_so", "stand_so"] (defScope (top 63)) := ⟨rfl, rfl, rfl, by decide +kernel, rfl, by decide +kernel, by decide +kernel⟩
def spOwn (K : PySem.W.Frag) (TT : List (Addr × Str)) : Sp := fun vs H Q _ => ∃ u v h st, vs = [u, v] ∧ Tp K H u (dHouse h) ∧ Tp K H v (dStand st) ∧ ∀ O H', H O = none → Kp TT false [] H H' → OwnAt K H' O (begun h st) → Q (.ref O) H'
theorem ok_own (T : Txt K mg) : GOk P w K mg base CX0 1 "_law_own" ["house_so", "stand_so"] (spOwn K TT) := by
  have nd := sc63.nd
  refine gok (T.df (63, "_law_own") (by decide +kernel)) sc63 (fun _ _ _ _ _ _ us hl => match us, hl with | [_, _], _ => rfl) (fun vs H Q E h => ?_) (fun f cdv A outer s H vs Q E hr h => ?_)
  · obtain ⟨_, _, _, _, rfl, _⟩ := h
    rfl
  · obtain ⟨u, v, h, st, rfl, th, ts, hQ⟩ := h
    refine ⟨_, (pss_one (ps_ret (pe_disp (pps_cons (pe_str) (pe_lst (pa_cons (pe_tup (pa_cons (pe_non) (pa_cons (pv 0) (pa_cons (pv 1) pa_nil)))) pa_nil)) (pps_cons (pe_str) (pe_lst pa_nil) pps_nil)) (by rfl) (by rfl) (fun z => by cases z) (by decide)))), ?_⟩
    refine fun n hn => ?_
    have e1 : Ex H (upd H n (.dK [])) := .new hn
    refine ⟨_, rfl, _, rfl, by show 3 ≤ sizeLine; decide, fun n1 w1 => ⟨by show 1 ≤ sizeLine; decide, fun n2 w2 => ⟨by show 0 ≤ sizeLine; decide, fun n3 w3 => ?_⟩⟩⟩
    have t1 : Tp K _ (.ref n1) (dEntry ⟨none, h, st⟩) := Tp.new (.cons .non (.cons (th.ex e1) (.cons (ts.ex e1) .nil))) w1
    have x1 := Evl.Ex.new (o := .tup [.non, u, v]) w1
    have x2 := x1.trans (.new (o := .lst [.ref n1]) w2)
    have x3 := x2.trans (.new (o := .lst []) w3)
    have hn3 := x3 _ _ (upd_same (H := H) (a := n) (o := .dK []))
    have e3 := (e1.trans x3).mut (o := .dK (mergeK [] [(Sum.inr "past", .ref n2), (Sum.inr "later", .ref n3)])) hn
    have h2 : upd (upd (upd H n (.dK [])) n1 (.tup [.non, u, v])) n2 (.lst [.ref n1]) n2 = some (.lst [.ref n1]) := upd_same
    have n2n : n2 ≠ n := fun z => by
      rw [z, x1 _ _ upd_same] at w2
      cases w2
    have n3n : n3 ≠ n := fun z => by
      rw [z, x2 _ _ upd_same] at w3
      cases w3
    refine ⟨hn3, [(Sum.inr "past", .ref n2), (Sum.inr "later", .ref n3)], rfl, (show 2 ≤ 15 by decide), ?_⟩
    have t3 : TpAll K _ [.ref n1] [dEntry ⟨none, h, st⟩] := .one ((t1.ex (.new (o := .lst [.ref n1]) w2)).ex (.new (o := .lst []) w3))
    have kw : Kp TT false [n] _ (upd (upd (upd (upd (upd H n (.dK [])) n1 (.tup [.non, u, v])) n2 (.lst [.ref n1])) n3 (.lst [])) n (.dK (mergeK [] [(Sum.inr "past", .ref n2), (Sum.inr "later", .ref n3)]))) := .write hn3 List.mem_cons_self rfl rfl
    exact hQ n _ hn (.of_ex e3) ⟨n2, n3, _, _, upd_same, (upd_ne n2n).trans ((upd_ne (ne_of_none h2 w3)).trans h2), t3.kp kw, (upd_ne n3n).trans upd_same, .nil⟩
end
end T93
-- M10
set_option maxHeartbeats 2000000
/-! T93, part M10: kept, voted, amended. -/
namespace T93
open PySem PySem.Spec PyProof.Rows L2
section
variable {P : Program} {w : World} {K : PySem.W.Frag} {mg : Str → Option Value} {base : Heap} {TT : List (Addr × Str)} {CL CT CB : Addr}

/-! ### _law_kept -/
theorem sc64 : FnScope ["own", "deed_so", "house_so", "stand_so"] ["own", "deed_so", "house_so", "stand_so"] (defScope (top 64)) := ⟨rfl, rfl, rfl, by decide +kernel, rfl, by decide +kernel, by decide +kernel⟩
def spKept (K : PySem.W.Frag) (TT : List (Addr × Str)) : Sp := fun vs H Q _ => ∃ O st dv hv sv e, vs = [.ref O, dv, hv, sv] ∧ OwnAt K H O st ∧ st.rest.length ≤ 1000 ∧ Tp K H dv (dDeed e.deed) ∧ Tp K H hv (dHouse e.house) ∧ Tp K H sv (dStand e.stand) ∧
  ∀ H', Kp TT false [O] H H' → OwnAt K H' O (st.keep e) → Q .non H'
theorem ok_kept (T : Txt K mg) : GOk P w K mg base CX0 1 "_law_kept" ["own", "deed_so", "house_so", "stand_so"] (spKept K TT) := by
  have nd := sc64.nd
  refine gok (T.df (64, "_law_kept") (by decide +kernel)) sc64 (fun _ _ _ _ _ _ us hl => match us, hl with | [_, _, _, _], _ => rfl) (fun vs H Q E h => ?_) (fun f cdv A outer s H vs Q E hr h => ?_)
  · obtain ⟨_, _, _, _, _, _, rfl, _⟩ := h
    rfl
  · obtain ⟨O, st, dv, hv, sv, e, rfl, own, hB, td, th, ts, hQ⟩ := h
    have hu := hu_of hr
    refine ⟨_, (pss_cons (ps_dput hu (pv 0) (pe_str) (pe_op op_cat (pe_dget hu (pv 0) (pe_str) (fun _ _ => rfl)) (pe_lst (pa_cons (pe_tup (pa_cons (pv 1) (pa_cons (pv 2) (pa_cons (pv 3) pa_nil)))) pa_nil))) rfl)
       (pss_one (ps_dput hu (pv 0) (pe_str) (pe_lst pa_nil) rfl))), ?_⟩
    obtain ⟨p, q, ps, qs, h0, hp, tp, hq, tq⟩ := own
    have hpl : ps.length = st.rest.length + 1 := by rw [tp.len, List.length_map]; rfl
    refine ⟨_, rfl, O, .ref p, rfl, DGet.k (k := Sum.inr "past") h0, _, rfl, _, rfl, _, rfl, by show 3 ≤ sizeLine; decide, fun n1 w1 => ⟨by show 1 ≤ sizeLine; decide, fun n2 w2 => ?_⟩⟩
    have t1 : Tp K _ (.ref n1) (dEntry e) := Tp.new (.cons td (.cons th (.cons ts .nil))) w1
    have e2 := (Evl.Ex.new (o := .tup [dv, hv, sv]) w1).trans (.new (o := .lst [.ref n1]) w2)
    refine ⟨p, n2, _, _, rfl, rfl, e2 _ _ hp, upd_same, Nat.le_trans (by show ps.length + 1 ≤ 10000; omega) (by decide), fun n3 w3 => ?_⟩
    have e3 := e2.trans (.new (o := .lst (ps ++ [.ref n1])) w3)
    have t3 : TpAll K _ (ps ++ [.ref n1]) (st.past.map dEntry ++ [dEntry e]) := (tp.ex e3).append (.one ((t1.ex (.new (o := .lst [.ref n1]) w2)).ex (.new (o := .lst (ps ++ [.ref n1])) w3)))
    have h3 := e3 _ _ h0
    have n3O : n3 ≠ O := fun z => by
      rw [z, e2 _ _ h0] at w3
      cases w3
    have hn3 : upd (upd (upd H n1 (.tup [dv, hv, sv])) n2 (.lst [.ref n1])) n3 (.lst (ps ++ [.ref n1])) n3 = _ := upd_same
    generalize upd (upd (upd H n1 (.tup [dv, hv, sv])) n2 (.lst [.ref n1])) n3 (.lst (ps ++ [.ref n1])) = H3 at e3 t3 h3 hn3 ⊢
    refine ⟨_, rfl, O, _, rfl, DPut.k (k := Sum.inr "past") h3 (show (2 : Nat) < 2 ^ 24 by decide), ?_⟩
    have kw : Kp TT false [O] H3 (upd H3 O (.dK (putK [(Sum.inr "past", V.ref p), (Sum.inr "later", V.ref q)] (Sum.inr "past") (.ref n3)))) := .write h3 List.mem_cons_self rfl rfl
    have k4 := (Kp.of_ex (T := TT) (b := false) (S := [O]) e3).trans kw
    have h4 : upd H3 O (.dK (putK [(Sum.inr "past", V.ref p), (Sum.inr "later", V.ref q)] (Sum.inr "past") (.ref n3))) O = some (.dK [(Sum.inr "past", V.ref n3), (Sum.inr "later", V.ref q)]) := upd_same
    have hn4 := (upd_ne (o := .dK (putK [(Sum.inr "past", V.ref p), (Sum.inr "later", V.ref q)] (Sum.inr "past") (.ref n3))) n3O).trans hn3
    have t4 := t3.kp kw
    generalize upd H3 O (.dK (putK [(Sum.inr "past", V.ref p), (Sum.inr "later", V.ref q)] (Sum.inr "past") (.ref n3))) = H4 at h4 k4 hn4 t4 kw ⊢
    refine ⟨by show 0 ≤ sizeLine; decide, fun n5 w5 => ?_⟩
    have e5 := Evl.Ex.new (o := .lst []) w5
    refine ⟨_, rfl, O, _, rfl, DPut.k (k := Sum.inr "later") (e5 _ _ h4) (show (2 : Nat) < 2 ^ 24 by decide), ?_⟩
    have k6 : Kp TT false [O] H4 (upd (upd H4 n5 (.lst [])) O (.dK (putK [(Sum.inr "past", V.ref n3), (Sum.inr "later", V.ref q)] (Sum.inr "later") (.ref n5)))) := (Kp.of_ex e5).trans (.write (e5 _ _ h4) List.mem_cons_self rfl rfl)
    have n5O : n5 ≠ O := fun z => by
      rw [z, h4] at w5
      cases w5
    refine hQ _ (k4.trans k6) ⟨n3, n5, _, _, upd_same, (upd_ne n3O).trans (e5 _ _ hn4), ?_, (upd_ne n5O).trans upd_same, .nil⟩
    have z := t4.kp k6
    have ez : (st.keep e).past.map dEntry = st.past.map dEntry ++ [dEntry e] := by
      show (st.first :: (st.rest ++ [e])).map dEntry = (st.first :: st.rest).map dEntry ++ _
      rw [List.map_cons, List.map_append, List.map_cons]
      rfl
    rw [ez]
    exact z
/-! ### _law_voted -/
abbrev N65 : List Str := ["own", "one"]
theorem sc65 : FnScope N65 ["own"] (defScope (top 65)) := ⟨rfl, rfl, rfl, by decide +kernel, rfl, by decide +kernel, by decide +kernel⟩
def spVoted (K : PySem.W.Frag) (B : Nat) : Sp := fun vs H Q _ => ∃ O st, vs = [.ref O] ∧ OwnAt K H O st ∧ Good B st ∧ B ≤ 1000 ∧ ∀ v H', Ex H H' → Tp K H' v (.tuple (st.votes.map dRow)) → Q v H'
theorem ok_voted (T : Txt K mg) {B : Nat} : GOk P w K mg base CX0 1 "_law_voted" ["own"] (spVoted K B) := by
  have nd := sc65.nd
  refine gok (T.df (65, "_law_voted") (by decide +kernel)) sc65 (fun _ _ _ _ _ _ us hl => match us, hl with | [_], _ => rfl) (fun vs H Q E h => ?_) (fun f cdv A outer s H vs Q E hr h => ?_)
  · obtain ⟨_, _, rfl, _⟩ := h
    rfl
  · obtain ⟨O, st, rfl, own, g, hB, hQ⟩ := h
    have mb_tuple := T.no "tuple" (by decide +kernel)
    have hu := hu_of hr
    refine ⟨_, (pss_one (ps_ret (pe_tupleOf rfl mb_tuple (pe_lc (own := [("one", 1)]) rfl nd (pi_list (pe_slice sl_list (pe_dget hu (pv 0) (pe_str) (fun _ _ => rfl)) (po_some (pe_int)) po_none)) (blkOk_by (own := [("one", 1)]) (N := ["own", "one"]) (sc := (defScope (top 65))) (by decide +kernel)) (fun _ _ _ _ _ => (pg_name (i := 1) nd rfl (Or.inl rfl))) (fun _ _ _ _ _ => (pts_one (pt_cmpR op_eq (pe_ix (ix_tupK K rfl) (pe_ix (ix_tupK K rfl) (pv 1) (pe_int) (fun _ _ => rfl)) (pe_int) (fun _ _ => rfl)) (pe_str) (nomark _)))) (fun _ _ _ _ _ => (pe_ix (ix_tupK K rfl) (pe_ix (ix_tupK K rfl) (pv 1) (pe_int) (fun _ _ => rfl)) (pe_int) (fun _ _ => rfl))))))), ?_⟩
    obtain ⟨p, q, ps, qs, h0, hp, tp, hq, tq⟩ := own
    refine ⟨_, rfl, O, .ref p, rfl, DGet.k (k := Sum.inr "past") h0, 1, rfl, p, ps, rfl, SqL.of hp, fun n1 w1 => ?_⟩
    have e1 := Evl.Ex.new (o := .lst (cutV ps (some (1 : Int)) none)) w1
    have hc : cutL (st.past.map dEntry) (some (1 : Int)) none = st.rest.map dEntry := (cut_from _ 1).trans rfl
    have t := (tp.cut (lo := some (1 : Int)) (hi := none)).ex e1
    rw [hc] at t
    have s1 : upd H n1 (.lst (cutV ps (some (1 : Int)) none)) n1 = _ := upd_same
    generalize cutV ps (some (1 : Int)) none = xs at e1 t s1 ⊢
    have hxl : xs.length = st.rest.length := by rw [t.len, List.length_map]
    have hgl := g.len
    refine ⟨n1, rfl, ⟨_, SqL.of s1⟩, fun D nD => lc_flt (n := xs.length) (K := K) walk_list (st.rest.map fun e => (voteOf e).map dRow) (by rw [List.length_map]; exact hxl) (by rw [List.length_map]; exact Nat.lt_of_le_of_lt (by omega : _ ≤ 1000) (by decide)) nD (fun H2 e => sql_ex e (SqL.of s1)) (fun i o x H2 H3 Kx Kn ho e y kx kn => ?_) (fun H2 zs e hz tz => ?_)⟩
    · obtain ⟨rfl, hx⟩ := y
      obtain ⟨en, hen, tx⟩ := t.getm hx
      rw [List.getElem?_map, hen] at ho
      obtain rfl := Option.some.inj ho
      obtain ⟨_, dd, hdd⟩ := g.r en (List.mem_of_getElem? hen)
      obtain ⟨ae, es, rfl, se, te⟩ := (tx.ex e).tup_inv
      obtain ⟨vd, _, rfl, t0, te⟩ := te.cons_inv
      rw [hdd] at t0
      cases dd with
      | vote v =>
        have hv : voteOf en = some v := by
          unfold voteOf
          rw [hdd]
        obtain ⟨a0, x0, z0, rfl, s0, i0, u0⟩ := ix_of (j := 0) t0 rfl
        obtain ⟨a1, x1, z1, e1', s1, i1, u1⟩ := ix_of (j := 1) t0 rfl
        cases e1'
        obtain rfl := u0.str_inv
        exact ⟨rfl, _, rfl, ae, _, _, _, rfl, rfl, se, atI_nat (j := 0) rfl, a0, x0, _, _, rfl, rfl, s0, i0, rfl, _, rfl, iteT ⟨_, rfl, ae, _, _, _, rfl, rfl, se, atI_nat (j := 0) rfl, a0, x1, _, z1, rfl, rfl, s1, i1, kx z1 _ _ (congrArg (Option.map dRow) hv) (.refl _) u1⟩⟩
      | amend k pl s0 =>
        have hv : voteOf en = none := by
          unfold voteOf
          rw [hdd]
        obtain ⟨a0, x0, z0, rfl, s0, i0, u0⟩ := ix_of (j := 0) t0 rfl
        obtain rfl := u0.str_inv
        exact ⟨rfl, _, rfl, ae, _, _, _, rfl, rfl, se, atI_nat (j := 0) rfl, a0, x0, _, _, rfl, rfl, s0, i0, rfl, _, rfl, iteF (kn _ (congrArg (Option.map dRow) hv) (.refl _))⟩
    · have ef : (st.rest.map fun e => (voteOf e).map dRow).filterMap id = st.votes.map dRow := by
        unfold LedSt.votes
        rw [List.filterMap_map, List.map_filterMap]
        rfl
      rw [ef] at tz
      exact .inl ⟨D, _, rfl, SqL.of hz, fun q hq => hQ _ _ ((e1.trans e).trans (.new hq)) (Tp.new tz hq)⟩
end
end T93
-- M11
set_option maxHeartbeats 2000000
/-! T93, part M11: amended. -/
namespace T93
open PySem PySem.Spec PyProof.Rows L2
section
variable {P : Program} {w : World} {K : PySem.W.Frag} {mg : Str → Option Value} {base : Heap} {TT : List (Addr × Str)} {CL CT CB : Addr}

theorem len_set {α : Type} (l : List α) (k : Nat) (x : α) (h : k < l.length) : (l.take k ++ ([x] ++ l.drop (k + 1))).length = l.length := by
  rw [List.length_append, List.length_append, List.length_take, List.length_drop, List.length_singleton]
  omega
theorem mem_set' {α : Type} {l : List α} {k : Nat} {x y : α} (h : y ∈ l.take k ++ ([x] ++ l.drop (k + 1))) : y = x ∨ y ∈ l := by
  rcases List.mem_append.mp h with h | h
  · exact .inr (List.mem_of_mem_take h)
  · rcases List.mem_append.mp h with h | h
    · exact .inl (List.mem_singleton.mp h)
    · exact .inr (List.mem_of_mem_drop h)
theorem sum_set {l : List (List Seat)} {k : Nat} {b c : List Seat} (hb : l[k]? = some b) (hc : c.length = b.length) : (l.take k ++ ([c] ++ l.drop (k + 1))).map List.length = l.map List.length := by
  refine List.ext_getElem? fun i => ?_
  have hk : k < l.length := (List.getElem?_eq_some_iff.mp hb).1
  rw [List.getElem?_map, List.getElem?_map]
  rcases Nat.lt_trichotomy i k with h | h | h
  · rw [List.getElem?_append_left (by rw [List.length_take]; omega), List.getElem?_take_of_lt h]
  · subst h
    rw [List.getElem?_append_right (by rw [List.length_take]; omega), List.length_take, Nat.min_eq_left (by omega), Nat.sub_self, hb]
    show some c.length = some b.length
    rw [hc]
  · rw [List.getElem?_append_right (by rw [List.length_take]; omega), List.length_take, Nat.min_eq_left (by omega), List.getElem?_append_right (by rw [List.length_singleton]; omega), List.length_singleton, List.getElem?_drop, show k + 1 + (i - k - 1) = i by omega]
theorem amended_okL {h : House} {L k p : Nat} {s : Seat} {b : List Seat} (ok : h.OkL L) (hb : h.bodies[k]? = some b) (hp : p < b.length) (hs : s.Ok L h.bodies.length h.wards) : (amended h k p s).OkL L := by
  have hk : k < h.bodies.length := (List.getElem?_eq_some_iff.mp hb).1
  have gd : h.bodies.getD k [] = b := by rw [List.getD_eq_getElem?_getD, hb]; rfl
  have hl : (amended h k p s).bodies.length = h.bodies.length := len_set _ _ _ hk
  have hc : (b.take p ++ [s] ++ b.drop (p + 1)).length = b.length := by
    rw [List.append_assoc]
    exact len_set _ _ _ hp
  have hm : ∀ c ∈ (amended h k p s).bodies, c = b.take p ++ [s] ++ b.drop (p + 1) ∨ c ∈ h.bodies := fun c hc => by
    have := mem_set' hc
    rw [gd] at this
    exact this
  have bm : b ∈ h.bodies := List.mem_of_getElem? hb
  refine ⟨ok.l0, ok.l12, by rw [hl]; exact ok.b1, by rw [hl]; exact ok.b3, fun c hc' => ?_, ?_, ok.wd, fun c hc' x hx => ?_⟩
  · rcases hm c hc' with rfl | hc'
    · rw [hc]
      exact ok.sz b bm
    · exact ok.sz c hc'
  · show ((h.bodies.take k ++ ([(h.bodies.getD k []).take p ++ [s] ++ (h.bodies.getD k []).drop (p + 1)] ++ h.bodies.drop (k + 1))).map List.length).sum ≤ 9
    rw [gd, sum_set hb hc]
    exact ok.tot
  · rw [hl]
    rcases hm c hc' with rfl | hc'
    · rw [List.append_assoc] at hx
      rcases mem_set' hx with rfl | hx
      · exact hs
      · exact ok.seats b bm x hx
    · exact ok.seats c hc' x hx
theorem amended_shape {h : House} {k p : Nat} {s : Seat} {b : List Seat} {st : Stand} (sh : Shape h st) (hb : h.bodies[k]? = some b) (hp : p < b.length) : Shape (amended h k p s) st := by
  have gd : h.bodies.getD k [] = b := by rw [List.getD_eq_getElem?_getD, hb]; rfl
  have hc : (b.take p ++ [s] ++ b.drop (p + 1)).length = b.length := by
    rw [List.append_assoc]
    exact len_set _ _ _ hp
  show st.map List.length = (h.bodies.take k ++ ([(h.bodies.getD k []).take p ++ [s] ++ (h.bodies.getD k []).drop (p + 1)] ++ h.bodies.drop (k + 1))).map List.length
  rw [gd, sum_set hb hc]
  exact sh
/-! ### _law_amended -/
abbrev N66 : List Str := ["m", "house_so", "bodies", "wards", "k", "spot", "term", "seat", "row"]
theorem sc66 : FnScope N66 ["m", "house_so"] (defScope (top 66)) := ⟨rfl, rfl, rfl, by decide +kernel, rfl, by decide +kernel, by decide +kernel⟩
def spAmended (K : PySem.W.Frag) (TT : List (Addr × Str)) : Sp := fun vs H Q _ => ∃ (m c g : Addr) (n : Nat) (hv : V) (h : House) (L : Nat), vs = [.ref m, hv] ∧ Tp K H hv (dHouse h) ∧ h.OkL L ∧ MAt H m c g n ∧ n + 20 ≤ 100000 ∧
  ∀ v (k p : Nat) (b : List Seat) (s : Seat) n' H', h.bodies[k]? = some b → p < b.length → s.Ok L h.bodies.length h.wards → Tp K H' v (.tuple [.int k, .int p, dSeat s, dHouse (amended h k p s)]) → Kp TT true [m] H H' → MAt H' m c g n' → n' ≤ n + 8 → Q v H'
theorem ok_amended (T : Txt K mg) : GOk P w K mg base CX0 5 "_law_amended" ["m", "house_so"] (spAmended K TT) := by
  have nd := sc66.nd
  have G__law_draw := ok_draw (P := P) (w := w) (base := base) (TT := TT) T
  have G__law_way := ok_way (P := P) (w := w) (base := base) (TT := TT) T
  refine gok (T.df (66, "_law_amended") (by decide +kernel)) sc66 (fun _ _ _ _ _ _ us hl => match us, hl with | [_, _], _ => rfl) (fun vs H Q E h => ?_) (fun f cdv A outer s H vs Q E hr h => ?_)
  · obtain ⟨_, _, _, _, _, _, _, rfl, _⟩ := h
    rfl
  · obtain ⟨m, c, g, n, hv, h, L, rfl, thu, ok, hm, hn, hQ⟩ := h
    have mb_len := T.no "len" (by decide +kernel)
    refine ⟨_, (pss_cons (ps_asg (pv 1) (pg_tup rfl (pgs_cons (pg_name (i := 2) nd rfl (Or.inl rfl)) (pgs_cons (pg_name (i := 3) nd rfl (Or.inl rfl)) pgs_nil))))
       (pss_cons (ps_set (i := 4) nd rfl (Or.inl rfl) (pe_g G__law_draw hr pass0 (pa_cons (pv 0) (pa_cons (pe_callB call_len_seq rfl mb_len PySem.boot_len (pa_cons (pv 2) pa_nil)) pa_nil))))
       (pss_cons (ps_set (i := 5) nd rfl (Or.inl rfl) (pe_g G__law_draw hr pass0 (pa_cons (pv 0) (pa_cons (pe_callB call_len_seq rfl mb_len PySem.boot_len (pa_cons (pe_ix ix_tup (pv 2) (pv 4) (fun _ _ => rfl)) pa_nil)) pa_nil))))
       (pss_cons (ps_set (i := 6) nd rfl (Or.inl rfl) (pe_ix ix_tup (pe_ix ix_tup (pe_ix ix_tup (pv 2) (pv 4) (fun _ _ => rfl)) (pv 5) (fun _ _ => rfl)) (pe_int) (fun _ _ => rfl)))
       (pss_cons (ps_set (i := 7) nd rfl (Or.inl rfl) (pe_tup (pa_cons (pv 6) (pa_cons (pe_g G__law_draw hr pass0 (pa_cons (pv 0) (pa_cons (pv 6) pa_nil))) (pa_cons (pe_g G__law_way hr pass0 (pa_cons (pv 0) (pa_cons (pe_callB call_len_seq rfl mb_len PySem.boot_len (pa_cons (pv 2) pa_nil)) (pa_cons (pv 3) pa_nil)))) pa_nil)))))
       (pss_cons (ps_set (i := 8) nd rfl (Or.inl rfl) (pe_op op_catA (pe_op op_catA (pe_slice sl_tupA (pe_ix ix_tup (pv 2) (pv 4) (fun _ _ => rfl)) po_none (po_some (pv 5))) (pe_tup (pa_cons (pv 7) pa_nil))) (pe_slice sl_tupA (pe_ix ix_tup (pv 2) (pv 4) (fun _ _ => rfl)) (po_some (pe_op op_add (pv 5) (pe_int))) po_none)))
       (pss_one (ps_ret (pe_tup (pa_cons (pv 4) (pa_cons (pv 5) (pa_cons (pv 7) (pa_cons (pe_tup (pa_cons (pe_op op_catA (pe_op op_catA (pe_slice sl_tupA (pv 2) po_none (po_some (pv 4))) (pe_tup (pa_cons (pv 8) pa_nil))) (pe_slice sl_tupA (pv 2) (po_some (pe_op op_add (pv 4) (pe_int))) po_none)) (pa_cons (pv 3) pa_nil))) pa_nil))))))))))))), ?_⟩
    obtain ⟨ah, hs, rfl, sh, th⟩ := thu.tup_inv
    obtain ⟨vb, _, rfl, h0, th⟩ := th.cons_inv
    obtain ⟨_, _, rfl, h1, th⟩ := th.cons_inv
    obtain rfl := th.nil_inv
    obtain rfl := h1.int_inv
    obtain ⟨ab, bs, rfl, sb, tb⟩ := id h0.tup_inv
    have hbl : bs.length = h.bodies.length := by rw [tb.len, List.length_map]
    have b1 := ok.b1
    have b3 := ok.b3
    have w4 := ok.wd
    refine ⟨_, rfl, ah, _, rfl, sh, rfl, _, _, rfl, _, _, rfl, rfl, ?_⟩
    refine ⟨_, rfl, _, rfl, ab, _, rfl, .inr sb, m, c, g, n, bs.length, rfl, by omega, by omega, hm, by omega, fun k H1 hk k1 m1 => ?_⟩
    obtain ⟨b, hb⟩ : ∃ b, h.bodies[k]? = some b := ⟨_, List.getElem?_eq_getElem (by omega)⟩
    obtain ⟨vq, hvq, tq⟩ := tb.get (i := k) (d := dBody b) (by rw [List.getElem?_map, hb]; rfl)
    obtain ⟨aq, zs, rfl, sq, tz⟩ := id tq.tup_inv
    have hzl : zs.length = b.length := by rw [tz.len, List.length_map]
    have b9 := ok.sz b (List.mem_of_getElem? hb)
    have gd : h.bodies.getD k [] = b := by rw [List.getD_eq_getElem?_getD, hb]; rfl
    refine ⟨_, rfl, _, rfl, _, rfl, ab, _, _, _, rfl, rfl, SqT.kp k1 sb, atI_nat hvq, aq, _, rfl, .inr (SqT.kp k1 sq), m, c, g, _, zs.length, rfl, by omega, by omega, m1, by omega, fun p H2 hp k2 m2 => ?_⟩
    have k12 := k1.trans k2
    obtain ⟨q1, hq⟩ : ∃ q1, b[p]? = some q1 := ⟨_, List.getElem?_eq_getElem (by omega)⟩
    obtain ⟨vs1, hvs, ts1⟩ := tz.get (i := p) (d := dSeat q1) (by rw [List.getElem?_map, hq]; rfl)
    obtain ⟨ay, ws, rfl, sy, tw⟩ := ts1.tup_inv
    obtain ⟨_, _, rfl, w0, tw⟩ := tw.cons_inv
    obtain rfl := w0.int_inv
    have sok := ok.seats b (List.mem_of_getElem? hb) q1 (List.mem_of_getElem? hq)
    have o1 := sok.one
    have o6 := sok.most
    refine ⟨_, rfl, _, rfl, ab, _, _, _, rfl, rfl, SqT.kp k12 sb, atI_nat hvq, _, rfl, aq, _, _, _, rfl, rfl, SqT.kp k12 sq, atI_nat hvs, ay, _, _, _, rfl, rfl, SqT.kp k12 sy, atI_nat (j := 0) rfl, ?_⟩
    refine ⟨_, rfl, _, rfl, _, rfl, m, c, g, _, q1.term, rfl, by omega, by omega, m2, by omega, fun ph H3 hph k3 m3 => ?_⟩
    have k13 := k12.trans k3
    refine ⟨_, rfl, _, rfl, ab, _, rfl, .inr (SqT.kp k13 sb), _, rfl, m, c, g, _, bs.length, h.wards, rfl, by omega, by omega, by omega, m3, by omega, fun wv wy n4 H4 hwy twv k4 m4 hn4 => ⟨by show 3 ≤ sizeLine; decide, fun p0 n0 => ?_⟩⟩
    rw [hbl] at hwy
    have k14 := (k13.trans k4).and_new (o := .tup [.int q1.term, .int ph, wv]) n0
    have s0ok : (⟨q1.term, ph, wy⟩ : Seat).Ok L h.bodies.length h.wards := ⟨o1, o6, sok.dvd, hph, hwy⟩
    have ts0 : Tp K _ (.ref p0) (dSeat ⟨q1.term, ph, wy⟩) := Tp.new (.cons (.int _) (.cons (.int _) (.cons twv .nil))) n0
    have m5 := m4.ex (.new (o := .tup [.int q1.term, .int ph, wv]) n0)
    generalize upd H4 p0 (.tup [.int q1.term, .int ph, wv]) = H5 at k14 ts0 m5 ⊢
    generalize (⟨q1.term, ph, wy⟩ : Seat) = s0 at s0ok ts0
    have sb5 := SqT.kp k14 sb
    have sq5 := SqT.kp k14 sq
    have tq5 := tq.kp k14
    have h05 := h0.kp k14
    have cv : ∀ {H H' : Hp} {a : Addr} {xs : List V}, Ex H H' → SqT K H a xs → SqT K H' a xs := fun e s => SqT.kp (T := []) (b := false) (S := []) (.of_ex e) s
    refine ⟨_, rfl, _, rfl, ab, _, _, _, rfl, rfl, sb5, atI_nat hvq, _, rfl, p, rfl, ?_⟩
    refine rd_sl tq5 fun z1 H1 e1 t1 => ?_
    refine ⟨_, rfl, by show 1 ≤ sizeLine; decide, fun p1 n1 => ?_⟩
    refine rd_cat (t1.ex (.new n1)) (Tp.new (.one (ts0.ex e1)) n1) ?_ fun z2 H2 e2 t2 => ?_
    · have := cutL_len (b.map dSeat) none (some (p : Int))
      rw [List.length_map] at this
      show _ + 1 ≤ 2 ^ 24
      omega
    have x2 := (e1.trans (.new (o := .tup [.ref p0]) n1)).trans e2
    refine ⟨_, rfl, _, rfl, ab, _, _, _, rfl, rfl, cv x2 sb5, atI_nat hvq, _, rfl, _, _, rfl, rfl, _, rfl, rd_slN (tq5.ex x2) fun z3 H3 e3 t3 => ?_⟩
    refine rd_cat (t2.ex e3) t3 ?_ fun z4 H4 e4 t4 => ?_
    · have h1 := cutL_len (b.map dSeat) none (some (p : Int))
      have h2 := cutL_len (b.map dSeat) (some ((p : Int) + 1)) none
      rw [List.length_map] at h1 h2
      rw [List.length_append]
      show _ + 1 + _ ≤ 2 ^ 24
      omega
    have x4 := (x2.trans e3).trans e4
    have er : PyData.tuple (cutL (b.map dSeat) none (some (p : Int)) ++ [dSeat s0] ++ cutL (b.map dSeat) (some ((p : Int) + 1)) none) = dBody (b.take p ++ [s0] ++ b.drop (p + 1)) := by
      rw [show ((p : Int) + 1) = ((p + 1 : Nat) : Int) from rfl, cut_to, cut_from]
      unfold dBody
      rw [List.map_append, List.map_append, List.map_take, List.map_drop]
      rfl
    rw [er] at t4
    refine ⟨_, rfl, _, rfl, _, rfl, _, rfl, _, rfl, k, rfl, ?_⟩
    refine rd_sl (h05.ex x4) fun z5 H5 e5 t5 => ?_
    refine ⟨_, rfl, by show 1 ≤ sizeLine; decide, fun p2 n2 => ?_⟩
    refine rd_cat (t5.ex (.new n2)) (Tp.new (.one (t4.ex e5)) n2) ?_ fun z6 H6 e6 t6 => ?_
    · have := cutL_len (h.bodies.map dBody) none (some (k : Int))
      rw [List.length_map] at this
      show _ + 1 ≤ 2 ^ 24
      omega
    have x6 := ((x4.trans e5).trans (.new (o := .tup [z4]) n2)).trans e6
    refine ⟨_, rfl, _, rfl, _, _, rfl, rfl, _, rfl, rd_slN (h05.ex x6) fun z7 H7 e7 t7 => ?_⟩
    refine rd_cat (t6.ex e7) t7 ?_ fun z8 H8 e8 t8 => ?_
    · have h1 := cutL_len (h.bodies.map dBody) none (some (k : Int))
      have h2 := cutL_len (h.bodies.map dBody) (some ((k : Int) + 1)) none
      rw [List.length_map] at h1 h2
      rw [List.length_append]
      show _ + 1 + _ ≤ 2 ^ 24
      omega
    have x8 := (x6.trans e7).trans e8
    have eh : PyData.tuple (cutL (h.bodies.map dBody) none (some (k : Int)) ++ [dBody (b.take p ++ [s0] ++ b.drop (p + 1))] ++ cutL (h.bodies.map dBody) (some ((k : Int) + 1)) none) = dBodies (amended h k p s0).bodies := by
      rw [show ((k : Int) + 1) = ((k + 1 : Nat) : Int) from rfl, cut_to, cut_from]
      unfold dBodies amended
      rw [gd, List.map_append, List.map_append, List.map_take, List.map_drop, List.append_assoc]
      rfl
    rw [eh] at t8
    refine ⟨_, rfl, by show 2 ≤ sizeLine; decide, fun p3 n3 => ⟨by show 4 ≤ sizeLine; decide, fun p4 n4 => ?_⟩⟩
    have th8 : Tp K _ (.ref p3) (dHouse (amended h k p s0)) := Tp.new (.cons t8 (.cons (.int _) .nil)) n3
    have x9 := x8.trans (.new (o := .tup [z8, .int h.wards]) n3)
    have x10 := x9.trans (.new (o := .tup [.int k, .int p, .ref p0, .ref p3]) n4)
    exact hQ _ k p b s0 _ _ hb (by omega) s0ok (Tp.new (.cons (.int _) (.cons (.int _) (.cons (ts0.ex x9) (.cons th8 .nil)))) n4) (k14.trans (.of_ex x10)) (m5.ex x10) (by omega)
end
end T93
-- M12
set_option maxHeartbeats 2000000
/-! T93, part M12: stands. -/
namespace T93
open PySem PySem.Spec PyProof.Rows L2
section
variable {P : Program} {w : World} {K : PySem.W.Frag} {mg : Str → Option Value} {base : Heap} {TT : List (Addr × Str)} {CL CT CB : Addr}

theorem last_all {H : Hp} {xs : List V} {ds : List PyData} {d : PyData} (t : TpAll K H xs (ds ++ [d])) : ∃ z, atI xs (-1) = some z ∧ Tp K H z d := by
  have hl : xs.length = ds.length + 1 := by rw [t.len, List.length_append]; rfl
  obtain ⟨z, hz, tz⟩ := t.get (i := ds.length) (d := d) (by simp)
  have e : xs = xs.take ds.length ++ [z] := by
    have := List.take_succ (l := xs) (i := ds.length)
    rw [hz, List.take_of_length_le (by omega)] at this
    exact this
  refine ⟨z, ?_, tz⟩
  rw [e]
  exact atI_last _ _
theorem past_lastE (st : LedSt) : st.past.map dEntry = st.past.dropLast.map dEntry ++ [dEntry st.last] := by
  have := congrArg (List.map dEntry) st.past_eq
  rw [List.map_append] at this
  exact this
theorem nice_rows {B : Nat} {st : LedSt} (g : Good B st) : NiceL 0 (st.votes.length * 10) (st.votes.map dRow) := by
  have z : NiceL 0 ((st.votes.map dRow).length * 10) (st.votes.map dRow) := NiceL.of fun x hx => by
    obtain ⟨r, hr, rfl⟩ := List.mem_map.mp hx
    obtain ⟨e, he, hv⟩ := List.mem_filterMap.mp hr
    have ok := (g.r e he).1
    unfold voteOf at hv
    split at hv
    · rename_i v hd
      cases hv
      exact nice_row (ok.d _ hd)
    · cases hv
  rw [List.length_map] at z
  exact z
theorem votes_le (st : LedSt) : st.votes.length ≤ st.rest.length := List.length_filterMap_le _ _
theorem sc67 : FnScope ["led", "own", "here", "voted", "due"] ["led", "own"] (defScope (top 67)) := ⟨rfl, rfl, rfl, by decide +kernel, rfl, by decide +kernel, by decide +kernel⟩
def spStands (K : PySem.W.Frag) (CL : Addr) (B : Nat) : Sp := fun vs H Q _ => ∃ L O st, vs = [.ref L, .ref O] ∧ LedAt K CL H L st ∧ OwnAt K H O st ∧ Good B st ∧ B ≤ 1000 ∧ ∀ H', Ex H H' → Q (.bl true) H'
theorem ok_stands (T : Txt K mg) (G : LedF K mg CL) {B : Nat} : GZ P w K mg base CX0 5 "_law_stands" ["led", "own"] (spStands K CL B) := by
  have nd := sc67.nd
  have CLS := G.cls
  have G__law_voted := ok_voted (P := P) (w := w) (base := base) T (B := B)
  have G__law_like := ok_like (P := P) (w := w) (base := base) T
  have G_house := ok_house (P := P) (w := w) (base := base) G
  have G_stand := ok_stand (P := P) (w := w) (base := base) G
  have G_len := ok_len (P := P) (w := w) (base := base) G T
  have G_number := ok_number (P := P) (w := w) (base := base) G T (B := B)
  have G_votes := ok_votes (P := P) (w := w) (base := base) G T (B := B)
  refine gz (T.df (67, "_law_stands") (by decide +kernel)) sc67 (fun _ _ _ _ _ _ us hl => match us, hl with | [_, _], _ => rfl) (fun vs H Q E h => ?_) (fun f cdv A outer s H vs Q E hr gd h => ?_)
  · obtain ⟨_, _, _, rfl, _⟩ := h
    rfl
  · obtain ⟨L, O, st, rfl, ha, own, g, hB, hQ⟩ := h
    have mb_len := T.no "len" (by decide +kernel)
    have hu := hu_of hr
    refine ⟨_, (pss_cons (ps_par (i := 2) (j := 3) rfl nd rfl rfl (by decide) rfl rfl (pa_cons (pe_ix ix_list (pe_dget hu (pv 1) (pe_str) (fun _ _ => rfl)) (pe_un un_neg (pe_int)) (fun _ _ => rfl)) (pa_cons (pe_g G__law_voted hr pass0 (pa_cons (pv 1) pa_nil)) pa_nil)) rfl)
       (pss_cons (ps_set (i := 4) nd rfl (Or.inl rfl) (pe_lst (pa_cons (pe_ix ix_tup (pv 2) (pe_int) (fun _ _ => rfl)) (pa_cons (pe_ix ix_tup (pv 2) (pe_int) (fun _ _ => rfl)) (pa_cons (pe_op op_sub (pe_callB call_len_seq rfl mb_len PySem.boot_len (pa_cons (pe_dget hu (pv 1) (pe_str) (fun _ _ => rfl)) pa_nil)) (pe_int)) (pa_cons (pe_callB call_len_seq rfl mb_len PySem.boot_len (pa_cons (pv 3) pa_nil)) (pa_cons (pv 3) pa_nil)))))))
       (pss_one (ps_ret (pe_z G__law_like hr gd (fun _ => at0) (pa_cons (pe_lst (pa_cons (pe_gp G_house CLS hr (pv 0)) (pa_cons (pe_gp G_stand CLS hr (pv 0)) (pa_cons (pe_len G_len hr mb_len (pa_cons (pv 0) pa_nil)) (pa_cons (pe_gp G_number CLS hr (pv 0)) (pa_cons (pe_gm0 G_votes CLS hr pass0 (pv 0)) pa_nil)))))) (pa_cons (pv 4) pa_nil))))))), ?_⟩
    obtain ⟨p, q, ps, qs, h0, hp, tp, hq, tq⟩ := id own
    have hpl : ps.length = st.rest.length + 1 := by rw [tp.len, List.length_map]; rfl
    have gl := g.len
    have vl := votes_le st
    rw [past_lastE] at tp
    obtain ⟨z, hz, tz⟩ := last_all tp
    obtain ⟨pl', ql', ⟨dl, hl⟩, hpt, hqt⟩ := id ha
    refine ⟨_, rfl, O, .ref p, rfl, DGet.k (k := Sum.inr "past") h0, _, rfl, p, ps, _, z, rfl, rfl, SqL.of hp, hz, _, rfl, O, st, rfl, own, g, hB, fun v H1 e1 tv => ⟨_, _, rfl, ?_⟩⟩
    obtain ⟨a1, x1, z1, rfl, s1, i1, u1⟩ := ix_of (j := 1) (tz.ex e1) rfl
    obtain ⟨a2, x2, z2, ea, s2, i2, u2⟩ := ix_of (j := 2) (tz.ex e1) rfl
    cases ea
    obtain ⟨av, xv, rfl, sv, tvs⟩ := id tv.tup_inv
    have hxv : xv.length = st.votes.length := by rw [tvs.len, List.length_map]
    refine ⟨_, rfl, a1, x1, _, z1, rfl, rfl, s1, i1, _, rfl, a1, x2, _, z2, rfl, rfl, s2, i2, _, rfl, O, .ref p, rfl, DGet.k (k := Sum.inr "past") (e1 _ _ h0), p, ps, rfl, .inl (SqL.of (e1 _ _ hp)), _, _, rfl, rfl, _, rfl, av, xv, rfl, .inr sv, _, rfl, by show 5 ≤ sizeLine; decide, fun nD wD => ?_⟩
    have en : (((ps.length : Nat) : Int) - 1) = ((st.rest.length : Nat) : Int) := by omega
    have ev : (xv.length : Nat) = st.votes.length := hxv
    have eD := e1.trans (.new (o := .lst [z1, z2, .int (((ps.length : Nat) : Int) - 1), .int xv.length, .ref av]) wD)
    have hD : upd H1 nD (.lst [z1, z2, .int (((ps.length : Nat) : Int) - 1), .int xv.length, .ref av]) nD = some (.lst [z1, z2, .int (((ps.length : Nat) : Int) - 1), .int xv.length, .ref av]) := upd_same
    have tD : TpAll K (upd H1 nD (.lst [z1, z2, .int (((ps.length : Nat) : Int) - 1), .int xv.length, .ref av])) [z1, z2, .int (((ps.length : Nat) : Int) - 1), .int xv.length, .ref av] [dHouse st.last.house, dStand st.last.stand, .int st.rest.length, .int st.votes.length, .tuple (st.votes.map dRow)] := by
      rw [en, ev]
      exact .cons (u1.ex (.new wD)) (.cons (u2.ex (.new wD)) (.cons (.int _) (.cons (.int _) (.cons (tv.ex (.new wD)) .nil))))
    have ha1 := ha.ex eD
    have hl1 := eD _ _ hl
    refine ⟨_, rfl, L, dl, _, rfl, hl1, L, st, rfl, ha1, fun v1 t1 => ⟨_, rfl, L, dl, _, rfl, hl1, L, st, rfl, ha1, fun v2 t2 => ⟨_, rfl, L, dl, _, rfl, hl1, L, st, rfl, ha1, fun H3 e3 => ⟨st.rest.length, rfl, by omega, _, rfl, L, dl, _, rfl, e3 _ _ hl1, L, st, rfl, ha1.ex e3, g, hB, fun H4 e4 => ⟨_, rfl, L, dl, _, rfl, e4 _ _ (e3 _ _ hl1), rfl, L, st, rfl, (ha1.ex e3).ex e4, g, hB, fun v5 H5 e5 t5 => ⟨by show 5 ≤ sizeLine; decide, fun nA wA => ?_⟩⟩⟩⟩⟩⟩
    have x5 := (e3.trans e4).trans e5
    have eA := Evl.Ex.new (o := .lst [v1, v2, .int st.rest.length, .int st.votes.length, v5]) wA
    have tA : TpAll K (upd H5 nA (.lst [v1, v2, .int st.rest.length, .int st.votes.length, v5])) [v1, v2, .int st.rest.length, .int st.votes.length, v5] [dHouse st.last.house, dStand st.last.stand, .int st.rest.length, .int st.votes.length, .tuple (st.votes.map dRow)] :=
      .cons (t1.ex (x5.trans eA)) (.cons (t2.ex (x5.trans eA)) (.cons (.int _) (.cons (.int _) (.cons (t5.ex eA) .nil))))
    obtain ⟨Lh, okh⟩ := g.last.h
    have nn := nice_rows g
    refine ⟨_, rfl, _, _, .list _, rfl, .lst (SqL.of upd_same) tA.dp, .lst (SqL.of (eA _ _ (x5 _ _ hD))) (tD.ex (x5.trans eA)).dp, ?_, hQ _ ((eD.trans x5).trans eA)⟩
    have b1 : NiceL 5 _ [dHouse st.last.house, dStand st.last.stand, .int st.rest.length, .int st.votes.length, .tuple (st.votes.map dRow)] :=
      NiceL.cons (nice_house okh) (NiceL.cons ((nice_stand okh g.last.sh).mono (by decide) (Nat.le_refl _)) (NiceL.cons (Nice.int (W := 11) (by omega) (by decide)) (NiceL.cons (Nice.int (W := 11) (by omega) (by decide)) (NiceL.cons ((Nice.tup nn).mono (by decide) (Nat.le_refl _)) (NiceL.nil (W := 0))))))
    exact (Nice.lst b1).mono (by decide) (by omega)
end
end T93
-- M13
set_option maxHeartbeats 2000000
/-! T93, part M13: a turn. -/
namespace T93
open PySem PySem.Spec PyProof.Rows L2
section
variable {P : Program} {w : World} {K : PySem.W.Frag} {mg : Str → Option Value} {base : Heap} {TT : List (Addr × Str)} {CL CT CB : Addr}

theorem Good.mono {B C : Nat} {st : LedSt} (g : Good B st) (h : B ≤ C) : Good C st := ⟨g.f, g.n, g.r, g.l, Nat.le_trans g.len h⟩
theorem Good.back {B : Nat} {st : LedSt} (g : Good B st) : Good B st.back := by
  rcases rest_cases st.rest with h | ⟨r, e, h⟩
  · rw [back_nil h]
    exact g
  · rw [back_app h]
    have gl := g.len
    have gr := g.r
    rw [h] at gl gr
    rw [List.length_append] at gl
    refine ⟨g.f, g.n, fun x hx => gr x (List.mem_append_left _ hx), fun x hx => ?_, by show r.length + (e :: st.later).length ≤ B; rw [List.length_cons]; simp at gl; omega⟩
    rcases List.mem_cons.mp hx with rfl | hx
    · exact gr _ (List.mem_append_right _ List.mem_cons_self)
    · exact g.l x hx
theorem Good.on {B : Nat} {st : LedSt} (g : Good B st) : Good B st.on := by
  unfold LedSt.on
  split
  · exact g
  · rename_i e l h
    have gl := g.len
    have gr := g.l
    rw [h] at gl gr
    refine ⟨g.f, g.n, fun x hx => ?_, fun x hx => gr x (List.mem_cons_of_mem _ hx), by show (st.rest ++ [e]).length + l.length ≤ B; rw [List.length_append]; simp at gl ⊢; omega⟩
    rcases List.mem_append.mp hx with hx | hx
    · exact g.r x hx
    · rw [List.mem_singleton.mp hx]
      exact gr _ List.mem_cons_self
theorem Good.keep {B : Nat} {st : LedSt} {e : Entry} (g : Good B st) (he : e.Ok) (hd : ∃ d, e.deed = some d) : Good (B + 1) (st.keep e) := by
  have gl := g.len
  refine ⟨g.f, g.n, fun x hx => ?_, fun x hx => absurd hx List.not_mem_nil, by show (st.rest ++ [e]).length + 0 ≤ B + 1; rw [List.length_append]; show _ + 1 + 0 ≤ _; omega⟩
  rcases List.mem_append.mp hx with hx | hx
  · exact g.r x hx
  · rw [List.mem_singleton.mp hx]
    exact ⟨he, hd⟩
theorem back_first (st : LedSt) : st.back.first = st.first := by
  unfold LedSt.back
  split <;> rfl
theorem on_first (st : LedSt) : st.on.first = st.first := by
  unfold LedSt.on
  split <;> rfl
theorem noL_led {H : Hp} {L : Addr} {st : LedSt} (h : LedAt K CL H L st) : NoL H [L] := fun a ha xs e => by
  obtain ⟨p, q, ⟨dl, hl⟩, _⟩ := h
  rw [List.mem_singleton.mp ha, hl] at e
  cases e
theorem noL_own {H : Hp} {O : Addr} {st : LedSt} (h : OwnAt K H O st) : NoL H [O] := fun a ha xs e => by
  obtain ⟨p, q, ps, qs, h0, _⟩ := h
  rw [List.mem_singleton.mp ha, h0] at e
  cases e
theorem noL_m {H : Hp} {m c g : Addr} {n : Nat} (h : MAt H m c g n) : NoL H [m] := fun a ha xs e => by
  rw [List.mem_singleton.mp ha, h.m] at e
  cases e
theorem NoL.cons {H : Hp} {a : Addr} {S : List Addr} (h1 : NoL H [a]) (h2 : NoL H S) : NoL H (a :: S) := fun x hx xs => by
  rcases List.mem_cons.mp hx with rfl | hx
  · exact h1 x List.mem_cons_self xs
  · exact h2 x hx xs
theorem MAt.kp {H H' : Hp} {m c g : Addr} {n : Nat} {S : List Addr} (h : MAt H m c g n) (k : Kp TT false S H H') (hm : m ∉ S) (hS : NoL H S) : MAt H' m c g n := by
  obtain ⟨ne, h0, ⟨cs, h1, h2, h3⟩, ⟨gs, h4, h5⟩⟩ := h
  exact ⟨ne, k.keep _ _ h0 hm rfl, ⟨cs, k.keep _ _ h1 (fun z => hS c z _ h1) (soft_false _), h2, h3⟩, ⟨gs, k.keep _ _ h4 (fun z => hS g z _ h4) (soft_false _), h5⟩⟩
theorem m_ne_led {H : Hp} {m c g L : Addr} {n : Nat} {st : LedSt} (h : MAt H m c g n) (h2 : LedAt K CL H L st) : m ≠ L := fun z => by
  obtain ⟨p, q, ⟨dl, hl⟩, _⟩ := h2
  rw [← z, h.m] at hl
  cases hl
theorem m_ne_own {H : Hp} {m c g O : Addr} {n : Nat} {st : LedSt} (h : MAt H m c g n) (h2 : OwnAt K H O st) : m ≠ O := fun z => by
  obtain ⟨p, q, ps, qs, h0, _⟩ := h2
  rw [← z, h.m] at h0
  cases h0
theorem led_ne_own {H : Hp} {L O : Addr} {st su : LedSt} (h : LedAt K CL H L st) (h2 : OwnAt K H O su) : L ≠ O := fun z => by
  obtain ⟨p, q, ps, qs, h0, _⟩ := h2
  obtain ⟨_, _, ⟨dl, hl⟩, _⟩ := h
  rw [z, h0] at hl
  cases hl
theorem year_shape {h : House} {st : Stand} {t : Nat} {v : Row} (sh : Shape h st) : Shape h (year h st t v) := by
  have hl := shape_len sh
  refine List.ext_getElem? fun i => ?_
  unfold year
  rw [List.getElem?_map, List.getElem?_map, List.getElem?_map]
  cases hb : h.bodies[i]? with
  | none =>
    have := List.getElem?_eq_none_iff.mp hb
    rw [List.getElem?_eq_none (by rw [List.length_zip]; omega)]
    rfl
  | some b =>
    have hi : i < h.bodies.length := (List.getElem?_eq_some_iff.mp hb).1
    obtain ⟨r, hr⟩ : ∃ r, st[i]? = some r := ⟨_, List.getElem?_eq_getElem (by omega)⟩
    obtain ⟨b', hb', hrb⟩ := shape_row sh hr
    rw [hb] at hb'
    obtain rfl := Option.some.inj hb'
    rw [zip_at hb hr]
    show some (((b.zip r).map (seatYear h st t v)).length) = some b.length
    rw [List.length_map, List.length_zip, hrb, Nat.min_self]
theorem not1 {a b : Addr} (h : a ≠ b) : a ∉ [b] := fun z => h (List.mem_singleton.mp z)
/-! ### _law_turn -/
abbrev N68 : List Str := ["m", "led", "own", "way", "here", "k", "spot", "seat", "house_so", "vote", "stand_so"]
theorem sc68 : FnScope N68 ["m", "led", "own"] (defScope (top 68)) := ⟨rfl, rfl, rfl, by decide +kernel, rfl, by decide +kernel, by decide +kernel⟩
def spTurn (K : PySem.W.Frag) (TT : List (Addr × Str)) (CL : Addr) (B : Nat) : Sp := fun vs H Q _ => ∃ (m c g : Addr) (n : Nat) (L O : Addr) (st : LedSt), vs = [.ref m, .ref L, .ref O] ∧ MAt H m c g n ∧ n + 100 ≤ 100000 ∧ LedAt K CL H L st ∧ OwnAt K H O st ∧ Good B st ∧ B < 400 ∧
  ∀ H' st' n', Kp TT true [m, L, O] H H' → MAt H' m c g n' → n' ≤ n + 20 → LedAt K CL H' L st' → OwnAt K H' O st' → (∀ C, Good C st → Good (C + 1) st') → st'.first = st.first → Q (.bl true) H'
theorem ok_turn (T : Txt K mg) (G : LedF K mg CL) {B : Nat} : GZ P w K mg base CX0 8 "_law_turn" ["m", "led", "own"] (spTurn K TT CL B) := by
  have nd := sc68.nd
  have CLS := G.cls
  have G__law_draw := ok_draw (P := P) (w := w) (base := base) (TT := TT) T
  have G__law_like := ok_like (P := P) (w := w) (base := base) T
  have G_undo := ok_undo (P := P) (w := w) (base := base) (TT := TT) G T (B := B)
  have G_redo := ok_redo (P := P) (w := w) (base := base) (TT := TT) G (B := B) (mg := mg)
  have G__law_gone_back := ok_gone_back (P := P) (w := w) (base := base) (TT := TT) T (B := B)
  have G__law_gone_on := ok_gone_on (P := P) (w := w) (base := base) (TT := TT) T (B := B)
  have G__law_amended := ok_amended (P := P) (w := w) (base := base) (TT := TT) T
  have G__law_kept := ok_kept (P := P) (w := w) (base := base) (TT := TT) T
  have G_amend := ok_amend (P := P) (w := w) (base := base) (TT := TT) G T (B := B)
  have G__law_votes := ok_votesD (P := P) (w := w) (base := base) (TT := TT) T
  have G__law_after := ok_after (P := P) (w := w) (base := base) T
  have G__law_ones := ok_ones (P := P) (w := w) (base := base) T
  have G__law_voted := ok_voted (P := P) (w := w) (base := base) T (B := B)
  have G_vote := ok_vote (P := P) (w := w) (base := base) (TT := TT) G T (B := B)
  refine gz (T.df (68, "_law_turn") (by decide +kernel)) sc68 (fun _ _ _ _ _ _ us hl => match us, hl with | [_, _, _], _ => rfl) (fun vs H Q E h => ?_) (fun f cdv A outer s H vs Q E hr gd h => ?_)
  · obtain ⟨_, _, _, _, _, _, _, rfl, _⟩ := h
    rfl
  · obtain ⟨m, c, g, n, L, O, st, rfl, hm, hn, ha, own, gd0, hB, hQ⟩ := h
    have mb_len := T.no "len" (by decide +kernel)
    have hu := hu_of hr
    refine ⟨_, (pss_cons (ps_par (i := 3) (j := 4) rfl nd rfl rfl (by decide) rfl rfl (pa_cons (pe_g G__law_draw hr pass0 (pa_cons (pv 0) (pa_cons (pe_int) pa_nil))) (pa_cons (pe_ix ix_list (pe_dget hu (pv 2) (pe_str) (fun _ _ => rfl)) (pe_un un_neg (pe_int)) (fun _ _ => rfl)) pa_nil)) rfl)
       (pss_cons (ps_if (pt_cmpR op_lt (pv 3) (pe_int) (nomark _)) (pss_one (ps_ret (pe_z G__law_like hr gd (fun _ => at0) (pa_cons (pe_gm0 G_undo CLS hr pass0 (pv 1)) (pa_cons (pe_g G__law_gone_back hr pass0 (pa_cons (pv 2) pa_nil)) pa_nil))))) pss_nil)
       (pss_cons (ps_if (pt_cmpR op_eq (pv 3) (pe_int) (nomark _)) (pss_one (ps_ret (pe_z G__law_like hr gd (fun _ => at0) (pa_cons (pe_gm0 G_redo CLS hr pass0 (pv 1)) (pa_cons (pe_g G__law_gone_on hr pass0 (pa_cons (pv 2) pa_nil)) pa_nil))))) pss_nil)
       (pss_cons (ps_if (pt_cmpR op_lt (pv 3) (pe_int) (nomark _)) (pss_cons (ps_asg (pe_g G__law_amended hr pass0 (pa_cons (pv 0) (pa_cons (pe_ix ix_tup (pv 4) (pe_int) (fun _ _ => rfl)) pa_nil))) (pg_tup rfl (pgs_cons (pg_name (i := 5) nd rfl (Or.inl rfl)) (pgs_cons (pg_name (i := 6) nd rfl (Or.inl rfl)) (pgs_cons (pg_name (i := 7) nd rfl (Or.inl rfl)) (pgs_cons (pg_name (i := 8) nd rfl (Or.inl rfl)) pgs_nil))))))
       (pss_cons (ps_expr (pe_g G__law_kept hr pass0 (pa_cons (pv 2) (pa_cons (pe_tup (pa_cons (pe_str) (pa_cons (pv 5) (pa_cons (pv 6) (pa_cons (pv 7) pa_nil))))) (pa_cons (pv 8) (pa_cons (pe_ix ix_tup (pv 4) (pe_int) (fun _ _ => rfl)) pa_nil))))))
       (pss_one (ps_ret (pe_cmpR op_isN (pe_gm G_amend CLS hr pass0 (pv 1) (pa_cons (pv 5) (pa_cons (pv 6) (pa_cons (pv 7) pa_nil)))) (pe_non) (nomark _)))))) pss_nil)
       (pss_cons (ps_set (i := 9) nd rfl (Or.inl rfl) (pe_ix ix_tup (pe_g G__law_votes hr pass0 (pa_cons (pv 0) (pa_cons (pe_ix ix_tup (pe_ix ix_tup (pv 4) (pe_int) (fun _ _ => rfl)) (pe_int) (fun _ _ => rfl)) (pa_cons (pe_int) pa_nil)))) (pe_int) (fun _ _ => rfl)))
       (pss_cons (ps_set (i := 10) nd rfl (Or.inl rfl) (pe_g G__law_after hr pass0 (pa_cons (pe_ix ix_tup (pv 4) (pe_int) (fun _ _ => rfl)) (pa_cons (pe_g G__law_ones hr pass0 (pa_cons (pe_ix ix_tup (pv 4) (pe_int) (fun _ _ => rfl)) pa_nil)) (pa_cons (pe_ix ix_tup (pv 4) (pe_int) (fun _ _ => rfl)) (pa_cons (pe_callB call_len_seq rfl mb_len PySem.boot_len (pa_cons (pe_g G__law_voted hr pass0 (pa_cons (pv 2) pa_nil)) pa_nil)) (pa_cons (pv 9) pa_nil)))))))
       (pss_cons (ps_expr (pe_g G__law_kept hr pass0 (pa_cons (pv 2) (pa_cons (pe_tup (pa_cons (pe_str) (pa_cons (pv 9) pa_nil))) (pa_cons (pe_ix ix_tup (pv 4) (pe_int) (fun _ _ => rfl)) (pa_cons (pv 10) pa_nil))))))
       (pss_one (ps_ret (pe_z G__law_like hr gd (fun _ => at0) (pa_cons (pe_gm G_vote CLS hr pass0 (pv 1) (pa_cons (pv 9) pa_nil)) (pa_cons (pv 10) pa_nil)))))))))))), ?_⟩
    refine ⟨_, rfl, m, c, g, n, 10, rfl, by decide, by decide, hm, by omega, fun z H1 hz k1 m1 => ?_⟩
    have mL := m_ne_led hm ha
    have mO := m_ne_own hm own
    have LO := led_ne_own ha own
    have ha1 : LedAt K CL H1 L st := ha.kp k1 (not1 (Ne.symm mL))
    have own1 : OwnAt K H1 O st := own.kp k1 (not1 (Ne.symm mO)) (noL_m hm)
    have k1' : Kp TT true [m, L, O] H H1 := k1.mono (by simp)
    have goL : ∀ {Ha Hb : Hp}, Kp TT false [L] Ha Hb → Kp TT true [m, L, O] Ha Hb := fun k => k.any.mono (by simp)
    have goO : ∀ {Ha Hb : Hp}, Kp TT false [O] Ha Hb → Kp TT true [m, L, O] Ha Hb := fun k => k.any.mono (by simp)
    have goM : ∀ {Ha Hb : Hp}, Kp TT true [m] Ha Hb → Kp TT true [m, L, O] Ha Hb := fun k => k.mono (by simp)
    obtain ⟨p, q, ps, qs, h0, hp, tp, hq, tq⟩ := id own1
    rw [past_lastE] at tp
    obtain ⟨zl, hz', tz⟩ := last_all tp
    obtain ⟨pl', ql', ⟨dl, hl⟩, _⟩ := id ha1
    have gl := gd0.len
    have fstB := back_first st
    have fstO := on_first st
    refine ⟨_, rfl, O, .ref p, rfl, DGet.k (k := Sum.inr "past") h0, _, rfl, p, ps, _, zl, rfl, rfl, SqL.of hp, hz', _, _, rfl, ?_⟩
    refine ⟨_, rfl, _, _, rfl, rfl, _, rfl, ?_⟩
    refine (show if decide ((z : Int) < 2) = true then _ else _ from ?_)
    by_cases hz2 : z < 2
    · refine iteD (by omega) ?_
      refine ⟨_, rfl, L, dl, _, rfl, hl, rfl, L, st, rfl, ha1, gd0, by omega, fun H2 k2 a2 => ?_⟩
      have own2 := own1.kp k2 (not1 (Ne.symm LO)) (noL_led ha1)
      have m2 := m1.kp k2 (not1 mL) (noL_led ha1)
      refine ⟨_, rfl, O, st, rfl, own2, gd0, by omega, fun H3 k3 own3 => ?_⟩
      refine ⟨_, _, .bool (!st.rest.isEmpty), rfl, (Tp.bl _).dp, (Tp.bl _).dp, Nice.bl, ?_⟩
      exact hQ _ _ _ ((k1'.trans (goL k2)).trans (goO k3)) (m2.kp k3 (not1 mO) (noL_own own2)) (by omega) (a2.kp k3 (not1 LO)) own3 (fun C gC => gC.back.mono (by omega)) fstB
    · refine iteDF (by omega) ?_
      refine ⟨_, rfl, rfl, _, rfl, ?_⟩
      refine (show if decide (V.int (z : Int) = V.int 2) = true then _ else _ from ?_)
      by_cases hz3 : z = 2
      · refine iteD (by rw [hz3]; rfl) ?_
        refine ⟨_, rfl, L, dl, _, rfl, hl, rfl, L, st, rfl, ha1, gd0, by omega, fun H2 k2 a2 => ?_⟩
        have own2 := own1.kp k2 (not1 (Ne.symm LO)) (noL_led ha1)
        have m2 := m1.kp k2 (not1 mL) (noL_led ha1)
        refine ⟨_, rfl, O, st, rfl, own2, gd0, by omega, fun H3 k3 own3 => ?_⟩
        refine ⟨_, _, .bool (!st.later.isEmpty), rfl, (Tp.bl _).dp, (Tp.bl _).dp, Nice.bl, ?_⟩
        exact hQ _ _ _ ((k1'.trans (goL k2)).trans (goO k3)) (m2.kp k3 (not1 mO) (noL_own own2)) (by omega) (a2.kp k3 (not1 LO)) own3 (fun C gC => gC.on.mono (by omega)) fstO
      · refine iteDF (fun e => hz3 (by injection e with e; omega)) ?_
        refine ⟨_, rfl, _, _, rfl, rfl, _, rfl, ?_⟩
        refine (show if decide ((z : Int) < 5) = true then _ else _ from ?_)
        have lok := gd0.last
        obtain ⟨Lh, okh⟩ := lok.h
        have w4 := okh.wd
        by_cases hz5 : z < 5
        · refine iteD (by omega) ?_
          obtain ⟨a1, x1, z1, rfl, s1, i1, u1⟩ := ix_of (j := 1) tz rfl
          obtain ⟨a2, x2, z2, ea, s2, i2, u2⟩ := ix_of (j := 2) tz rfl
          cases ea
          refine ⟨_, rfl, _, rfl, a1, x1, _, z1, rfl, rfl, s1, i1, m, c, g, _, z1, st.last.house, Lh, rfl, u1, okh, m1, by omega, fun v k pp b s0 n2 H2 hb hpb hs tv k2 m2 hn2 => ?_⟩
          obtain ⟨av, xv, rfl, sv, txv⟩ := tv.tup_inv
          obtain ⟨_, _, rfl, t0, txv⟩ := txv.cons_inv
          obtain ⟨_, _, rfl, t1, txv⟩ := txv.cons_inv
          obtain ⟨vs1, _, rfl, t2, txv⟩ := txv.cons_inv
          obtain ⟨vh1, _, rfl, t3, txv⟩ := txv.cons_inv
          obtain rfl := txv.nil_inv
          obtain rfl := t0.int_inv
          obtain rfl := t1.int_inv
          refine ⟨av, _, rfl, sv, rfl, _, _, rfl, _, _, rfl, _, _, rfl, _, _, rfl, rfl, ?_⟩
          have ha2 := ha1.kp k2 (not1 (Ne.symm mL))
          have own2 := own1.kp k2 (not1 (Ne.symm mO)) (noL_m m1)
          refine ⟨_, rfl, _, rfl, _, rfl, _, rfl, by show 4 ≤ sizeLine; decide, fun n1 w1 => ⟨_, rfl, _, rfl, a1, x2, _, z2, rfl, rfl, SqT.kp (k2.and_new w1) s2, i2, ?_⟩⟩
          have ee := Evl.Ex.new (o := .tup [V.str "amend", .int k, .int pp, vs1]) w1
          have td : Tp K _ (.ref n1) (dDeed (some (.amend k pp s0))) := Tp.new (.cons (.str _) (.cons (.int _) (.cons (.int _) (.cons t2 .nil)))) w1
          have own3 := own2.ex ee
          have ha3 := ha2.ex ee
          have m3 := m2.ex ee
          have t23 := t2.ex ee
          have aok : (amended st.last.house k pp s0).OkL Lh := amended_okL okh hb hpb hs
          have bk : k < st.last.house.bodies.length := (List.getElem?_eq_some_iff.mp hb).1
          have b9 := (okh.sz b (List.mem_of_getElem? hb)).2
          have bb3 := okh.b3
          refine ⟨O, st, .ref n1, vh1, z2, ⟨some (.amend k pp s0), amended st.last.house k pp s0, st.last.stand⟩, rfl, own3, by omega, td, t3.ex ee, u2.kp (k2.and_new w1), fun H4 k4 own4 => ?_⟩
          have ha4 := ha3.kp k4 (not1 LO)
          have m4 := m3.kp k4 (not1 mO) (noL_own own3)
          obtain ⟨p4, q4, ⟨dl4, hl4⟩, _⟩ := id ha4
          refine ⟨_, rfl, L, dl4, _, rfl, hl4, rfl, _, rfl, _, rfl, _, rfl, L, st, k, pp, vs1, s0, b, rfl, ha4, gd0, hB, t23.kp k4, hb, hpb, ⟨Lh, aok⟩, fun H5 k5 a5 => ?_⟩
          refine ⟨rfl, ?_⟩
          show Q (.bl (decide (V.non = V.non))) H5
          rw [decide_eq_true rfl]
          have own5 := own4.kp k5 (not1 (Ne.symm LO)) (noL_led ha4)
          have m5 := m4.kp k5 (not1 mL) (noL_led ha4)
          have bl9 : b.length ≤ 9 := b9
          exact hQ _ _ _ ((((k1'.trans (goM k2)).trans (.of_ex ee)).trans (goO k4)).trans (goL k5)) m5 (by omega) a5 own5 (fun C gC => gC.keep ⟨⟨Lh, aok⟩, amended_shape lok.sh hb hpb, fun d hd => by
            cases hd
            exact ⟨by omega, by omega, Lh, _, _, (by omega : st.last.house.bodies.length ≤ 1000), (by omega : st.last.house.wards ≤ 1000), hs⟩⟩ ⟨_, rfl⟩) rfl
        · refine iteDF (by omega) ?_
          obtain ⟨a1, x1, z1, rfl, s1, i1, u1⟩ := ix_of (j := 1) tz rfl
          obtain ⟨a2, x2, z2, ea, s2, i2, u2⟩ := ix_of (j := 2) tz rfl
          cases ea
          obtain ⟨ah, xh, zw, rfl, sh1, ih1, uw⟩ := ix_of (j := 1) u1 rfl
          obtain rfl := uw.int_inv
          refine ⟨_, rfl, _, rfl, a1, x1, _, _, rfl, rfl, s1, i1, ah, xh, _, _, rfl, rfl, sh1, ih1, m, c, g, _, st.last.house.wards, 1, rfl, by omega, by decide, m1, by omega, fun v rs n2 H2 hrs hrw tv k2 m2 hn2 => ?_⟩
          obtain ⟨r, rfl⟩ : ∃ r, rs = [r] := by
            match rs, hrs with
            | [r], _ => exact ⟨r, rfl⟩
          have hrl : r.length = st.last.house.wards := hrw r List.mem_cons_self
          obtain ⟨ax, xx, zx, rfl, sx, ixx, ux⟩ := ix_of (j := 0) tv rfl
          obtain rfl := ux.str_inv
          have ha2 := ha1.kp k2 (not1 (Ne.symm mL))
          have own2 := own1.kp k2 (not1 (Ne.symm mO)) (noL_m m1)
          refine ⟨ax, xx, _, _, rfl, rfl, sx, ixx, ?_⟩
          have cv : ∀ {H' : Hp} {a : Addr} {xs : List V}, Ex H2 H' → SqT K H1 a xs → SqT K H' a xs := fun e s => SqT.kp (T := []) (b := false) (S := []) (.of_ex e) (SqT.kp k2 s)
          refine ⟨_, rfl, a1, x1, _, _, rfl, rfl, SqT.kp k2 s1, i1, _, rfl, a1, x1, _, _, rfl, rfl, SqT.kp k2 s1, i1, .ref ah, st.last.house, rfl, u1.kp k2, ⟨Lh, okh⟩, fun g5 H3 e3 on3 => ?_⟩
          refine ⟨_, rfl, a1, x2, _, z2, rfl, rfl, cv e3 s2, i2, _, rfl, O, st, rfl, own2.ex e3, gd0, by omega, fun vv H4 e4 tvv => ?_⟩
          obtain ⟨av, xv, rfl, sv, txv⟩ := tvv.tup_inv
          have hxv : xv.length = st.votes.length := by rw [txv.len, List.length_map]
          have e24 := e3.trans e4
          have on4 : OnesAt H4 g5 st.last.house := by
            obtain ⟨zs, h0, hl, hs⟩ := on3
            exact ⟨zs, e4 _ _ h0, hl, fun i b hb => by
              obtain ⟨a, h1, h2⟩ := hs i b hb
              exact ⟨a, h1, e4 _ _ h2⟩⟩
          refine ⟨av, xv, rfl, .inr sv, _, rfl, .ref ah, z2, g5, st.last.house, st.last.stand, xv.length, r, rfl, (u1.kp k2).ex e24, on4, (u2.kp k2).ex e24, ⟨Lh, okh⟩, lok.sh, hrl, fun zs H5 e5 tzs => ?_⟩
          rw [hxv] at tzs
          have e25 := e24.trans e5
          have ha5 := ha2.ex e25
          have own5 := own2.ex e25
          have m5 := m2.ex e25
          have u15 := (u1.kp k2).ex e25
          refine ⟨_, rfl, _, rfl, by show 2 ≤ sizeLine; decide, fun n1 w1 => ⟨_, rfl, a1, x1, _, _, rfl, rfl, cv (e25.trans (.new w1)) s1, i1, _, rfl, ?_⟩⟩
          have ee := Evl.Ex.new (o := .tup [V.str "vote", .str (txt r)]) w1
          have td : Tp K _ (.ref n1) (dDeed (some (.vote r))) := Tp.new (.cons (.str _) (.cons (.str _) .nil)) w1
          have ha6 := ha5.ex ee
          have own6 := own5.ex ee
          have m6 := m5.ex ee
          refine ⟨O, st, .ref n1, .ref ah, zs, ⟨some (.vote r), st.last.house, year st.last.house st.last.stand st.votes.length r⟩, rfl, own6, by omega, td, u15.ex ee, tzs.ex ee, fun H7 k7 own7 => ?_⟩
          have ha7 := ha6.kp k7 (not1 LO)
          have m7 := m6.kp k7 (not1 mO) (noL_own own6)
          have tzs7 := (tzs.ex ee).kp k7
          obtain ⟨p7, q7, ⟨dl7, hl7⟩, _⟩ := id ha7
          refine ⟨_, rfl, L, dl7, _, rfl, hl7, rfl, _, rfl, L, st, r, rfl, ha7, gd0, hB, hrl, fun zv H8 k8 a8 t8 => ?_⟩
          have own8 := own7.kp k8 (not1 (Ne.symm LO)) (noL_led ha7)
          have m8 := m7.kp k8 (not1 mL) (noL_led ha7)
          have ysh : Shape st.last.house (year st.last.house st.last.stand st.votes.length r) := year_shape lok.sh
          refine ⟨_, rfl, zv, zs, dStand (year st.last.house st.last.stand st.votes.length r), rfl, t8.dp, (tzs7.kp k8).dp, (nice_stand okh ysh).mono (by decide) (by decide), ?_⟩
          exact hQ _ _ _ ((((k1'.trans (goM k2)).trans (.of_ex (e25.trans ee))).trans (goO k7)).trans (goL k8)) m8 (by omega) a8 own8 (fun C gC => gC.keep ⟨⟨Lh, okh⟩, ysh, fun d hd => by
            cases hd
            show r.length ≤ 9
            omega⟩ ⟨_, rfl⟩) rfl
end
end T93
-- M14
set_option maxHeartbeats 2000000
/-! T93, part M14: what may come again. -/
namespace T93
open PySem PySem.Spec PyProof.Rows L2
section
variable {P : Program} {w : World} {K : PySem.W.Frag} {mg : Str → Option Value} {base : Heap} {TT : List (Addr × Str)} {CL CT CB : Addr}

/-- x is True and the like: both are bools -/
def rIsB : R2 := fun x y H Q => ∃ a b, x = .bl a ∧ y = .bl b ∧ Q (.bl (decide (a = b))) H
def rNotB : R2 := fun x y H Q => ∃ a b, x = .bl a ∧ y = .bl b ∧ Q (.bl (!decide (a = b))) H
theorem op_isB {X : Cx} : OpR X (compareOp .Is) rIsB := by
  intro pins s σ H x y v u Q I rx ry h
  obtain ⟨a, b, rfl, rfl, q⟩ := h
  cases rx
  cases ry
  exact wpAny_is_plain rfl (fin_bl I q (by cases a <;> cases b <;> rfl))
theorem op_notB {X : Cx} : OpR X (compareOp .IsNot) rNotB := by
  intro pins s σ H x y v u Q I rx ry h
  obtain ⟨a, b, rfl, rfl, q⟩ := h
  cases rx
  cases ry
  exact wpAny_isNot_plain rfl (fin_bl I q (by cases a <;> cases b <;> rfl))
theorem last_eq {st : LedSt} {l : List Entry} {e : Entry} (h : st.past = l ++ [e]) : st.last = e := by
  have h1 : st.past.getLast? = some e := by rw [h]; exact List.getLast?_concat
  have h2 := List.getLast?_eq_some_getLast (List.cons_ne_nil st.first st.rest)
  exact (Option.some.inj (h2.symm.trans h1))
section
variable {k : Nat} {x : Str} {st : Stmt} {N ps : List Str} {sp : Sp}
/-- gz that raises nothing -/
theorem gzn (D : Df K mg x st) (S : FnScope N ps (defScope st))
    (hb : ∀ (kV doc pm : Value) (an : Option Addr) (cdv ct : Value) (us : List Value), us.length = ps.length → bindArgs (PySem.W.fnOf x x (defArgs st) (defBody st) (defScope st) .none kV doc pm an cdv ct) ⟨us, []⟩ = pure (ps.zip us))
    (len : ∀ vs H Q E, sp vs H Q E → vs.length = ps.length)
    (hbody : ∀ (f : Addr) (cdv : Value) (A : Around) (outer : List Env) (s : Shared) (H : Hp) (vs : List V) (Q : VK) (E : XK), Room k (A.deeper (envOfC x (defScope st) s.heap.objs.size f cdv)) → A.guards = some [] → sp vs H Q E →
      ∃ t, PSs (cxOf CX0 P w K mg base N x (defScope st) f cdv A outer s H E).nox (defBody st) t ∧ t { nx := fun _ H' => Q .non H', rt := Q } (start N vs) H) : GZ P w K mg base CX0 (k + 1) x ps sp :=
  gz D S hb len fun f cdv A outer s H vs Q E hr gd h => by
    obtain ⟨t, h1, h2⟩ := hbody f cdv A outer s H vs Q E hr gd h
    exact ⟨t, h1.nox, h2⟩
end
def LedSt.fwd (st : LedSt) (k : Nat) : LedSt := ⟨st.first, st.rest ++ st.later.take k, st.later.drop k⟩
theorem fwd_zero (st : LedSt) : st.fwd 0 = st := by
  unfold LedSt.fwd
  rw [List.take_zero, List.drop_zero, List.append_nil]
theorem fwd_succ {st : LedSt} {k : Nat} {e : Entry} (h : st.later[k]? = some e) : (st.fwd k).on = st.fwd (k + 1) := by
  have hk : k < st.later.length := (List.getElem?_eq_some_iff.mp h).1
  have d : st.later.drop k = e :: st.later.drop (k + 1) := by
    rw [List.drop_eq_getElem_cons hk]
    rw [List.getElem?_eq_getElem hk] at h
    rw [Option.some.inj h]
  have t : st.later.take (k + 1) = st.later.take k ++ [e] := take_snoc h
  unfold LedSt.fwd LedSt.on
  rw [d]
  show (⟨_, _, _⟩ : LedSt) = _
  rw [t, List.append_assoc]
theorem fwd_last {st : LedSt} {k : Nat} {e : Entry} (h : st.later[k]? = some e) : (st.fwd (k + 1)).last = e := by
  refine last_eq (l := st.first :: (st.rest ++ st.later.take k)) ?_
  show st.first :: (st.rest ++ st.later.take (k + 1)) = _
  rw [take_snoc h, List.cons_append, List.append_assoc]
theorem Good.fwd {B : Nat} {st : LedSt} (g : Good B st) (k : Nat) : Good B (st.fwd k) := by
  have gl := g.len
  refine ⟨g.f, g.n, fun x hx => ?_, fun x hx => g.l x (List.mem_of_mem_drop hx), ?_⟩
  · rcases List.mem_append.mp hx with hx | hx
    · exact g.r x hx
    · exact g.l x (List.mem_of_mem_take hx)
  · show (st.rest ++ st.later.take k).length + (st.later.drop k).length ≤ B
    rw [List.length_append, List.length_take, List.length_drop]
    omega
/-! ### _law_later_right -/
abbrev N71 : List Str := ["led", "own", "twin", "k"]
theorem sc71 : FnScope N71 ["led", "own"] (defScope (top 71)) := ⟨rfl, rfl, rfl, by decide +kernel, rfl, by decide +kernel, by decide +kernel⟩
def spLaterRight (K : PySem.W.Frag) (TT : List (Addr × Str)) (CL : Addr) (B : Nat) : Sp := fun vs H Q _ => ∃ L O st, vs = [.ref L, .ref O] ∧ LedAt K CL H L st ∧ OwnAt K H O st ∧ Good B st ∧ B ≤ 1000 ∧ ∀ H', Kp TT false [] H H' → Q (.bl true) H'
theorem ok_later_right (T : Txt K mg) (G : LedF K mg CL) {B : Nat} : GZ P w K mg base CX0 11 "_law_later_right" ["led", "own"] (spLaterRight K TT CL B) := by
  have nd := sc71.nd
  have CLS := G.cls
  have G__law_like := ok_like (P := P) (w := w) (base := base) T
  have G_copy := ok_copy (P := P) (w := w) (base := base) (TT := TT) G T (B := B)
  have G_redo := ok_redo (P := P) (w := w) (base := base) (TT := TT) G (B := B) (mg := mg)
  have G_stand := ok_stand (P := P) (w := w) (base := base) G
  refine gzn (T.df (71, "_law_later_right") (by decide +kernel)) sc71 (fun _ _ _ _ _ _ us hl => match us, hl with | [_, _], _ => rfl) (fun vs H Q E h => ?_) (fun f cdv A outer s H vs Q E hr gd h => ?_)
  · obtain ⟨_, _, _, rfl, _⟩ := h
    rfl
  · obtain ⟨L, O, st, rfl, ha, own, g, hB, hQ⟩ := h
    have mb_len := T.no "len" (by decide +kernel)
    have mb_range := T.no "range" (by decide +kernel)
    have hu := hu_of hr
    refine ⟨_, (pss_cons (ps_set (i := 2) nd rfl (Or.inl rfl) (pe_gm0 G_copy CLS hr pass0 (pv 0)))
       (pss_cons (ps_for PassesOwn.never rfl (pi_range1 rfl mb_range (pa_cons (pe_callB call_len_seq rfl mb_len PySem.boot_len (pa_cons (pe_dget hu (pv 1) (pe_str) (fun _ _ => rfl)) pa_nil)) pa_nil)) (pg_name (i := 3) nd rfl (Or.inl rfl)) (pss_one (ps_if (PW.pt (pw_or (pt_cmpR op_notB (pe_gm0 G_redo CLS hr pass0 (pv 2)) (pe_bl) (nomark _)) (pw_or1 (pt_not (pt_val (pe_z G__law_like hr gd (fun _ => at0) (pa_cons (pe_gp G_stand CLS hr (pv 2)) (pa_cons (pe_ix ix_tup (pe_ix ix_list (pe_dget hu (pv 1) (pe_str) (fun _ _ => rfl)) (pv 3) (fun _ _ => rfl)) (pe_int) (fun _ _ => rfl)) pa_nil)))))))) (pss_one (ps_ret (pe_bl))) pss_nil)))
       (pss_one (ps_ret (pe_cmpR op_isB (pe_gm0 G_redo CLS hr pass0 (pv 2)) (pe_bl) (nomark _)))))), ?_⟩
    obtain ⟨p, q, ps, qs, h0, hp, tp, hq, tq⟩ := id own
    have hql : qs.length = st.later.length := by rw [tq.len, List.length_map]
    have gl := g.len
    obtain ⟨_, _, ⟨dl, hl⟩, _⟩ := id ha
    refine ⟨_, rfl, L, dl, _, rfl, hl, rfl, L, st, rfl, ha, g, fun T1 H1 nT k1 a1 => ?_⟩
    have own1 := own.kp k1 List.not_mem_nil (fun _ z => absurd z List.not_mem_nil)
    have kpO : ∀ {H' : Hp}, Kp TT false [] H H' → H' O = _ ∧ H' q = _ := fun k => ⟨k.keep _ _ h0 List.not_mem_nil rfl, k.keep _ _ hq List.not_mem_nil (soft_es tq false)⟩
    refine ⟨_, rfl, O, .ref q, rfl, DGet.k (k := Sum.inr "later") (kpO k1).1, q, qs, rfl, .inl (SqL.of (kpO k1).2), _, rfl, by omega, by omega, ?_⟩
    rw [Int.toNat_natCast]
    refine for_it walk_range (fun i σ H' => Kp TT false [] H H' ∧ LedAt K CL H' T1 (st.fwd i) ∧ ∃ o3 : Option V, σ = [some (.ref L), some (.ref O), some (.ref T1), o3]) ⟨k1, by rw [fwd_zero]; exact a1, _, rfl⟩ (fun _ _ _ _ _ => True.intro) (fun i x σ H2 H3 hi pp y => ?_) (fun σ H2 pp => ?_)
    · obtain ⟨rfl, rfl⟩ := y
      obtain ⟨k2, a2, o3, rfl⟩ := pp
      obtain ⟨e, he⟩ : ∃ e, st.later[i]? = some e := ⟨_, List.getElem?_eq_getElem (by omega)⟩
      obtain ⟨_, _, ⟨dt, ht⟩, _⟩ := id a2
      refine ⟨_, rfl, T1, dt, _, rfl, ht, rfl, T1, _, rfl, a2, g.fwd i, by omega, fun H4 k4 a4 => ?_⟩
      have hne : (!(st.fwd i).later.isEmpty) = true := by
        have : i < st.later.length := by omega
        show (!(st.later.drop i).isEmpty) = true
        cases hd : st.later.drop i with
        | nil =>
          have := congrArg List.length hd
          rw [List.length_drop] at this
          simp at this
          omega
        | cons _ _ => rfl
      rw [hne]
      rw [fwd_succ he] at a4
      have k5 : Kp TT false [] H H4 := k2.fresh (k4.mono (by simp)) nT
      obtain ⟨_, _, ⟨dt4, ht4⟩, _⟩ := id a4
      obtain ⟨ze, hze, tze⟩ := (tq.kp k5).get (i := i) (d := dEntry e) (by rw [List.getElem?_map, he]; rfl)
      obtain ⟨a3, x3, z3, rfl, s3, i3, u3⟩ := ix_of (j := 2) tze rfl
      have eok := (g.l e (List.mem_of_getElem? he)).1
      obtain ⟨Le, okh⟩ := eok.h
      have hq5 := kpO k5
      refine ⟨true, true, rfl, rfl, _, rfl, iteF ?_⟩
      refine ⟨_, rfl, T1, dt4, _, rfl, ht4, T1, st.fwd (i + 1), rfl, a4, fun v tv => ⟨_, rfl, O, .ref q, rfl, DGet.k (k := Sum.inr "later") hq5.1, _, rfl, q, qs, _, .ref a3, rfl, rfl, SqL.of hq5.2, by rw [Int.zero_add]; exact atI_nat hze, a3, x3, _, z3, rfl, rfl, s3, i3, ?_⟩⟩
      rw [fwd_last he] at tv
      refine ⟨_, _, dStand e.stand, rfl, tv.dp, u3.dp, (nice_stand okh eok.sh).mono (by decide) (by decide), _, rfl, ?_⟩
      exact iteF ⟨k5, a4, _, rfl⟩
    · obtain ⟨k2, a2, o3, rfl⟩ := pp
      obtain ⟨_, _, ⟨dt, ht⟩, _⟩ := id a2
      refine ⟨_, rfl, T1, dt, _, rfl, ht, rfl, T1, _, rfl, a2, g.fwd _, by omega, fun H4 k4 a4 => ?_⟩
      have hne : (!(st.fwd qs.length).later.isEmpty) = false := by
        show (!(st.later.drop qs.length).isEmpty) = false
        rw [hql, List.drop_length]
        rfl
      rw [hne]
      exact ⟨false, false, rfl, rfl, hQ _ (k2.fresh (k4.mono (by simp)) nT)⟩
end
end T93
-- M15
set_option maxHeartbeats 2000000
/-! T93, part M15: copies. -/
namespace T93
open PySem PySem.Spec PyProof.Rows L2
section
variable {P : Program} {w : World} {K : PySem.W.Frag} {mg : Str → Option Value} {base : Heap} {TT : List (Addr × Str)} {CL CT CB : Addr}

theorem Kp.freshN {T : List (Addr × Str)} {b : Bool} {S S' : List Addr} {H H1 H2 : Hp} (x : Kp T b S H H1) (y : Kp T b S' H1 H2) (h : ∀ a ∈ S', a ∈ S ∨ H a = none) : Kp T b S H H2 :=
  ⟨fun a o e n i => y.keep a o (x.keep a o e n i) (fun z => by
      rcases h a z with z | z
      · exact n z
      · rw [z] at e
        cases e) i,
   fun a xs e => y.tup a xs (x.tup a xs e), fun a o u e => y.frz a o u (x.frz a o u e), fun a o e n => by
    obtain ⟨o1, h1, n1⟩ := x.live a o e n
    exact y.live a o1 h1 n1, fun t => y.tabs (x.tabs t)⟩
section
variable {X : Cx} {C : Addr} {k j : Nat} {ps : List Str} {sp : Sp}
theorem eqR (G : GM X.prog X.w X.K X.mg X.base CX0 k C "__eq__" ps sp) (hr : Room j X.A) (hk : k ≤ j := by decide) : OpR X (compareOp .Eq) (rOwnEq X.K C sp E0) := by
  obtain ⟨f, fd, M, F, b⟩ := G.ex
  exact op_ownEq F M.at_ M.fn b pass0 (hr.mono hk)
theorem neR (N : ∀ f, PySem.W.findIn X.K (.ref C) "__eq__" = some (some (.ref f)) → neIn X.K C f = true) (G : GM X.prog X.w X.K X.mg X.base CX0 k C "__eq__" ps sp) (hr : Room j X.A) (hk : k + 1 ≤ j := by decide) : OpR X (compareOp .NotEq) (rOwnNe X.K C sp) := by
  obtain ⟨f, fd, M, F, b⟩ := G.ex
  exact op_ownNe F (N f M.at_) b (hr.mono hk)
end
theorem eqLed_refl {B : Nat} {st : LedSt} (g : Good B st) : eqLed st st = true := by
  unfold eqLed
  rw [(nice_entry g.f).refl]
  have nl := NiceL.of (n := 3) (W := 100) (xs := st.past.map fun e => dDeed e.deed) fun x hx => by
    obtain ⟨e, he, rfl⟩ := List.mem_map.mp hx
    rcases List.mem_cons.mp he with rfl | he
    · exact nice_deed g.f.d
    · exact nice_deed (g.r e he).1.d
  rw [(Nice.lst nl).refl]
  rfl
theorem nice_deeds {B : Nat} {st : LedSt} (g : Good B st) : Nice 4 ((st.past.map fun e => dDeed e.deed).length * 101) (.list (st.past.map fun e => dDeed e.deed)) := Nice.lst (NiceL.of (n := 3) (W := 100) fun x hx => by
  obtain ⟨e, he, rfl⟩ := List.mem_map.mp hx
  rcases List.mem_cons.mp he with rfl | he
  · exact nice_deed g.f.d
  · exact nice_deed (g.r e he).1.d)
/-! ### _law_copy_right -/
abbrev N72 : List Str := ["m", "led", "own", "twin", "far", "again", "one", "is_so"]
theorem sc72 : FnScope N72 ["m", "led", "own"] (defScope (top 72)) := ⟨rfl, rfl, rfl, by decide +kernel, rfl, by decide +kernel, by decide +kernel⟩
def spCopyRight (K : PySem.W.Frag) (TT : List (Addr × Str)) (CL : Addr) (B : Nat) : Sp := fun vs H Q _ => ∃ (m c g : Addr) (n : Nat) (L O : Addr) (st : LedSt), vs = [.ref m, .ref L, .ref O] ∧ MAt H m c g n ∧ n + 200 ≤ 100000 ∧ LedAt K CL H L st ∧ OwnAt K H O st ∧ Good B st ∧ B < 300 ∧
  ∀ H' n', Kp TT true [m] H H' → MAt H' m c g n' → n' ≤ n + 80 → Q (.bl true) H'
theorem ok_copy_right (T : Txt K mg) (G : LedF K mg CL) {B : Nat} : GZ P w K mg base CX0 13 "_law_copy_right" ["m", "led", "own"] (spCopyRight K TT CL B) := by
  have nd := sc72.nd
  have CLS := G.cls
  have G_copy := ok_copy (P := P) (w := w) (base := base) (TT := TT) G T (B := B)
  have G__law_copied := ok_copied (P := P) (w := w) (base := base) (TT := TT) T
  have G_eq := ok_eq (P := P) (w := w) (base := base) G T (B := B + 4)
  have G__law_stands := ok_stands (P := P) (w := w) (base := base) T G (B := B + 4)
  have G__law_later_right := ok_later_right (P := P) (w := w) (base := base) (TT := TT) T G (B := B)
  have G__law_turn := ok_turn (P := P) (w := w) (base := base) (TT := TT) T G (B := B + 3)
  have NE := G.ne
  refine gzn (T.df (72, "_law_copy_right") (by decide +kernel)) sc72 (fun _ _ _ _ _ _ us hl => match us, hl with | [_, _, _], _ => rfl) (fun vs H Q E h => ?_) (fun f cdv A outer s H vs Q E hr gd h => ?_)
  · obtain ⟨_, _, _, _, _, _, _, rfl, _⟩ := h
    rfl
  · obtain ⟨m, c, g, n, L, O, st, rfl, hm, hn, ha, own, gd0, hB, hQ⟩ := h
    have mb_range := T.no "range" (by decide +kernel)
    have hu := hu_of hr
    refine ⟨_, (pss_cons (ps_par (i := 3) (j := 4) rfl nd rfl rfl (by decide) rfl rfl (pa_cons (pe_gm0 G_copy CLS hr pass0 (pv 1)) (pa_cons (pe_g G__law_copied hr pass0 (pa_cons (pv 2) pa_nil)) pa_nil)) rfl)
       (pss_cons (ps_if (PW.pt (pw_or (pt_not (pt_cmpR (eqR G_eq hr) (pv 3) (pv 1) (nomark _))) (pw_or (pt_cmpR (neR NE G_eq hr) (pv 3) (pv 1) (nomark _)) (pw_or (pt_not (pt_val (pe_z G__law_stands hr gd (fun _ => at0) (pa_cons (pv 3) (pa_cons (pv 4) pa_nil))))) (pw_or1 (pt_not (pt_val (pe_z G__law_later_right hr gd (fun _ => at0) (pa_cons (pv 3) (pa_cons (pv 4) pa_nil)))))))))) (pss_one (ps_ret (pe_bl))) pss_nil)
       (pss_cons (ps_for PassesOwn.never rfl (pi_range1 rfl mb_range (pa_cons (pe_int) pa_nil)) (pg_name (i := 5) nd rfl (Or.inl rfl)) (pss_cons (ps_if (PW.pt (pw_or (pt_not (pt_val (pe_z G__law_turn hr gd (fun _ => at0) (pa_cons (pv 0) (pa_cons (pv 3) (pa_cons (pv 4) pa_nil)))))) (pw_or (pt_not (pt_val (pe_z G__law_stands hr gd (fun _ => at0) (pa_cons (pv 1) (pa_cons (pv 2) pa_nil))))) (pw_or1 (pt_not (pt_val (pe_z G__law_stands hr gd (fun _ => at0) (pa_cons (pv 3) (pa_cons (pv 4) pa_nil))))))))) (pss_one (ps_ret (pe_bl))) pss_nil)
       (pss_cons (ps_set (i := 7) nd rfl (Or.inl rfl) (pe_cmpR (op_eqD hr.units) (pe_lc (own := [("one", 6)]) rfl nd (pi_list (pe_dget hu (pv 4) (pe_str) (fun _ _ => rfl))) (blkOk_by (own := [("one", 6)]) (N := ["m", "led", "own", "twin", "far", "again", "one", "is_so"]) (sc := (defScope (top 72))) (by decide +kernel)) (fun _ _ _ _ _ => (pg_name (i := 6) nd rfl (Or.inl rfl))) (fun _ _ _ _ _ => pts_nil) (fun _ _ _ _ _ => (pe_ix (ix_tupK K rfl) (pv 6) (pe_int) (fun _ _ => rfl)))) (pe_lc (own := [("one", 6)]) rfl nd (pi_list (pe_dget hu (pv 2) (pe_str) (fun _ _ => rfl))) (blkOk_by (own := [("one", 6)]) (N := ["m", "led", "own", "twin", "far", "again", "one", "is_so"]) (sc := (defScope (top 72))) (by decide +kernel)) (fun _ _ _ _ _ => (pg_name (i := 6) nd rfl (Or.inl rfl))) (fun _ _ _ _ _ => pts_nil) (fun _ _ _ _ _ => (pe_ix (ix_tupK K rfl) (pv 6) (pe_int) (fun _ _ => rfl)))) (nomark _)))
       (pss_one (ps_if (PW.pt (pw_or (pt_cmpR op_ne (pe_cmpR (eqR G_eq hr) (pv 3) (pv 1) (nomark _)) (pv 7) (nomark _)) (pw_or (pt_cmpR (eqR G_eq hr) (pv 1) (pe_dget hu (pv 2) (pe_str) (fun _ _ => rfl)) (nomark _)) (pw_or1 (pt_cmpR (eqR G_eq hr) (pv 1) (pe_int) (nomark _)))))) (pss_one (ps_ret (pe_bl))) pss_nil)))))
       (pss_one (ps_ret (pe_z G__law_later_right hr gd (fun _ => at0) (pa_cons (pv 1) (pa_cons (pv 2) pa_nil)))))))), ?_⟩
    obtain ⟨_, _, ⟨dl, hl⟩, _⟩ := id ha
    have mL := m_ne_led hm ha
    have mO := m_ne_own hm own
    refine ⟨_, rfl, L, dl, _, rfl, hl, rfl, L, st, rfl, ha, gd0, fun T1 H1 nT k1 a1 => ?_⟩
    have noN : ∀ {Hx : Hp}, NoL Hx [] := fun _ z => absurd z List.not_mem_nil
    have own1 := own.kp k1 List.not_mem_nil noN
    have ha1 := ha.kp k1 List.not_mem_nil
    have m1 := hm.kp k1 List.not_mem_nil noN
    refine ⟨_, rfl, O, st, rfl, own1, fun F H2 nF k2 f2 => ⟨_, _, rfl, ?_⟩⟩
    have a2 := a1.kp k2 List.not_mem_nil
    have ha2 := ha1.kp k2 List.not_mem_nil
    have own2 := own1.kp k2 List.not_mem_nil noN
    have m2 := m1.kp k2 List.not_mem_nil noN
    have k12 := k1.trans k2
    obtain ⟨_, _, ⟨dt, ht⟩, _⟩ := id a2
    obtain ⟨_, _, ⟨dl2, hl2⟩, _⟩ := id ha2
    have gB := gd0.mono (show B ≤ B + 4 by omega)
    refine ⟨_, rfl, _, rfl, T1, dt, _, .ref CL, rfl, ht, .ins hl2, G.fL, T1, st, a2, gB, by omega, .inl ⟨L, st, rfl, ha2, gB, fun H3 e3 => ⟨_, rfl, _, rfl, ?_⟩⟩⟩
    rw [eqLed_refl gB]
    refine iteF ?_
    refine ⟨_, rfl, _, rfl, T1, L, dt, dl2, _, _, rfl, rfl, e3 _ _ ht, e3 _ _ hl2, T1, st, a2.ex e3, gB, by omega, .inl ⟨L, st, rfl, ha2.ex e3, gB, fun H4 e4 => ⟨_, rfl, _, rfl, ?_⟩⟩⟩
    rw [eqLed_refl gB]
    refine iteF ?_
    have e34 := e3.trans e4
    refine ⟨_, rfl, _, rfl, T1, F, st, rfl, a2.ex e34, f2.ex e34, gB, by omega, fun H5 e5 => ⟨_, rfl, iteF ?_⟩⟩
    have e35 := e34.trans e5
    refine ⟨_, rfl, _, rfl, T1, F, st, rfl, a2.ex e35, f2.ex e35, gd0, by omega, fun H6 k6 => ⟨_, rfl, iteF ?_⟩⟩
    have kk := (Kp.of_ex (T := TT) (b := false) (S := []) e35).trans k6
    have a6 := a2.kp kk List.not_mem_nil
    have ha6 := ha2.kp kk List.not_mem_nil
    have f6 := f2.kp kk List.not_mem_nil noN
    have own6 := own2.kp kk List.not_mem_nil noN
    have m6 := m2.kp kk List.not_mem_nil noN
    have k16 : Kp TT true [m, T1] H1 H6 := ((k2.trans kk).any).mono (by simp)
    refine ⟨_, rfl, by decide, by decide, for_it walk_range (fun i σ H' => Kp TT true [m, T1] H1 H' ∧ LedAt K CL H' L st ∧ OwnAt K H' O st ∧ ∃ (su : LedSt) (n' : Nat) (o5 o6 o7 : Option V), LedAt K CL H' T1 su ∧ OwnAt K H' F su ∧ Good (B + i) su ∧ su.first = st.first ∧ MAt H' m c g n' ∧ n' ≤ n + 20 * i ∧
      σ = [some (.ref m), some (.ref L), some (.ref O), some (.ref T1), some (.ref F), o5, o6, o7]) ⟨k16, ha6, own6, st, n, _, _, _, a6, f6, gd0, rfl, m6, by omega, rfl⟩ (fun _ _ _ _ _ => True.intro) (fun i x σ H7 H8 hi p y => ?_) (fun σ H7 p => ?_)⟩
    · obtain ⟨rfl, rfl⟩ := y
      obtain ⟨k7, ha7, own7, su, n7, o5, o6, o7, t7, f7, g7, fe, m7, hn7, rfl⟩ := p
      have hi' : i < 4 := hi
      have gB3 := g7.mono (show B + i ≤ B + 3 by omega)
      refine ⟨_, rfl, _, rfl, _, rfl, m, c, g, n7, T1, F, su, rfl, m7, by omega, t7, f7, gB3, by omega, fun H9 sw n9 k9 m9 hn9 t9 f9 gg fe9 => ⟨_, rfl, iteF ?_⟩⟩
      have LT : L ≠ T1 := fun z => by
        rw [z, nT] at hl
        cases hl
      have hl1 := k1.keep _ _ hl List.not_mem_nil rfl
      have LF : L ≠ F := fun z => by
        rw [z, nF] at hl1
        cases hl1
      obtain ⟨_, _, _, _, hO1, _⟩ := id own1
      obtain ⟨_, _, _, _, hO0, _⟩ := id own
      have OT : O ≠ T1 := fun z => by
        rw [z, nT] at hO0
        cases hO0
      have OF : O ≠ F := fun z => by
        rw [z, nF] at hO1
        cases hO1
      have noS : NoL H8 [m, T1, F] := (noL_m m7).cons ((noL_led t7).cons (noL_own f7))
      have ha9 : LedAt K CL H9 L st := ha7.kp k9 (by simp [Ne.symm mL, LT, LF])
      have own9 : OwnAt K H9 O st := own7.kp k9 (by simp [Ne.symm mO, OT, OF]) noS
      have k19 : Kp TT true [m, T1] H1 H9 := k7.freshN k9 fun a hh => by
        rcases List.mem_cons.mp hh with rfl | hh
        · exact .inl (by simp)
        · rcases List.mem_cons.mp hh with rfl | hh
          · exact .inl (by simp)
          · rw [List.mem_singleton.mp hh]
            exact .inr nF
      have g9 := gg _ g7
      have g94 : Good (B + 4) sw := g9.mono (by omega)
      refine ⟨_, rfl, _, rfl, L, O, st, rfl, ha9, own9, gB, by omega, fun Ha ea => ⟨_, rfl, iteF ?_⟩⟩
      refine ⟨_, rfl, _, rfl, T1, F, sw, rfl, t9.ex ea, f9.ex ea, g94, by omega, fun Hb eb => ⟨_, rfl, iteF ?_⟩⟩
      have eab := ea.trans eb
      obtain ⟨pF, qF, psF, qsF, h0F, hpF, tpF, hqF, tqF⟩ := f9.ex eab
      obtain ⟨pO, qO, psO, qsO, h0O, hpO, tpO, hqO, tqO⟩ := own9.ex eab
      have sw1 := g94.len
      have st1 := gB.len
      have lF : psF.length = sw.rest.length + 1 := by rw [tpF.len, List.length_map]; rfl
      have lO : psO.length = st.rest.length + 1 := by rw [tpO.len, List.length_map]; rfl
      refine ⟨_, rfl, F, .ref pF, rfl, DGet.k (k := Sum.inr "past") h0F, pF, rfl, ⟨_, SqL.of hpF⟩, fun D1 nD1 => lc_data (n := psF.length) (K := K) walk_list (sw.past.map fun e => dDeed e.deed) (by rw [List.length_map, tpF.len, List.length_map]) (by rw [List.length_map]; show sw.rest.length + 1 < _; exact Nat.lt_of_le_of_lt (by omega : _ ≤ 1000) (by decide)) nD1 (fun H2 e => sql_ex e (SqL.of hpF)) (fun j d x H2 H3 Kx hd e y kx => ?_) (fun Hc zsF ec hzF tzF => ?_)⟩
      · obtain ⟨rfl, hx⟩ := y
        obtain ⟨en, hen, tx⟩ := tpF.getm hx
        rw [List.getElem?_map, hen] at hd
        obtain rfl := Option.some.inj hd
        obtain ⟨ae, es, rfl, se, te⟩ := (tx.ex e).tup_inv
        obtain ⟨vd, _, rfl, t0, te⟩ := te.cons_inv
        exact ⟨rfl, _, rfl, ae, _, _, _, rfl, rfl, se, atI_nat (j := 0) rfl, kx _ _ (.refl _) t0⟩
      refine ⟨_, rfl, O, .ref pO, rfl, DGet.k (k := Sum.inr "past") (ec _ _ h0O), pO, rfl, ⟨_, SqL.of (ec _ _ hpO)⟩, fun D2 nD2 => lc_data (n := psO.length) (K := K) walk_list (st.past.map fun e => dDeed e.deed) (by rw [List.length_map, tpO.len, List.length_map]) (by rw [List.length_map]; show st.rest.length + 1 < _; exact Nat.lt_of_le_of_lt (by omega : _ ≤ 1000) (by decide)) nD2 (fun H2 e => sql_ex e (SqL.of (ec _ _ hpO))) (fun j d x H2 H3 Kx hd e y kx => ?_) (fun Hd zsO ed hzO tzO => ?_)⟩
      · obtain ⟨rfl, hx⟩ := y
        obtain ⟨en, hen, tx⟩ := tpO.getm hx
        rw [List.getElem?_map, hen] at hd
        obtain rfl := Option.some.inj hd
        obtain ⟨ae, es, rfl, se, te⟩ := (tx.ex (ec.trans e)).tup_inv
        obtain ⟨vd, _, rfl, t0, te⟩ := te.cons_inv
        exact ⟨rfl, _, rfl, ae, _, _, _, rfl, rfl, se, atI_nat (j := 0) rfl, kx _ _ (.refl _) t0⟩
      have nF' := nice_deeds g94
      have nO' := nice_deeds gB
      refine ⟨.list (sw.past.map fun e : Entry => dDeed e.deed), .list (st.past.map fun e : Entry => dDeed e.deed), .lst (SqL.of (ed _ _ hzF)) (tzF.ex ed).dp, .lst (SqL.of hzO) tzO.dp, nF'.shaped (by decide), nO'.shaped (by decide), ?_⟩
      have ead := (eab.trans ec).trans ed
      have td := t9.ex ead
      have had := ha9.ex ead
      obtain ⟨_, _, ⟨dt8, ht8⟩, _⟩ := id td
      obtain ⟨_, _, ⟨dl8, hl8⟩, _⟩ := id had
      refine ⟨_, rfl, _, rfl, T1, dt8, _, .ref CL, rfl, ht8, .ins hl8, G.fL, T1, sw, td, g94, by omega, .inl ⟨L, st, rfl, had, gB, fun He ee => ⟨_, rfl, _, rfl, rfl, _, rfl, ?_⟩⟩⟩
      have eqq : eqLed sw st = PyData.eqv (.list (sw.past.map fun e => dDeed e.deed)) (.list (st.past.map fun e => dDeed e.deed)) := by
        unfold eqLed
        rw [fe9, fe, (nice_entry gd0.f).refl, Bool.true_and]
      rw [eqq]
      refine (show if (!decide (V.bl _ = V.bl _)) = true then _ else _ from ?_)
      rw [decide_eq_true rfl]
      refine iteF ?_
      have hae := had.ex ee
      have hle := ee _ _ hl8
      have exx := ((ec.trans ed).trans ee)
      refine ⟨_, rfl, _, rfl, O, .ref pO, rfl, DGet.k (k := Sum.inr "past") (exx _ _ h0O), L, dl8, _, .type "list", rfl, hle, .lst (exx _ _ hpO), G.fList, L, st, hae, gB, by omega, .inr ⟨.ref pO, .type "list", rfl, .base (.lst (exx _ _ hpO)), G.isList, fun Hf ef => ⟨_, rfl, _, rfl, iteF ?_⟩⟩⟩
      refine ⟨_, rfl, L, dl8, _, .type "int", rfl, ef _ _ hle, .int 5, G.fInt, L, st, hae.ex ef, gB, by omega, .inr ⟨.int 5, .type "int", rfl, .base (.int 5), G.isInt, fun Hg eg => ⟨_, rfl, _, rfl, iteF ?_⟩⟩⟩
      have eAll := ((ead.trans ee).trans ef).trans eg
      exact ⟨k19.trans (.of_ex eAll), ha9.ex eAll, own9.ex eAll, sw, n9, _, _, _, t9.ex eAll, f9.ex eAll, g9, by rw [fe9, fe], m9.ex eAll, by omega, rfl⟩
    · obtain ⟨k7, ha7, own7, su, n7, o5, o6, o7, t7, f7, g7, fe, m7, hn7, rfl⟩ := p
      refine ⟨_, rfl, _, rfl, L, O, st, rfl, ha7, own7, gd0, by omega, fun H8 k8 => ?_⟩
      refine hQ _ n7 ?_ (m7.kp k8 List.not_mem_nil noN) (by omega)
      refine (k1.any.mono (by simp)).freshN (k7.trans (k8.any.mono (by simp))) fun a hh => ?_
      rcases List.mem_cons.mp hh with rfl | hh
      · exact .inl List.mem_cons_self
      · rw [List.mem_singleton.mp hh]
        exact .inr nT
end
end T93
-- M16
set_option maxHeartbeats 2000000
/-! T93, part M16: defs that make lambdas. -/
namespace T93
open PySem PySem.Spec PyProof.Rows L2 LamX
section
variable {P : Program} {w : World} {K : PySem.W.Frag} {mg : Str → Option Value} {base : Heap} {TT : List (Addr × Str)} {CL CT CB : Addr}

/-- a def whose code object is known -/
structure CdF (K : PySem.W.Frag) (mg : Str → Option Value) (base : Heap) (x : Str) (st : Stmt) (Pt : Addr) : Prop where
  ex : ∃ f fd c, Fun K x x st f fd ∧ mg x = some (.ref f) ∧ fd.code = .ref c ∧ TabB base mg c Pt
section
variable {k : Nat} {x : Str} {st : Stmt} {N ps : List Str} {sp : Sp} {Pt : Addr}
/-- gz of a def whose code is known -/
theorem gzc (D : CdF K mg base x st Pt) (S : FnScope N ps (defScope st))
    (hb : ∀ (kV doc pm : Value) (an : Option Addr) (cdv ct : Value) (us : List Value), us.length = ps.length → bindArgs (PySem.W.fnOf x x (defArgs st) (defBody st) (defScope st) .none kV doc pm an cdv ct) ⟨us, []⟩ = pure (ps.zip us))
    (len : ∀ vs H Q E, sp vs H Q E → vs.length = ps.length)
    (hbody : ∀ (f c : Addr) (A : Around) (outer : List Env) (s : Shared) (H : Hp) (vs : List V) (Q : VK) (E : XK), TabB base mg c Pt → Room k (A.deeper (envOfC x (defScope st) s.heap.objs.size f (.ref c))) → A.guards = some [] → sp vs H Q E →
      ∃ t, PSs (cxOf (L2.CX P w) P w K mg base N x (defScope st) f (.ref c) A outer s H E) (defBody st) t ∧ t { nx := fun _ H' => Q .non H', rt := Q } (start N vs) H) : GZ P w K mg base (L2.CX P w) (k + 1) x ps sp := by
  obtain ⟨f, fd, c, F, g, hc, TB⟩ := D.ex
  have b := F.binds hb
  obtain ⟨oc, od, kV, doc, pm, an, cdv, ct, osl, rfl, lk, hcd⟩ := F.ex
  obtain rfl : cdv = .ref c := hc
  exact ⟨f, _, ⟨len, fun A outer s H args us vs Q E hr hg e0 hbd r hsp => run_ofS lk hcd S hr e0 hbd r (len _ _ _ _ hsp) fun hr' => hbody f c A outer s H vs Q E TB hr' hg hsp⟩, g, F.kp, b⟩
end
theorem FnG.mono {j k : Nat} {f : Addr} {sp : Sp} (F : FnG P w K mg base j f sp) (h : j ≤ k) : FnG P w K mg base k f sp := ⟨fun A outer s H us vs Q p hr => F.go A outer s H us vs Q p (hr.mono h)⟩
theorem TrF.up {C : Addr} {j k : Nat} {spE spX : Sp} (F : TrF P w K mg base C j spE spX) (h : j ≤ k) : TrF P w K mg base C k spE spX := by
  obtain ⟨fe, fx, fde, fdx, pe, px, h1, h2, h3, h4, h5, h6⟩ := F.ex
  exact ⟨⟨fe, fx, fde, fdx, pe, px, h1.mono h, h2, h3.mono h, h4, FnG.mono h5 h, h6⟩, F.mono⟩
end
end T93
-- M17
set_option maxHeartbeats 2000000
/-! T93, part M17: a trial from within. -/
namespace T93
open PySem PySem.Spec PyProof.Rows L2 LamX NdefX
section
variable {P : Program} {w : World} {K : PySem.W.Frag} {mg : Str → Option Value} {base : Heap} {TT : List (Addr × Str)} {CL CT CB : Addr}

/-! ### _law_inner -/
abbrev N69 : List Str := ["m", "led", "held", "own", "way", "again", "is_so", "inner"]
theorem sc69 : FnScope N69 ["m", "led", "held", "own", "way"] (defScope (top 69)) := ⟨rfl, rfl, rfl, by decide +kernel, rfl, by decide +kernel, by decide +kernel⟩
theorem free69 : ∀ y ∈ ([("two", .local), ("inner", .free), ("m", .free), ("_law_turn", .globalImplicit)] : List (Str × NameKind)), y.2 = .free → (defScope (top 69)).names.lookup y.1 = some .cell ∨ (defScope (top 69)).names.lookup y.1 = some .free := by decide +kernel
theorem ns69 : NScope ["two", "inner", "m"] ["two"] ["inner", "m"] { kind := .function, names := [("two", .local), ("inner", .free), ("m", .free), ("_law_turn", .globalImplicit)], isGenerator := false, isCoroutine := false } := nscope_by (by decide +kernel)
abbrev NL69 : List Str := ["two", "inner", "m"]
def spInner (K : PySem.W.Frag) (TT : List (Addr × Str)) (CL CB : Addr) (B : Nat) : Sp := fun vs H Q E => ∃ (m c g : Addr) (n : Nat) (L O : Addr) (st : LedSt) (way : Nat), vs = [.ref m, .ref L, .ref L, .ref O, .int way] ∧ way ≤ 1 ∧ MAt H m c g n ∧ n + 400 ≤ 100000 ∧ LedAt K CL H L st ∧ OwnAt K H O st ∧ Good B st ∧ B + 4 < 400 ∧ Tabs TT H ∧
  ∀ H' n' st', Kp TT true [m, L, O] H H' → MAt H' m c g n' → n' ≤ n + 90 → LedAt K CL H' L st' → (way = 0 → Q (.str "right") H') ∧ (way = 1 → ∀ d, XdAt H' d → E (.ref CB) (some d) H')
theorem ok_inner (T : Txt K mg) (G : LedF K mg CL) (R : TriF K mg CT) (X : BadF P K mg CB) {Pt : Addr} (D : CdF K mg base "_law_inner" (top 69) Pt) (hT : ((Pt, ("_law_inner.<locals>.<lambda>" : Str)) : Addr × Str) ∈ TT) (hU : ∀ p ∈ TT, p.1 = Pt → p.2 = ("_law_inner.<locals>.<lambda>" : Str)) {B : Nat} :
    GZ P w K mg base (L2.CX P w) 12 "_law_inner" ["m", "led", "held", "own", "way"] (spInner K TT CL CB B) := by
  have nd := sc69.nd
  have CLS := G.cls
  have TR := (tri_ok (P := P) (w := w) (base := base) (TT := TT) R G).up (show 1 ≤ 9 by decide)
  have G_eq := ok_eq (P := P) (w := w) (base := base) G T (B := B + 4)
  have G__law_turn := ok_turn (P := P) (w := w) (base := base) (TT := TT) T G (B := B + 3)
  have G__law_stands := ok_stands (P := P) (w := w) (base := base) T G (B := B + 4)
  have G__law_copied := ok_copied (P := P) (w := w) (base := base) (TT := TT) T
  have G_trial := ok_trial (P := P) (w := w) (base := base) (TT := TT) G R
  have G_undo := ok_undo (P := P) (w := w) (base := base) (TT := TT) G T (B := B + 4)
  have G_vote := ok_vote_bad (P := P) (w := w) (base := base) G T X
  refine gzc D sc69 (fun _ _ _ _ _ _ us hl => match us, hl with | [_, _, _, _, _], _ => rfl) (fun vs H Q E h => ?_) (fun f c A outer s H vs Q E TB hr gd h => ?_)
  · obtain ⟨_, _, _, _, _, _, _, _, rfl, _⟩ := h
    rfl
  · obtain ⟨m, c0, g, n, L, O, st, way, rfl, hway, hm, hn, ha, own, gd0, hB, tabs, hQ⟩ := h
    have mb_range := T.no "range" (by decide +kernel)
    refine ⟨_, (pss_cons (ps_if (pt_not (pt_cmpR (eqR G_eq hr) (pv 2) (pv 1) (nomark _))) (pss_one (ps_ret (pe_str))) pss_nil)
       (pss_cons (ps_for (passes_of rfl) rfl (pi_range1 rfl mb_range (pa_cons (pe_int) pa_nil)) (pg_name (i := 5) nd rfl (Or.inl rfl)) (pss_one (ps_if (PW.pt (pw_or (pt_not (pt_val (pe_z G__law_turn hr gd (fun _ => at0) (pa_cons (pv 0) (pa_cons (pv 2) (pa_cons (pv 3) pa_nil)))))) (pw_or1 (pt_not (pt_val (pe_z G__law_stands hr gd (fun _ => at0) (pa_cons (pv 1) (pa_cons (pv 3) pa_nil)))))))) (pss_one (ps_ret (pe_str))) pss_nil)))
       (pss_cons (ps_set (i := 7) nd rfl (Or.inr rfl) (pe_g G__law_copied hr pass0 (pa_cons (pv 3) pa_nil)))
       (pss_cons (ps_set (i := 6) nd rfl (Or.inl rfl) ((pe_under (N := NL69) (js := [7, 0]) (fr := ["inner", "m"]) (k := 9) (y := "two") (T.df (41, "under") (by decide +kernel)) TR (pe_gm0 G_trial CLS hr pass0 (pv 2)) TB rfl hT hU hr free69 rfl ns69 (by decide +kernel) rfl (fun _ _ _ _ _ _ => rfl) (takes_of rfl rfl rfl rfl) (fun A2 outer2 s2 H2 f2 c2 E2 hr2 gd2 => (pe_and (pe_z G__law_turn hr2 (gd2.trans gd) (fun _ => at0) (pa_cons (pv 2) (pa_cons (pv 0) (pa_cons (pv 1) pa_nil)))) (pe_one (pe_cmpR (op_inK K rfl) (pe_gm0 G_undo CLS hr2 pass0 (pv 0)) (pe_tup (pa_cons pe_bl (pa_cons pe_bl pa_nil))) rfl)))))))
       (pss_cons (ps_if (pt_cmpR op_notB (pv 6) (pe_bl) (nomark _)) (pss_one (ps_ret (pe_str))) pss_nil)
       (pss_cons (ps_if (pt_not (pt_val (pe_z G__law_stands hr gd (fun _ => at0) (pa_cons (pv 2) (pa_cons (pv 3) pa_nil))))) (pss_one (ps_ret (pe_str))) pss_nil)
       (pss_one (ps_ret (pe_ifExp (pt_cmpR op_eq (pv 4) (pe_int) (nomark _)) (pe_gm G_vote CLS hr (passes_call (takes_of rfl rfl rfl rfl) fun _ _ _ _ h => h) (pv 2) (pa_cons pe_str pa_nil)) (pe_str)))))))))), ?_⟩
    obtain ⟨_, _, ⟨dl, hl⟩, _⟩ := id ha
    have mL := m_ne_led hm ha
    have mO := m_ne_own hm own
    have LO := led_ne_own ha own
    have gB := gd0.mono (show B ≤ B + 4 by omega)
    refine ⟨_, rfl, _, rfl, L, dl, _, .ref CL, rfl, hl, .ins hl, G.fL, L, st, ha, gB, by omega, .inl ⟨L, st, rfl, ha, gB, fun H1 e1 => ⟨_, rfl, _, rfl, ?_⟩⟩⟩
    rw [eqLed_refl gB]
    refine iteF ?_
    refine ⟨_, rfl, by decide, by decide, for_it walk_range (fun i σ H' => Kp TT true [m, L, O] H H' ∧ ∃ (su : LedSt) (n' : Nat) (o5 o6 o7 : Option V), LedAt K CL H' L su ∧ OwnAt K H' O su ∧ Good (B + i) su ∧ MAt H' m c0 g n' ∧ n' ≤ n + 20 * i ∧
      σ = [some (.ref m), some (.ref L), some (.ref L), some (.ref O), some (.int way), o5, o6, o7]) ⟨.of_ex e1, st, n, _, _, _, ha.ex e1, own.ex e1, gd0, hm.ex e1, by omega, rfl⟩ (fun _ _ _ _ _ => True.intro) (fun i x σ H2 H3 hi p y => ?_) (fun σ H2 p => ?_)⟩
    · obtain ⟨rfl, rfl⟩ := y
      obtain ⟨k2, su, n2, o5, o6, o7, a2, own2, g2, m2, hn2, rfl⟩ := p
      have hi' : i < 3 := hi
      refine ⟨_, rfl, _, rfl, _, rfl, m, c0, g, n2, L, O, su, rfl, m2, by omega, a2, own2, g2.mono (by omega), by omega, fun H4 sw n4 k4 m4 hn4 a4 own4 gg fe4 => ⟨_, rfl, iteF ?_⟩⟩
      refine ⟨_, rfl, _, rfl, L, O, sw, rfl, a4, own4, (gg _ g2).mono (by omega), by omega, fun H5 e5 => ⟨_, rfl, iteF ?_⟩⟩
      exact ⟨(k2.trans k4).trans (.of_ex e5), sw, n4, _, _, _, a4.ex e5, own4.ex e5, gg _ g2, m4.ex e5, by omega, rfl⟩
    · obtain ⟨k2, su, n2, o5, o6, o7, a2, own2, g2, m2, hn2, rfl⟩ := p
      have g2 : Good (B + 3) su := g2
      have hn2 : n2 ≤ n + 60 := hn2
      have noN : ∀ {Hx : Hp}, NoL Hx [] := fun _ z => absurd z List.not_mem_nil
      refine ⟨_, rfl, O, su, rfl, own2, fun F H3 nF k3 f3 => ?_⟩
      have a3 := a2.kp k3 List.not_mem_nil
      have own3 := own2.kp k3 List.not_mem_nil noN
      have m3 := m2.kp k3 List.not_mem_nil noN
      obtain ⟨_, _, ⟨dl3, hl3⟩, _⟩ := id a3
      refine ⟨_, rfl, L, dl3, _, rfl, hl3, rfl, L, rfl, fun x H4 p4 q4 nx k4 tri4 => ⟨k4.tabs (k3.tabs (k2.tabs tabs)), fun c' H5 e5 t5 hc5 => ?_⟩⟩
      have k5 : Kp TT false [] H4 H5 := Kp.extN e5 t5
      have k45 := k4.trans k5
      obtain ⟨dx, hx4⟩ := tri4
      have hx5 := k5.keep _ _ hx4 List.not_mem_nil rfl
      have a5 := a3.kp k45 List.not_mem_nil
      have own5 := own3.kp k45 List.not_mem_nil noN
      have f5 := f3.kp k45 List.not_mem_nil noN
      have m5 := m3.kp k45 List.not_mem_nil noN
      obtain ⟨p5, q5, ⟨dl5, hl5⟩, tp5, tq5⟩ := id a5
      have xL : x ≠ L := fun z => by
        rw [z, hl3] at nx
        cases nx
      refine ⟨x, dx, _, rfl, hx5, x, L, p5, q5, p4, q4, rfl, ⟨dx, hx5⟩, ⟨dl5, hl5⟩, xL, fun H6 k6 tri6 => ⟨?_, ?_⟩⟩
      · refine k6.keep _ _ hc5 (fun z => ?_) rfl
        rw [List.mem_singleton.mp z, hx5] at hc5
        cases hc5
      · have noX : NoL H5 [x] := fun a hh xs e => by
          rw [List.mem_singleton.mp hh, hx5] at e
          cases e
        have nm : ∀ {a : Addr} {o : HO}, H2 a = some o → a ≠ F := fun e z => by
          rw [z, nF] at e
          cases e
        have nx' : ∀ {a : Addr} {o : HO}, H3 a = some o → a ≠ x := fun e z => by
          rw [z, nx] at e
          cases e
        obtain ⟨_, _, ⟨dl2, hl2⟩, _⟩ := id a2
        obtain ⟨_, _, _, _, hO2, _⟩ := id own2
        obtain ⟨_, _, _, _, hO3, _⟩ := id own3
        obtain ⟨_, _, _, _, hF3, _⟩ := id f3
        have mF := nm m2.m
        have LF := nm hl2
        have OF := nm hO2
        have mx := nx' m3.m
        have Lx := nx' hl3
        have Ox := nx' hO3
        have Fx := nx' hF3
        have a6 := a5.kp k6 (not1 Lx)
        have own6 := own5.kp k6 (not1 Ox) noX
        have f6 := f5.kp k6 (not1 Fx) noX
        have m6 := m5.kp k6 (not1 mx) noX
        refine ⟨_, rfl, _, rfl, _, rfl, m, c0, g, n2, L, F, su, rfl, m6, by omega, a6, f6, g2, by omega, fun H7 sw n7 k7 m7 hn7 a7 f7 gg fe7 => ⟨true, rfl, iteT ?_⟩⟩
        have noS6 : NoL H6 [m, L, F] := (noL_m m6).cons ((noL_led a6).cons (noL_own f6))
        have own7 := own6.kp k7 (by simp [Ne.symm mO, Ne.symm LO, OF]) noS6
        obtain ⟨dx6, hx6⟩ := id tri6
        have hx7 := k7.keep _ _ hx6 (by simp [Ne.symm mx, Ne.symm Lx, Ne.symm Fx]) rfl
        obtain ⟨_, _, ⟨dl7, hl7⟩, _⟩ := id a7
        refine ⟨_, rfl, L, dl7, _, rfl, hl7, rfl, L, sw, rfl, a7, gg _ g2, by omega, fun H8 k8 a8 => ⟨by show 2 ≤ sizeLine; decide, fun p9 n9 => ?_⟩⟩
        have hx8 := k8.keep _ _ hx7 (not1 xL) rfl
        have own8 := own7.kp k8 (not1 (Ne.symm LO)) (noL_led a7)
        have m8 := m7.kp k8 (not1 mL) (noL_led a7)
        have e9 := Evl.Ex.new (o := .tup [V.bl true, V.bl false]) n9
        have a9 := a8.ex e9
        have own9 := own8.ex e9
        have m9 := m8.ex e9
        obtain ⟨p9', q9', ⟨dl9, hl9⟩, _⟩ := id a9
        have eb : inV (V.bl (!sw.rest.isEmpty)) [V.bl true, V.bl false] = true := by cases sw.rest.isEmpty <;> decide
        refine ⟨p9, _, rfl, .inr (SqT.of upd_same), rfl, rfl, ?_⟩
        refine ⟨x, L, p5, q5, p9', q9', .non, .non, .non, rfl, ⟨dx6, e9 _ _ hx8⟩, ⟨dl9, hl9⟩, xL, fun H10 k10 led10 => ⟨_, rfl, ?_⟩⟩
        have own10 := own9.kp k10 (not1 (Ne.symm LO)) (noL_led a9)
        have m10 := m9.kp k10 (not1 mL) (noL_led a9)
        have k6' : Kp TT true [m, L, F, x] H5 H6 := k6.any.mono (by simp)
        have k7' : Kp TT true [m, L, F, x] H6 H7 := k7.mono (by
          intro a hh
          simp at hh ⊢
          rcases hh with h | h | h <;> simp [h])
        have k510 : Kp TT true [m, L, F, x] H5 H10 := (((k6'.trans k7').trans (k8.any.mono (by simp))).trans (.of_ex e9)).trans (k10.any.mono (by simp))
        have a10 : LedAt K CL H10 L su := ⟨p5, q5, led10, tp5.kp k510, tq5.kp k510⟩
        have k310 : Kp TT true [m, L, F] H3 H10 := (k45.any.mono (by simp)).freshN k510 fun a hh => by
          simp at hh
          rcases hh with h | h | h | h
          · exact .inl (by simp [h])
          · exact .inl (by simp [h])
          · exact .inl (by simp [h])
          · exact .inr (by rw [h]; exact nx)
        have k210 : Kp TT true [m, L] H2 H10 := (k3.any.mono (by simp)).freshN k310 fun a hh => by
          simp at hh
          rcases hh with h | h | h
          · exact .inl (by simp [h])
          · exact .inl (by simp [h])
          · exact .inr (by rw [h]; exact nF)
        have kF : Kp TT true [m, L, O] H H10 := k2.trans (k210.mono (by
          intro a hh
          simp at hh ⊢
          rcases hh with h | h <;> simp [h]))
        refine ⟨_, rfl, true, true, ?_, rfl, _, rfl, iteF ?_⟩
        · exact congrArg V.bl eb
        obtain ⟨_, _, ⟨dl10, hl10⟩, _⟩ := id a10
        refine ⟨_, rfl, _, rfl, L, O, su, rfl, a10, own10, g2.mono (by omega), by omega, fun H11 e11 => ⟨_, rfl, iteF ?_⟩⟩
        have hh := hQ H11 n7 su (kF.trans (.of_ex e11)) (m10.ex e11) (by omega) (a10.ex e11)
        refine ⟨_, rfl, rfl, _, rfl, ?_⟩
        refine (show if decide (V.int (way : Int) = V.int 1) = true then _ else _ from ?_)
        rcases (by omega : way = 0 ∨ way = 1) with hw | hw
        · refine iteDF (fun z => by
            injection z with z
            omega) ?_
          exact hh.1 hw
        · refine iteD (by rw [hw]; rfl) ?_
          have hl11 := e11 _ _ hl10
          refine ⟨_, rfl, L, dl10, _, rfl, hl11, rfl, L, su, "c", rfl, a10.ex e11, ?_, by decide, fun d H12 e12 xd => ?_⟩
          · unfold lettersB
            rw [show (("c" : Str).cps.toList.all fun c => decide (c = 97) || decide (c = 98)) = false by decide +kernel, Bool.and_false]
          · have hh2 := hQ H12 n7 su ((kF.trans (.of_ex e11)).trans (.of_ex e12)) ((m10.ex e11).ex e12) (by omega) ((a10.ex e11).ex e12)
            exact hh2.2 hw d xd
end
end T93
-- M18
set_option maxHeartbeats 2000000
/-! T93, part M18: a trial. -/
namespace T93
open PySem PySem.Spec PyProof.Rows L2 LamX NdefX
section
variable {P : Program} {w : World} {K : PySem.W.Frag} {mg : Str → Option Value} {base : Heap} {TT : List (Addr × Str)} {CL CT CB : Addr}

/-- more of BadChoices: its place may be read -/
structure BadG (K : PySem.W.Frag) (C : Addr) : Prop where
  xf : XfC K C
  np : PySem.W.findIn K (.ref C) "place" = some none
section
variable {X : Cx} {e : Expr} {te : TE} {C P c : Addr} {T : List (Addr × Str)} {W : WX} {k : Nat} {spE spX : Sp} {y : Str} {params : Arguments} {body : Expr} {scope : Scope} {fr N : List Str} {js : List Nat} {tb : XK → TE} {p lpos pos : Pos}
theorem pe_underQ {q : Str} (hq : X.env.qual ++ "<lambda>" = q) (U : Df X.K X.mg "under" (top 41)) (tr : TrF X.prog X.w X.K X.mg X.base C k spE spX) (he : PE X e te) (TB : TabB X.base X.mg c P) (hcode : X.env.code = .ref c) (hm : (P, q) ∈ T)
    (hu : ∀ p ∈ T, p.1 = P → p.2 = q) (hr : Room (k + 2) X.A) (hfree : ∀ y ∈ scope.names, y.2 = .free → X.env.scope.names.lookup y.1 = some .cell ∨ X.env.scope.names.lookup y.1 = some .free) (hdef : defaultsOf params X.env = ([], []))
    (S : NScope N [y] fr scope) (hfr : ∀ y ∈ fr, (y, NameKind.free) ∈ scope.names) (hjs : js.map (fun j => X.N[j]?) = fr.map some)
    (hbind : ∀ (q : Str) (cl : List (Str × Addr)) (pm cv ctv u : Value), bindArgs (PySem.W.kla_fn "<lambda>" q params body scope cl pm cv ctv) ⟨[u], []⟩ = pure [(y, u)]) (tk : Takes X W)
    (hbody : ∀ (A : Around) (outer : List Env) (s' : Shared) (H' : Hp) (f c' : Addr) (E2 : XK), Room k (A.deeper (envF (lamF (X.env.qual ++ "<lambda>") params scope (cloFrom X.env.cells scope.names []) c') f s'.heap.objs.size)) → A.guards = X.A.guards →
      PE (ncx (L2.CX X.prog X.w) X.prog X.w X.K X.mg X.base N (lamF (X.env.qual ++ "<lambda>") params scope (cloFrom X.env.cells scope.names []) c') f A outer s' H' E2) body (tb E2))
    (hown : ∀ z, X.fn z = true := by exact fun _ => rfl) (hg : Gl X "under" := by rfl) (he1 : starEach [e, .Lambda params body scope lpos] X.env = (false, eval e X.env) :: starEach [.Lambda params body scope lpos] X.env := by rfl) :
    PE X (.Call (.Name "under" p) [e, .Lambda params body scope lpos] [] pos) (tUnder T C q spE spX te tb N js W) := by
  subst hq
  exact pe_under U tr he TB hcode hm hu hr hfree hdef S hfr hjs hbind tk hbody hown hg he1
end
/-! ### _law_tried -/
abbrev N70 : List Str := ["m", "led", "own", "way", "told_so", "e", "fresh"]
theorem sc70 : FnScope N70 ["m", "led", "own", "way"] (defScope (top 70)) := ⟨rfl, rfl, rfl, by decide +kernel, rfl, by decide +kernel, by decide +kernel⟩
abbrev NL70 : List Str := ["held", "fresh", "led", "m", "way"]
theorem free70 : ∀ y ∈ ([("held", .local), ("fresh", .free), ("led", .free), ("m", .free), ("way", .free), ("_law_inner", .globalImplicit)] : List (Str × NameKind)), y.2 = .free → (defScope (top 70)).names.lookup y.1 = some .cell ∨ (defScope (top 70)).names.lookup y.1 = some .free := by decide +kernel
theorem ns70 : NScope NL70 ["held"] ["fresh", "led", "m", "way"] { kind := .function, names := [("held", .local), ("fresh", .free), ("led", .free), ("m", .free), ("way", .free), ("_law_inner", .globalImplicit)], isGenerator := false, isCoroutine := false } := nscope_by (by decide +kernel)
def spTried (K : PySem.W.Frag) (TT : List (Addr × Str)) (CL : Addr) (B : Nat) : Sp := fun vs H Q E => ∃ (m c g : Addr) (n : Nat) (L O : Addr) (st : LedSt) (way : Nat), vs = [.ref m, .ref L, .ref O, .int way] ∧ way ≤ 1 ∧ MAt H m c g n ∧ n + 500 ≤ 100000 ∧ LedAt K CL H L st ∧ OwnAt K H O st ∧ Good B st ∧ B + 4 < 400 ∧ Tabs TT H ∧
  ∀ H' n', Kp TT true [m, L] H H' → MAt H' m c g n' → n' ≤ n + 90 → LedAt K CL H' L st → OwnAt K H' O st → Q (.bl true) H'
theorem ok_tried (T : Txt K mg) (G : LedF K mg CL) (R : TriF K mg CT) (X : BadF P K mg CB) (BG : BadG K CB) {Pi Pt : Addr} (DI : CdF K mg base "_law_inner" (top 69) Pi) (D : CdF K mg base "_law_tried" (top 70) Pt)
    (hTi : ((Pi, ("_law_inner.<locals>.<lambda>" : Str)) : Addr × Str) ∈ TT) (hUi : ∀ p ∈ TT, p.1 = Pi → p.2 = ("_law_inner.<locals>.<lambda>" : Str))
    (hT : ((Pt, ("_law_tried.<locals>.<lambda>" : Str)) : Addr × Str) ∈ TT) (hU : ∀ p ∈ TT, p.1 = Pt → p.2 = ("_law_tried.<locals>.<lambda>" : Str)) {B : Nat} :
    GZ P w K mg base (L2.CX P w) 16 "_law_tried" ["m", "led", "own", "way"] (spTried K TT CL B) := by
  have nd := sc70.nd
  have CLS := G.cls
  have TR := (tri_ok (P := P) (w := w) (base := base) (TT := TT) R G).up (show 1 ≤ 13 by decide)
  have G__law_inner := ok_inner (P := P) (w := w) (base := base) (TT := TT) T G R X DI hTi hUi (B := B)
  have G__law_copied := ok_copied (P := P) (w := w) (base := base) (TT := TT) T
  have G_trial := ok_trial (P := P) (w := w) (base := base) (TT := TT) G R
  have G__law_stands := ok_stands (P := P) (w := w) (base := base) T G (B := B)
  refine gzc D sc70 (fun _ _ _ _ _ _ us hl => match us, hl with | [_, _, _, _], _ => rfl) (fun vs H Q E h => ?_) (fun f c A outer s H vs Q E TB hr gd h => ?_)
  · obtain ⟨_, _, _, _, _, _, _, _, rfl, _⟩ := h
    rfl
  · obtain ⟨m, c0, g, n, L, O, st, way, rfl, hway, hm, hn, ha, own, gd0, hB, tabs, hQ⟩ := h
    refine ⟨_, (pss_cons (ps_asg (pe_tup (pa_cons (pe_g G__law_copied hr pass0 (pa_cons (pv 2) pa_nil)) (pa_cons (pe_str) pa_nil))) (pg_tup rfl (pgs_cons (pg_name (i := 6) nd rfl (Or.inr rfl)) (pgs_cons (pg_name (i := 4) nd rfl (Or.inl rfl)) pgs_nil))))
       (pss_cons (ps_try_as (i := 5) (c := .ref CB) rfl rfl nd rfl rfl ⟨rfl, by decide, .inl X.nm⟩ (takes_of rfl rfl rfl rfl) (fun W pn xe tk _ => pss_one (ps_set (i := 4) nd rfl (.inl rfl) (pe_underQ (q := "_law_tried.<locals>.<lambda>") rfl (N := NL70) (js := [6, 1, 0, 3]) (fr := ["fresh", "led", "m", "way"]) (k := 13) (y := "held") (T.df (41, "under") (by decide +kernel)) TR (pe_gm0 G_trial CLS hr pass0 (pv 1)) TB rfl hT hU hr free70 rfl ns70 (by decide +kernel) rfl (fun _ _ _ _ _ _ => rfl) tk (fun A2 outer2 s2 H2 f2 c2 E2 hr2 gd2 => pe_zS (E := fun _ => E2) G__law_inner hr2 (gd2.trans gd) (fun σ => passAt (takes_of rfl rfl rfl rfl) σ) (pa_cons (pv 3) (pa_cons (pv 2) (pa_cons (pv 0) (pa_cons (pv 1) (pa_cons (pv 4) pa_nil))))))))) (fun a oe cls d pn hz hf => pss_one (ps_set (i := 4) nd rfl (.inl rfl) (pe_ifExp (pt_cmpR op_eq (pe_xf BG.xf BG.np hz hf (pv 5)) pe_int (nomark _)) pe_str pe_str))))
       (pss_one (ps_ret (pe_and (pe_cmpR op_eq (pv 4) (pe_ix ix_list (pe_lst (pa_cons (pe_str) (pa_cons (pe_str) pa_nil))) (pv 3) (fun _ _ => rfl)) (nomark _)) (pe_one (pe_z G__law_stands hr gd (fun _ => at0) (pa_cons (pv 1) (pa_cons (pv 2) pa_nil))))))))), ?_⟩
    obtain ⟨_, _, ⟨dl, hl⟩, _⟩ := id ha
    have mL := m_ne_led hm ha
    have mO := m_ne_own hm own
    have LO := led_ne_own ha own
    have noN : ∀ {Hx : Hp}, NoL Hx [] := fun _ z => absurd z List.not_mem_nil
    refine ⟨_, rfl, O, st, rfl, own, fun F H1 nF k1 f1 => ⟨by show 2 ≤ sizeLine; decide, fun p1 n1 => ?_⟩⟩
    have k12 : Kp TT false [] H (upd H1 p1 (.tup [.ref F, .str "raised"])) := k1.and_new n1
    have k2n : Kp TT false [] H1 (upd H1 p1 (.tup [.ref F, .str "raised"])) := .new n1
    refine ⟨p1, _, rfl, SqT.of upd_same, rfl, _, _, rfl, _, _, rfl, rfl, ?_⟩
    have ha2 := ha.kp k12 List.not_mem_nil
    have own2 := own.kp k12 List.not_mem_nil noN
    have f2 := f1.kp k2n List.not_mem_nil noN
    have m2 := hm.kp k12 List.not_mem_nil noN
    have tabs2 := k12.tabs tabs
    generalize upd H1 p1 (.tup [.ref F, .str "raised"]) = H2 at k12 k2n ha2 own2 f2 m2 tabs2 ⊢
    obtain ⟨_, _, ⟨dl2, hl2⟩, _⟩ := id ha2
    refine ⟨_, rfl, L, dl2, _, rfl, hl2, rfl, L, rfl, fun x H3 p3 q3 nx k3 tri3 => ⟨k3.tabs tabs2, fun c' H4 e4 t4 hc4 => ?_⟩⟩
    have k4 : Kp TT false [] H3 H4 := Kp.extN e4 t4
    have k34 := k3.trans k4
    obtain ⟨dx, hx3⟩ := tri3
    have hx4 := k4.keep _ _ hx3 List.not_mem_nil rfl
    have a4 := ha2.kp k34 List.not_mem_nil
    have own4 := own2.kp k34 List.not_mem_nil noN
    have f4 := f2.kp k34 List.not_mem_nil noN
    have m4 := m2.kp k34 List.not_mem_nil noN
    obtain ⟨p4, q4, ⟨dl4, hl4⟩, tp4, tq4⟩ := id a4
    have xL : x ≠ L := fun z => by
      rw [z, hl2] at nx
      cases nx
    refine ⟨x, dx, _, rfl, hx4, x, L, p4, q4, p3, q3, rfl, ⟨dx, hx4⟩, ⟨dl4, hl4⟩, xL, fun H5 k5 tri5 => ⟨?_, ?_⟩⟩
    · refine k5.keep _ _ hc4 (fun z => ?_) rfl
      rw [List.mem_singleton.mp z, hx4] at hc4
      cases hc4
    · have noX : NoL H4 [x] := fun a hh xs e => by
        rw [List.mem_singleton.mp hh, hx4] at e
        cases e
      have nF' : ∀ {a : Addr} {o : HO}, H a = some o → a ≠ F := fun e z => by
        rw [z, nF] at e
        cases e
      have nx' : ∀ {a : Addr} {o : HO}, H2 a = some o → a ≠ x := fun e z => by
        rw [z, nx] at e
        cases e
      obtain ⟨_, _, _, _, hO0, _⟩ := id own
      obtain ⟨_, _, _, _, hO2, _⟩ := id own2
      obtain ⟨_, _, _, _, hF2, _⟩ := id f2
      have LF := nF' hl
      have OF := nF' hO0
      have mF := nF' hm.m
      have mx := nx' m2.m
      have Lx := nx' hl2
      have Ox := nx' hO2
      have Fx := nx' hF2
      have a5 := a4.kp k5 (not1 Lx)
      have own5 := own4.kp k5 (not1 Ox) noX
      have f5 := f4.kp k5 (not1 Fx) noX
      have m5 := m4.kp k5 (not1 mx) noX
      have tabs5 := k5.tabs t4
      refine ⟨_, rfl, _, rfl, _, rfl, _, rfl, _, rfl, m, c0, g, n, L, F, st, way, rfl, hway, m5, by omega, a5, f5, gd0, hB, tabs5, fun H6 n6 st6 k6 m6 hn6 a6 => ?_⟩
      obtain ⟨dx5, hx5⟩ := id tri5
      have noS5 : NoL H5 [m, L, F] := (noL_m m5).cons ((noL_led a5).cons (noL_own f5))
      have hx6 := k6.keep _ _ hx5 (by simp [Ne.symm mx, Ne.symm Lx, Ne.symm Fx]) rfl
      have own6 := own5.kp k6 (by simp [Ne.symm mO, Ne.symm LO, OF]) noS5
      obtain ⟨p6, q6, ⟨dl6, hl6⟩, _⟩ := id a6
      have back : ∀ H7, Kp TT false [L] H6 H7 → LedH CL H7 L p4 q4 → Kp TT true [m, L] H H7 ∧ LedAt K CL H7 L st ∧ OwnAt K H7 O st ∧ MAt H7 m c0 g n6 := fun H7 k7 led7 => by
        have k47 : Kp TT true [m, L, F, x] H4 H7 := ((k5.any.mono (by simp)).trans (k6.mono (by
          intro a hh
          simp at hh ⊢
          rcases hh with h | h | h <;> simp [h]))).trans (k7.any.mono (by simp))
        have k27 : Kp TT true [m, L, F] H2 H7 := (k34.any.mono (by simp)).freshN k47 fun a hh => by
          simp at hh
          rcases hh with h | h | h | h
          · exact .inl (by simp [h])
          · exact .inl (by simp [h])
          · exact .inl (by simp [h])
          · exact .inr (by rw [h]; exact nx)
        have k07 : Kp TT true [m, L] H H7 := (k12.any.mono (by simp)).freshN k27 fun a hh => by
          simp at hh
          rcases hh with h | h | h
          · exact .inl (by simp [h])
          · exact .inl (by simp [h])
          · exact .inr (by rw [h]; exact nF)
        exact ⟨k07, ⟨p4, q4, led7, tp4.kp k47, tq4.kp k47⟩, own6.kp k7 (not1 (Ne.symm LO)) (noL_led a6), m6.kp k7 (not1 mL) (noL_led a6)⟩
      refine ⟨fun hw => ?_, fun hw d xd => ?_⟩
      · refine ⟨x, L, p4, q4, p6, q6, .non, .non, .non, rfl, ⟨dx5, hx6⟩, ⟨dl6, hl6⟩, xL, fun H7 k7 led7 => ⟨_, rfl, ?_⟩⟩
        obtain ⟨kA, aA, oA, mA⟩ := back _ k7 led7
        refine ⟨_, rfl, by show 2 ≤ sizeLine; decide, fun pl nl => ⟨_, rfl, pl, _, way, V.str "right", rfl, rfl, SqL.of upd_same, by rw [hw]; exact atI_nat rfl, rfl, true, congrArg V.bl (decide_eq_true rfl), iteT ?_⟩⟩
        have eA := Evl.Ex.new (o := .lst [V.str "right", .str "raised"]) nl
        refine ⟨_, rfl, _, rfl, L, O, st, rfl, aA.ex eA, oA.ex eA, gd0, by omega, fun H8 e8 => ?_⟩
        have eB := eA.trans e8
        exact hQ H8 n6 (kA.trans (.of_ex eB)) (mA.ex eB) hn6 (aA.ex eB) (oA.ex eB)
      · refine ⟨CB, rfl, fun e t => ⟨x, L, p4, q4, p6, q6, .ref CB, .ref e, t, rfl, ⟨dx5, hx6⟩, ⟨dl6, hl6⟩, xL, fun H7 k7 led7 => ⟨rfl, true, X.ext, fun _ a na => ?_, fun q => Bool.noConfusion q⟩⟩⟩
        have xd : H6 d = some (.xd [("place", .int 0)]) := xd
        have dL : d ≠ L := fun z => by
          rw [z, hl6] at xd
          cases xd
        have xd7 := k7.keep _ _ xd (not1 dL) rfl
        refine ⟨_, rfl, rfl, rfl, d, _, .int 0, rfl, xd7, rfl, rfl, _, rfl, iteT ?_⟩
        obtain ⟨kA, aA, oA, mA⟩ := back _ k7 led7
        refine ⟨_, rfl, by show 2 ≤ sizeLine; decide, fun pl nl => ⟨_, rfl, pl, _, way, V.str "raised", rfl, rfl, SqL.of upd_same, by rw [hw]; exact atI_nat rfl, rfl, true, congrArg V.bl (decide_eq_true rfl), iteT ?_⟩⟩
        have eA := Evl.Ex.new (o := .lst [V.str "right", .str "raised"]) nl
        refine ⟨_, rfl, _, rfl, L, O, st, rfl, aA.ex eA, oA.ex eA, gd0, by omega, fun H8 e8 => ?_⟩
        have eB := eA.trans e8
        exact hQ H8 n6 (kA.trans (.of_ex eB)) (mA.ex eB) hn6 (aA.ex eB) (oA.ex eB)
end
end T93
-- M19
set_option maxHeartbeats 2000000
set_option pp.maxSteps 1500
/-! T93, part M19: the law. -/
namespace T93
open PySem PySem.Spec PyProof.Rows L2 LamX NdefX
section
variable {P : Program} {w : World} {K : PySem.W.Frag} {mg : Str → Option Value} {base : Heap} {TT : List (Addr × Str)} {CL CT CB : Addr}

theorem rd_init {H : Hp} {x dx : Addr} {u v : V} {h : House} {st : Stand} {Q : VK} (nx : H x = none) (ndx : H dx = none) (nex : dx ≠ x) (th : Tp K H u (dHouse h)) (ts : Tp K H v (dStand st)) (ok : h.Ok) (sh : Shape h st)
    (q : ∀ H', Kp TT false [] H H' → LedAt K CL H' x (begun h st) → Q .non H') : spInit K TT CL [.ref x, u, v] (upd (upd H dx (.own x)) x (.ins CL dx [])) Q E0 := by
  have ex : Ex H (upd (upd H dx (.own x)) x (.ins CL dx [])) := (Evl.Ex.new ndx).trans (.new ((upd_ne (Ne.symm nex)).trans nx))
  exact ⟨x, dx, u, v, h, st, rfl, upd_same, th.ex ex, ts.ex ex, ok, sh, fun H1 k1 la => q H1 ((Kp.of_ex ex : Kp TT false [] H _).fresh1 k1 nx) la⟩
theorem rd_eqL (G : LedF K mg CL) {H : Hp} {a b : Addr} {su sv : LedSt} {Q : VK} (ha : LedAt K CL H a su) (hb : LedAt K CL H b sv) (gu : Good 20 su) (gv : Good 20 sv) {r : Bool} (er : eqLed su sv = r) (q : ∀ H', Ex H H' → Q (.bl r) H') : rOwnEq K CL (spEq K CL 20) E0 (.ref a) (.ref b) H Q := by
  obtain ⟨_, _, ⟨da, la⟩, _⟩ := id ha
  obtain ⟨_, _, ⟨db, lb⟩, _⟩ := id hb
  exact ⟨a, da, _, .ref CL, rfl, la, .ins lb, G.fL, a, su, ha, gu, by decide, .inl ⟨b, sv, rfl, hb, gv, fun H' e => ⟨_, rfl, er ▸ q H' e⟩⟩⟩
theorem good0 {h : House} {st : Stand} {B : Nat} (ok : h.Ok) (sh : Shape h st) : Good B (begun h st) := ⟨⟨ok, sh, fun d hd => by cases hd⟩, rfl, fun e he => absurd he List.not_mem_nil, fun e he => absurd he List.not_mem_nil, Nat.zero_le _⟩
theorem cut_txt (b : Bool) (r : Row) : cutS (txt (b :: r)) (some 1) none = txt r := by
  refine str_ext ?_
  have e : (txt (b :: r)).length = r.length + 1 := txt_len _
  show (((txt (b :: r)).cps.toList.drop (HT.sIx (txt (b :: r)).length 0 (some ((1 : Nat) : Int)))).take (HT.sIx (txt (b :: r)).length (txt (b :: r)).length none - HT.sIx (txt (b :: r)).length 0 (some ((1 : Nat) : Int)))).toArray.toList = _
  rw [HT.sIx_nat, HT.sIx_none, e, Nat.min_eq_left (by omega), txt_l, txt_l, List.map_cons, List.drop_succ_cons, List.drop_zero, Nat.add_sub_cancel, List.toList_toArray]
  exact List.take_of_length_le (by rw [List.length_map]; exact Nat.le_refl _)
theorem flip_txt (b : Bool) (r : Row) : (⟨#[if b = true then 98 else 97]⟩ : Str) ++ cutS (txt (b :: r)) (some 1) none = txt ((!b) :: r) := by
  rw [cut_txt]
  refine str_ext ?_
  rw [app_l, txt_l, txt_l, List.map_cons]
  cases b <;> rfl
theorem eqv_row {b : Bool} {r : Row} : PyData.eqv (dRow ((!b) :: r)) (dRow (b :: r)) = false := by
  unfold dRow
  rw [PyData.eqv]
  refine beq_eq_false_iff_ne.mpr fun z => ?_
  have h := congrArg (fun s : Str => s.cps.toList) z
  simp only [txt_l, List.map_cons] at h
  injection h with h
  cases b <;> simp at h
theorem eqv_flip {h : House} {b : Bool} {r : Row} {l : Stand} : PyData.eqv (dEntry (begun h (((!b) :: r) :: l)).first) (dEntry (begun h ((b :: r) :: l)).first) = false := by
  show PyData.eqv (.tuple [.none, dHouse h, .tuple (dRow ((!b) :: r) :: l.map dRow)]) (.tuple [.none, dHouse h, .tuple (dRow (b :: r) :: l.map dRow)]) = false
  simp only [PyData.eqv, PyData.eqvAll, eqv_row, Bool.false_and, Bool.and_false]
theorem eqv_wards {h : House} {st : Stand} : PyData.eqv (dEntry (begun ⟨h.bodies, h.wards + 1⟩ st).first) (dEntry (begun h st).first) = false := by
  show PyData.eqv (.tuple [.none, .tuple [dBodies h.bodies, .int ((h.wards + 1 : Nat) : Int)], dStand st]) (.tuple [.none, .tuple [dBodies h.bodies, .int (h.wards : Int)], dStand st]) = false
  have e : (((h.wards + 1 : Nat) : Int) == (h.wards : Int)) = false := beq_eq_false_iff_ne.mpr (by omega)
  simp only [PyData.eqv, PyData.eqvAll, e, Bool.false_and, Bool.and_false]
theorem flip_shape {h : House} {b : Bool} {r : Row} {l : Stand} (sh : Shape h ((b :: r) :: l)) : Shape h (((!b) :: r) :: l) := sh
theorem wards_ok {h : House} (ok : h.Ok) (hw : h.wards ≤ 3) : House.Ok ⟨h.bodies, h.wards + 1⟩ := by
  obtain ⟨L, k⟩ := ok
  refine ⟨L, k.l0, k.l12, k.b1, k.b3, k.sz, k.tot, by show h.wards + 1 ≤ 4; omega, fun b hb s hs => ?_⟩
  have z := k.seats b hb s hs
  refine ⟨z.one, z.most, z.dvd, z.ph, ?_⟩
  have zw := z.way
  cases hh : s.way with
  | ward i =>
    rw [hh] at zw
    show i < h.wards + 1
    have : i < h.wards := zw
    omega
  | far a i y =>
    rw [hh] at zw
    exact zw
  | kept => exact True.intro
/-! ### the fixed examples -/
def s0 : Seat := ⟨1, 0, .ward 0⟩
def sk : Seat := ⟨1, 0, .kept⟩
def hx : House := ⟨[[s0, s0]], 1⟩
def st0 : Stand := [[true, false]]
abbrev b0 : LedSt := begun hx st0
theorem ok2 {a b : Way} (ha : a.Ok 1 1) (hb : b.Ok 1 1) : House.Ok ⟨[[⟨1, 0, a⟩, ⟨1, 0, b⟩]], 1⟩ := by
  refine ⟨1, by decide, by decide, by show 1 ≤ 1; decide, by show 1 ≤ 3; decide, fun x hx => ?_, by show 2 ≤ 9; decide, by show 1 ≤ 4; decide, fun x hx s hs => ?_⟩
  · obtain rfl := List.mem_singleton.mp hx
    exact ⟨by show 1 ≤ 2; decide, by show 2 ≤ 9; decide⟩
  · obtain rfl := List.mem_singleton.mp hx
    rcases List.mem_cons.mp hs with rfl | hs
    · exact ⟨by show 1 ≤ 1; decide, by show 1 ≤ 6; decide, by show 1 ∣ 1; decide, by show 0 < 1; decide, ha⟩
    · obtain rfl := List.mem_singleton.mp hs
      exact ⟨by show 1 ≤ 1; decide, by show 1 ≤ 6; decide, by show 1 ∣ 1; decide, by show 0 < 1; decide, hb⟩
theorem hx_ok : hx.Ok := ok2 (show (0 : Nat) < 1 by decide) (show (0 : Nat) < 1 by decide)
theorem hx_sh : Shape hx st0 := rfl
theorem ab_txt : ("ab" : Str) = txt [true, false] := by decide +kernel
theorem a_txt : ("a" : Str) = txt [true] := by decide +kernel
theorem b_txt : ("b" : Str) = txt [false] := by decide +kernel
theorem aa_txt : ("aa" : Str) = txt [true, true] := by decide +kernel
theorem tp_ab {H : Hp} {p : Addr} (n : H p = none) : Tp K (upd H p (.tup [.str "ab"])) (.ref p) (dStand st0) := Tp.new (ds := [dRow [true, false]]) (.one (by
  unfold dRow
  rw [← ab_txt]
  exact .str _)) n
theorem year_x (v : Bool) : year hx st0 0 [v] = [[v, v]] := by cases v <;> decide +kernel
theorem year_aa : dStand (year b0.last.house b0.last.stand b0.votes.length [true]) = .tuple [.str "aa"] := by
  show dStand (year hx st0 0 [true]) = _
  rw [year_x, aa_txt]
  rfl
theorem e_ok (v : Bool) : Entry.Ok ⟨some (.vote [v]), hx, year hx st0 0 [v]⟩ := ⟨hx_ok, by
  show Shape hx (year hx st0 0 [v])
  rw [year_x]
  rfl, fun d hd => by
  obtain rfl := Option.some.inj hd
  show 1 ≤ 9
  decide⟩
theorem g_b0 {B : Nat} : Good B b0 := good0 hx_ok hx_sh
theorem g_voted (v : Bool) : Good 20 (b0.voted [v]) := (Good.keep (B := 0) g_b0 (e_ok v) ⟨_, rfl⟩).mono (by decide)
theorem g_back {e : Entry} (he : e.Ok) (hd : ∃ d, e.deed = some d) : Good 20 ⟨b0.first, [], [e]⟩ := ⟨(g_b0 (B := 0)).f, rfl, fun e he => absurd he List.not_mem_nil, fun u hu => by
  rw [List.mem_singleton.mp hu]
  exact ⟨he, hd⟩, by show 0 + 1 ≤ 20; decide⟩
theorem neq_len {e : Entry} : eqLed ⟨b0.first, [], [e]⟩ (b0.voted [true]) = false := by
  show (PyData.eqv (dEntry b0.first) (dEntry b0.first) && PyData.eqv (.list [dDeed none]) (.list [dDeed none, dDeed (some (.vote [true]))])) = false
  simp only [PyData.eqv, PyData.eqvAll, dDeed, Bool.and_false]
theorem neq_am : eqLed (b0.amendedAt 0 0 sk) (b0.amendedAt 0 1 sk) = false := by
  show (PyData.eqv (dEntry b0.first) (dEntry b0.first) && PyData.eqv (.list [dDeed none, dDeed (some (.amend 0 0 sk))]) (.list [dDeed none, dDeed (some (.amend 0 1 sk))])) = false
  have e : (((0 : Nat) : Int) == ((1 : Nat) : Int)) = false := by decide
  simp only [PyData.eqv, PyData.eqvAll, dDeed, e, Bool.and_false, Bool.false_and]
theorem am_ok (p : Nat) (hp : p < 2) : (amended hx 0 p sk).Ok := by
  match p, hp with
  | 0, _ => exact ok2 True.intro (show (0 : Nat) < 1 by decide)
  | 1, _ => exact ok2 (show (0 : Nat) < 1 by decide) True.intro
theorem am_sh (p : Nat) (hp : p < 2) : Shape (amended hx 0 p sk) st0 := by
  match p, hp with
  | 0, _ => rfl
  | 1, _ => rfl
theorem ea_ok (p : Nat) (hp : p < 2) : Entry.Ok ⟨some (.amend 0 p sk), amended hx 0 p sk, st0⟩ := ⟨am_ok p hp, am_sh p hp, fun d hd => by
  obtain rfl := Option.some.inj hd
  exact ⟨by decide, by omega, 1, 1, 1, by decide, by decide, ⟨by decide, by decide, by decide, by decide, True.intro⟩⟩⟩
theorem g_am (p : Nat) (hp : p < 2) : Good 20 (b0.amendedAt 0 p sk) := (Good.keep (B := 0) g_b0 (ea_ok p hp) ⟨_, rfl⟩).mono (by decide)
/-! ### law -/
abbrev N73 : List Str := ["script", "m", "turn", "house", "stand", "own", "led", "again", "way", "manager", "far", "one", "two"]
theorem sc73 : FnScope N73 ["script"] (defScope (top 73)) := ⟨rfl, rfl, rfl, by decide +kernel, rfl, by decide +kernel, by decide +kernel⟩
theorem ns73 : NScope ["held"] ["held"] [] { kind := .function, names := [("held", .local), ("len", .globalImplicit)], isGenerator := false, isCoroutine := false } := nscope_by (by decide +kernel)
theorem free73 : ∀ y ∈ ([("held", .local), ("len", .globalImplicit)] : List (Str × NameKind)), y.2 = .free → (defScope (top 73)).names.lookup y.1 = some .cell ∨ (defScope (top 73)).names.lookup y.1 = some .free := by decide +kernel
def spLaw (K : PySem.W.Frag) (TT : List (Addr × Str)) : Sp := fun vs H Q _ => ∃ (a : Addr) (ns : List Int), vs = [.ref a] ∧ SqL K H a (ns.map V.int) ∧ ns.length ≤ 63 ∧ Tabs TT H ∧ ∀ H', Q (.bl true) H'
theorem ok_law (T : Txt K mg) (G : LedF K mg CL) (R : TriF K mg CT) (X : BadF P K mg CB) (BG : BadG K CB) {Pi Pt Pl : Addr} (DI : CdF K mg base "_law_inner" (top 69) Pi) (DT : CdF K mg base "_law_tried" (top 70) Pt) (D : CdF K mg base "law" (top 73) Pl)
    (hTi : ((Pi, ("_law_inner.<locals>.<lambda>" : Str)) : Addr × Str) ∈ TT) (hUi : ∀ p ∈ TT, p.1 = Pi → p.2 = ("_law_inner.<locals>.<lambda>" : Str))
    (hTt : ((Pt, ("_law_tried.<locals>.<lambda>" : Str)) : Addr × Str) ∈ TT) (hUt : ∀ p ∈ TT, p.1 = Pt → p.2 = ("_law_tried.<locals>.<lambda>" : Str))
    (hT : ((Pl, ("law.<locals>.<lambda>" : Str)) : Addr × Str) ∈ TT) (hU : ∀ p ∈ TT, p.1 = Pl → p.2 = ("law.<locals>.<lambda>" : Str)) :
    GZ P w K mg base (L2.CX P w) 20 "law" ["script"] (spLaw K TT) := by
  have nd := sc73.nd
  have CLS := G.cls
  have TR := (tri_ok (P := P) (w := w) (base := base) (TT := TT) R G).up (show 1 ≤ 17 by decide)
  have G__law_begun := ok_begun (P := P) (w := w) (base := base) (TT := TT) T
  have G__law_house := ok_houseD (P := P) (w := w) (base := base) (TT := TT) T
  have G__law_stand := ok_standD (P := P) (w := w) (base := base) (TT := TT) T
  have G__law_own := ok_own (P := P) (w := w) (base := base) (TT := TT) T
  have G_init := ok_LI (P := P) (w := w) (base := base) (TT := TT) G T
  have G__law_draw := ok_draw (P := P) (w := w) (base := base) (TT := TT) T
  have G__law_turn := ok_turn (P := P) (w := w) (base := base) (TT := TT) T G (B := 20)
  have G__law_tried := ok_tried (P := P) (w := w) (base := base) (TT := TT) T G R X BG DI DT hTi hUi hTt hUt (B := 20)
  have G__law_later_right := ok_later_right (P := P) (w := w) (base := base) (TT := TT) T G (B := 20)
  have G_trial := ok_trial (P := P) (w := w) (base := base) (TT := TT) G R
  have G_len := ok_len (P := P) (w := w) (base := base) G T
  have G__law_stands := ok_stands (P := P) (w := w) (base := base) T G (B := 20)
  have G__law_copy_right := ok_copy_right (P := P) (w := w) (base := base) (TT := TT) T G (B := 20)
  have G_eq := ok_eq (P := P) (w := w) (base := base) G T (B := 20)
  have G_vote := ok_vote (P := P) (w := w) (base := base) (TT := TT) G T (B := 20)
  have G_undo := ok_undo (P := P) (w := w) (base := base) (TT := TT) G T (B := 20)
  have G_amend := ok_amend (P := P) (w := w) (base := base) (TT := TT) G T (B := 20)
  have NE := G.ne
  refine gzc D sc73 (fun _ _ _ _ _ _ us hl => match us, hl with | [_], _ => rfl) (fun vs H Q E h => ?_) (fun f c A outer s H vs Q E TB hr gd h => ?_)
  · obtain ⟨_, _, rfl, _⟩ := h
    rfl
  · obtain ⟨a, ns, rfl, hs, hns, tabs, hQ⟩ := h
    have mb_int := T.no "int" (by decide +kernel)
    have mb_len := T.no "len" (by decide +kernel)
    have mb_min := T.no "min" (by decide +kernel)
    have mb_range := T.no "range" (by decide +kernel)
    have hu := hu_of hr
    refine ⟨_, (pss_cons (ps_set (i := 1) nd rfl (Or.inl rfl) (pe_g G__law_begun hr pass0 (pa_cons (pv 0) pa_nil)))
       (pss_cons (ps_for (passes_of rfl) rfl (pi_range1 rfl mb_range (pa_cons (pe_op op_add (pe_int) (pe_callB (call_min2 rfl) rfl mb_min (by decide +kernel) (pa_cons pe_int (pa_cons (pe_callB call_len_seq rfl mb_len PySem.boot_len (pa_cons (pv 0) pa_nil)) pa_nil)))) pa_nil)) (pg_name (i := 2) nd rfl (Or.inl rfl)) (pss_cons (ps_set (i := 3) nd rfl (Or.inl rfl) (pe_g G__law_house hr pass0 (pa_cons (pv 1) (pa_cons (pe_int) (pa_cons (pe_int) pa_nil)))))
       (pss_cons (ps_set (i := 4) nd rfl (Or.inl rfl) (pe_g G__law_stand hr pass0 (pa_cons (pv 1) (pa_cons (pv 3) pa_nil))))
       (pss_cons (ps_par (i := 5) (j := 6) rfl nd rfl rfl (by decide) rfl rfl (pa_cons (pe_g G__law_own hr pass0 (pa_cons (pv 3) (pa_cons (pv 4) pa_nil))) (pa_cons (pe_gi G_init hr G.nm (pa_cons (pv 3) (pa_cons (pv 4) pa_nil))) pa_nil)) rfl)
       (pss_cons (ps_for (passes_of rfl) rfl (pi_range1 rfl mb_range (pa_cons (pe_op op_add (pe_int) (pe_g G__law_draw hr pass0 (pa_cons (pv 1) (pa_cons (pe_int) pa_nil)))) pa_nil)) (pg_name (i := 7) nd rfl (Or.inl rfl)) (pss_one (ps_if (pt_not (pt_val (pe_z G__law_turn hr gd (fun _ => at0) (pa_cons (pv 1) (pa_cons (pv 6) (pa_cons (pv 5) pa_nil)))))) (pss_one (ps_ret (pe_bl))) pss_nil)))
       (pss_cons (ps_for (passes_of rfl) rfl (pi_tup (pe_tup (pa_cons (pe_int) (pa_cons (pe_int) pa_nil)))) (pg_name (i := 8) nd rfl (Or.inl rfl)) (pss_one (ps_if (PW.pt (pw_or (pt_not (pt_val (pe_zS (E := fun _ => E) G__law_tried hr gd (fun σ => passAt (takes_of rfl rfl rfl rfl) σ) (pa_cons (pv 1) (pa_cons (pv 6) (pa_cons (pv 5) (pa_cons (pv 8) pa_nil))))))) (pw_or1 (pt_not (pt_val (pe_z G__law_later_right hr gd (fun _ => at0) (pa_cons (pv 6) (pa_cons (pv 5) pa_nil)))))))) (pss_one (ps_ret (pe_bl))) pss_nil)))
       (pss_cons (ps_set (i := 9) nd rfl (Or.inl rfl) (pe_gm0 G_trial CLS hr pass0 (pv 6)))
       (pss_cons (ps_if (PW.pt (pw_or (pt_not (pt_val (pe_z G__law_turn hr gd (fun _ => at0) (pa_cons (pv 1) (pa_cons (pv 6) (pa_cons (pv 5) pa_nil)))))) (pw_or1 (pt_cmpR op_ne ((pe_underQ (q := "law.<locals>.<lambda>") rfl (N := ["held"]) (js := []) (fr := []) (k := 17) (y := "held") (T.df (41, "under") (by decide +kernel)) TR (pv 9) TB rfl hT hU hr free73 rfl ns73 (by decide +kernel) rfl (fun _ _ _ _ _ _ => rfl) (takes_of rfl rfl rfl rfl) (fun A2 outer2 s2 H2 f2 c2 E2 hr2 gd2 => pe_len G_len hr2 mb_len (pa_cons (pv 0) pa_nil)))) (pe_op op_sub (pe_callB call_len_seq rfl mb_len PySem.boot_len (pa_cons (pe_dget hu (pv 5) (pe_str) (fun _ _ => rfl)) pa_nil)) (pe_int)) (nomark _))))) (pss_one (ps_ret (pe_bl))) pss_nil)
       (pss_cons (ps_if (PW.pt (pw_or (pt_not (pt_val (pe_z G__law_stands hr gd (fun _ => at0) (pa_cons (pv 6) (pa_cons (pv 5) pa_nil))))) (pw_or1 (pt_not (pt_val (pe_z G__law_copy_right hr gd (fun _ => at0) (pa_cons (pv 1) (pa_cons (pv 6) (pa_cons (pv 5) pa_nil))))))))) (pss_one (ps_ret (pe_bl))) pss_nil)
       (pss_cons (ps_set (i := 10) nd rfl (Or.inl rfl) (pe_op op_catA (pe_tup (pa_cons (pe_op op_add_str (pe_ix ix_str (pe_str) (pe_callTy call_int1 rfl mb_int boot_int (pa_cons (pe_cmpR op_eq (pe_ix ix_str (pe_ix ix_tup (pv 4) (pe_int) (fun _ _ => rfl)) (pe_int) (fun _ _ => rfl)) (pe_str) (nomark _)) pa_nil)) (fun _ _ => rfl)) (pe_slice sl_str (pe_ix ix_tup (pv 4) (pe_int) (fun _ _ => rfl)) (po_some (pe_int)) po_none)) pa_nil)) (pe_slice sl_tupA (pv 4) (po_some (pe_int)) po_none)))
       (pss_cons (ps_if (PW.pt (pw_or (pt_cmpR (eqR G_eq hr) (pe_gi G_init hr G.nm (pa_cons (pv 3) (pa_cons (pv 10) pa_nil))) (pe_gi G_init hr G.nm (pa_cons (pv 3) (pa_cons (pv 4) pa_nil))) (nomark _)) (pw_or1 (pt_not (pt_cmpR (eqR G_eq hr) (pe_gi G_init hr G.nm (pa_cons (pv 3) (pa_cons (pv 4) pa_nil))) (pe_gi G_init hr G.nm (pa_cons (pv 3) (pa_cons (pv 4) pa_nil))) (nomark _)))))) (pss_one (ps_ret (pe_bl))) pss_nil)
       (pss_one (ps_if (pt_cmpR (eqR G_eq hr) (pe_gi G_init hr G.nm (pa_cons (pe_tup (pa_cons (pe_ix ix_tup (pv 3) (pe_int) (fun _ _ => rfl)) (pa_cons (pe_op op_add (pe_ix ix_tup (pv 3) (pe_int) (fun _ _ => rfl)) (pe_int)) pa_nil))) (pa_cons (pv 4) pa_nil))) (pe_gi G_init hr G.nm (pa_cons (pv 3) (pa_cons (pv 4) pa_nil))) (nomark _)) (pss_one (ps_ret (pe_bl))) pss_nil)))))))))))))
       (pss_cons (ps_set (i := 3) nd rfl (Or.inl rfl) (pe_tup (pa_cons (pe_tup (pa_cons (pe_tup (pa_cons (pe_tup (pa_cons (pe_int) (pa_cons (pe_int) (pa_cons (pe_tup (pa_cons (pe_str) (pa_cons (pe_int) pa_nil))) pa_nil)))) (pa_cons (pe_tup (pa_cons (pe_int) (pa_cons (pe_int) (pa_cons (pe_tup (pa_cons (pe_str) (pa_cons (pe_int) pa_nil))) pa_nil)))) pa_nil))) pa_nil)) (pa_cons (pe_int) pa_nil))))
       (pss_cons (ps_par (i := 11) (j := 12) rfl nd rfl rfl (by decide) rfl rfl (pa_cons (pe_gi G_init hr G.nm (pa_cons (pv 3) (pa_cons (pe_tup (pa_cons (pe_str) pa_nil)) pa_nil))) (pa_cons (pe_gi G_init hr G.nm (pa_cons (pv 3) (pa_cons (pe_tup (pa_cons (pe_str) pa_nil)) pa_nil))) pa_nil)) rfl)
       (pss_cons (ps_expr (pe_gm G_vote CLS hr pass0 (pv 11) (pa_cons (pe_str) pa_nil)))
       (pss_cons (ps_expr (pe_gm0 G_undo CLS hr pass0 (pv 11)))
       (pss_cons (ps_if (PW.pt (pw_or (pt_not (pt_cmpR (eqR G_eq hr) (pv 11) (pv 12) (nomark _))) (pw_or (pt_cmpR (op_neD hr.units) (pe_gm G_vote CLS hr pass0 (pv 12) (pa_cons (pe_str) pa_nil)) (pe_tup (pa_cons (pe_str) pa_nil)) (nomark _)) (pw_or1 (pt_cmpR (eqR G_eq hr) (pv 11) (pv 12) (nomark _)))))) (pss_one (ps_ret (pe_bl))) pss_nil)
       (pss_cons (ps_par (i := 11) (j := 12) rfl nd rfl rfl (by decide) rfl rfl (pa_cons (pe_gi G_init hr G.nm (pa_cons (pv 3) (pa_cons (pe_tup (pa_cons (pe_str) pa_nil)) pa_nil))) (pa_cons (pe_gi G_init hr G.nm (pa_cons (pv 3) (pa_cons (pe_tup (pa_cons (pe_str) pa_nil)) pa_nil))) pa_nil)) rfl)
       (pss_cons (ps_expr (pe_gm G_amend CLS hr pass0 (pv 11) (pa_cons (pe_int) (pa_cons (pe_int) (pa_cons (pe_tup (pa_cons (pe_int) (pa_cons (pe_int) (pa_cons (pe_tup (pa_cons (pe_str) pa_nil)) pa_nil)))) pa_nil)))))
       (pss_cons (ps_expr (pe_gm G_amend CLS hr pass0 (pv 12) (pa_cons (pe_int) (pa_cons (pe_int) (pa_cons (pe_tup (pa_cons (pe_int) (pa_cons (pe_int) (pa_cons (pe_tup (pa_cons (pe_str) pa_nil)) pa_nil)))) pa_nil)))))
       (pss_one (ps_ret (pe_and (pe_cmpR (neR NE G_eq hr) (pv 11) (pv 12) (nomark _)) (pe_and (pe_gm0 G_undo CLS hr pass0 (pv 12)) (pe_and (pe_cmpR op_isN (pe_gm G_amend CLS hr pass0 (pv 12) (pa_cons (pe_int) (pa_cons (pe_int) (pa_cons (pe_tup (pa_cons (pe_int) (pa_cons (pe_int) (pa_cons (pe_tup (pa_cons (pe_str) pa_nil)) pa_nil)))) pa_nil)))) (pe_non) (nomark _)) (pe_one (pe_cmpR (eqR G_eq hr) (pv 11) (pv 12) (nomark _)))))))))))))))))), ?_⟩
    have noN : ∀ {Hx : Hp}, NoL Hx [] := fun _ z => absurd z List.not_mem_nil
    refine ⟨_, rfl, a, ns, rfl, hs, by omega, fun m c0 g H1 k1 m1 => ?_⟩
    have tabs1 := k1.tabs tabs
    have hs1 := sql_kp k1 hs
    refine ⟨_, rfl, a, _, rfl, .inl hs1, _, _, rfl, _, _, rfl, rfl, _, rfl, ?_⟩
    refine ⟨by split <;> omega, by split <;> omega, ?_⟩
    obtain ⟨N, hN, eN⟩ : ∃ N : Nat, N ≤ 4 ∧ (1 + if (((ns.map V.int).length : Nat) : Int) < 3 then (((ns.map V.int).length : Nat) : Int) else 3).toNat = N := ⟨_, by split <;> omega, rfl⟩
    rw [eN]
    refine for_it walk_range (fun i σ H' => Tabs TT H' ∧ ∃ (n' : Nat) (o2 o3 o4 o5 o6 o7 o8 o9 o10 o11 o12 : Option V), MAt H' m c0 g n' ∧ n' ≤ i * 600 ∧ σ = [some (.ref a), some (.ref m), o2, o3, o4, o5, o6, o7, o8, o9, o10, o11, o12]) ⟨tabs1, 0, _, _, _, _, _, _, _, _, _, _, _, m1, by omega, rfl⟩ (fun _ _ _ _ _ => True.intro) (fun i x σ H2 H3 hi p y => ?_) (fun σ H2 p => ?_)
    · obtain ⟨rfl, rfl⟩ := y
      obtain ⟨tabs2, n2, o2, o3, o4, o5, o6, o7, o8, o9, o10, o11, o12, m2, hn2, rfl⟩ := p
      have hn2' : n2 ≤ 1800 := by omega
      refine ⟨_, rfl, m, c0, g, n2, rfl, m2, by omega, fun hv h n3 H3 hok hw3 hb2 hb3 th3 k3 m3 hn3 => ?_⟩
      have hok' := hok
      obtain ⟨Lh, okh⟩ := hok'
      refine ⟨_, rfl, _, rfl, m, c0, g, n3, hv, h, rfl, th3, by omega, fun b hb => by have := hb3 b hb; omega, m3, by omega, fun sv st n4 H4 sh ts4 k4 m4 hn4 => ?_⟩
      have th4 := th3.kp k4
      refine ⟨_, rfl, _, rfl, hv, sv, h, st, rfl, th4, ts4, fun O H5 nO k5 own5 => ?_⟩
      have m5 := m4.kp k5 List.not_mem_nil noN
      have th5 := th4.kp k5
      have ts5 := ts4.kp k5
      refine ⟨_, rfl, _, rfl, fun L dx nL ndx nex => ?_⟩
      have ex : Ex H5 (upd (upd H5 dx (.own L)) L (.ins CL dx [])) := (Evl.Ex.new ndx).trans (.new ((upd_ne (Ne.symm nex)).trans nL))
      refine ⟨L, dx, hv, sv, h, st, rfl, upd_same, th5.ex ex, ts5.ex ex, hok, sh, fun H6 k6' a6 => ⟨rfl, _, _, rfl, ?_⟩⟩
      have k6 := (Kp.of_ex ex : Kp TT false [] H5 _).fresh1 k6' nL
      have m6 := m5.kp k6 List.not_mem_nil noN
      have own6 := own5.kp k6 List.not_mem_nil noN
      have th6 := th5.kp k6
      have ts6 := ts5.kp k6
      have tabs6 := k6.tabs (k5.tabs (k4.tabs (k3.tabs tabs2)))
      have g6 : Good 0 (begun h st) := ⟨⟨hok, sh, fun d hd => by cases hd⟩, rfl, fun e he => absurd he List.not_mem_nil, fun e he => absurd he List.not_mem_nil, Nat.le_refl _⟩
      refine ⟨_, rfl, m, c0, g, n4, 7, rfl, by decide, by decide, m6, by omega, fun zt H7 hzt k7 m7 => ?_⟩
      have mL := m_ne_led m6 a6
      have mO := m_ne_own m6 own6
      have LO := led_ne_own a6 own6
      have a7 := a6.kp k7 (not1 (Ne.symm mL))
      have own7 := own6.kp k7 (not1 (Ne.symm mO)) (noL_m m6)
      have th7 := th6.kp k7
      have ts7 := ts6.kp k7
      have tabs7 := k7.tabs tabs6
      refine ⟨_, _, rfl, rfl, _, rfl, by omega, by omega, ?_⟩
      obtain ⟨M, hM, eM⟩ : ∃ M : Nat, M ≤ 8 ∧ ((2 : Int) + (zt : Nat)).toNat = M := ⟨_, by omega, rfl⟩
      rw [eM]
      refine for_it walk_range (fun j σ H' => Kp TT true [m, L, O] H7 H' ∧ ∃ (su : LedSt) (n' : Nat) (p7 : Option V), LedAt K CL H' L su ∧ OwnAt K H' O su ∧ Good j su ∧ MAt H' m c0 g n' ∧ n' ≤ n4 + 1 + 20 * j ∧
        σ = [some (.ref a), some (.ref m), some (.int (0 + (i : Nat))), some hv, some sv, some (.ref O), some (.ref L), p7, o8, o9, o10, o11, o12]) ⟨.refl, begun h st, _, _, a7, own7, g6, m7, by omega, rfl⟩ (fun _ _ _ _ _ => True.intro) (fun j x σ H8 H9 hj p y => ?_) (fun σ H8 p => ?_)
      · obtain ⟨rfl, rfl⟩ := y
        obtain ⟨k8, su, n8, p7, a8, own8, g8, m8, hn8, rfl⟩ := p
        refine ⟨_, rfl, _, rfl, _, rfl, m, c0, g, n8, L, O, su, rfl, m8, by omega, a8, own8, g8.mono (by omega), by omega, fun Ha sw na ka ma hna aa owna gg fea => ⟨_, rfl, iteF ?_⟩⟩
        exact ⟨k8.trans ka, sw, na, _, aa, owna, gg _ g8, ma, by omega, rfl⟩
      · obtain ⟨k8, su, n8, p7, a8, own8, g8, m8, hn8, rfl⟩ := p
        have hn8' : n8 ≤ n4 + 161 := by omega
        have g8 : Good 8 su := g8.mono hM
        refine ⟨by show 2 ≤ sizeLine; decide, fun pt nt => ?_⟩
        have e9 := Evl.Ex.new (o := .tup [V.int 0, V.int 1]) nt
        have st9 : SqT K (upd H8 pt (.tup [V.int 0, V.int 1])) pt [V.int 0, V.int 1] := SqT.of upd_same
        have tabs8 := k8.tabs tabs7
        refine ⟨pt, rfl, ⟨_, st9⟩, for_it walk_tup (fun j σ H' => Kp TT true [m, L, O] H7 H' ∧ SqT K H' pt [V.int 0, V.int 1] ∧ ∃ (n' : Nat) (p7 p8 : Option V), LedAt K CL H' L su ∧ OwnAt K H' O su ∧ MAt H' m c0 g n' ∧ n' ≤ n8 + 90 * j ∧
          σ = [some (.ref a), some (.ref m), some (.int (0 + (i : Nat))), some hv, some sv, some (.ref O), some (.ref L), p7, p8, o9, o10, o11, o12]) ⟨k8.trans (.of_ex e9), st9, n8, _, _, a8.ex e9, own8.ex e9, m8.ex e9, by omega, rfl⟩ (fun _ _ _ _ p => p.2.1) (fun j x σ Ha Hb hj p y => ?_) (fun σ Ha p => ?_)⟩
        · obtain ⟨rfl, hx⟩ := y
          obtain ⟨ka, sta, na, q7, q8, aa, owna, ma, hna, rfl⟩ := p
          have hj2 : j < 2 := hj
          obtain ⟨way, hway, rfl⟩ : ∃ way : Nat, way ≤ 1 ∧ x = .int way := by
            match j, hx with
            | 0, hx => exact ⟨0, by decide, (Option.some.inj hx).symm⟩
            | 1, hx => exact ⟨1, by decide, (Option.some.inj hx).symm⟩
            | j + 2, hx => simp at hx
          refine ⟨_, rfl, _, rfl, _, rfl, _, rfl, m, c0, g, na, L, O, su, way, rfl, hway, ma, by omega, aa, owna, g8.mono (by decide), by decide, ka.tabs tabs7, fun Hc nc kc mc hnc ac ownc => ⟨_, rfl, iteF ?_⟩⟩
          refine ⟨_, rfl, _, rfl, L, O, su, rfl, ac, ownc, g8.mono (by decide), by decide, fun Hd kd => ⟨_, rfl, iteF ?_⟩⟩
          have kc' := kc.trans (kd.any.mono (by simp))
          exact ⟨ka.trans (kc'.mono (by
            intro a hh
            simp at hh ⊢
            rcases hh with h | h <;> simp [h])), SqT.kp kc' sta, nc, _, _, ac.kp kd List.not_mem_nil, ownc.kp kd List.not_mem_nil noN, mc.kp kd List.not_mem_nil noN, by omega, rfl⟩
        · obtain ⟨ka, sta, na, q7, q8, aa, owna, ma, hna, rfl⟩ := p
          have hna' : na ≤ n8 + 180 := hna
          obtain ⟨_, _, ⟨dla, hla⟩, _⟩ := id aa
          refine ⟨_, rfl, L, dla, _, rfl, hla, rfl, L, rfl, fun x Hb pb qb nxb kb trib => ?_⟩
          have ab := aa.kp kb List.not_mem_nil
          have ownb := owna.kp kb List.not_mem_nil noN
          have mb := ma.kp kb List.not_mem_nil noN
          obtain ⟨_, _, _, _, hOa, _⟩ := id owna
          have nx' : ∀ {z : Addr} {o : HO}, Ha z = some o → z ≠ x := fun e z => by
            rw [z, nxb] at e
            cases e
          have mx := nx' ma.m
          have Lx := nx' hla
          have Ox := nx' hOa
          refine ⟨_, rfl, _, rfl, _, rfl, m, c0, g, na, L, O, su, rfl, mb, by omega, ab, ownb, g8.mono (by decide), by decide, fun Hc sw nc kc mc hnc ac ownc gg fec => ⟨_, rfl, iteF ?_⟩⟩
          have g9 : Good 9 sw := gg _ g8
          have gl9 := g9.len
          obtain ⟨dxb, hxb⟩ := id trib
          have hxc := kc.keep _ _ hxb (by simp [Ne.symm mx, Ne.symm Lx, Ne.symm Ox]) rfl
          have k7c : Kp TT true [m, L, O] H7 Hc := (ka.trans (kb.any.mono (by simp))).trans kc
          refine ⟨_, rfl, k7c.tabs tabs7, fun c' Hd ed td hcd => ?_⟩
          have kd : Kp TT false [] Hc Hd := Kp.extN ed td
          have hxd := kd.keep _ _ hxc List.not_mem_nil rfl
          have ad := ac.kp kd List.not_mem_nil
          have ownd := ownc.kp kd List.not_mem_nil noN
          have md := mc.kp kd List.not_mem_nil noN
          obtain ⟨pd, qd, ⟨dld, hld⟩, tpd, tqd⟩ := id ad
          refine ⟨x, dxb, _, rfl, hxd, x, L, pd, qd, pb, qb, rfl, ⟨dxb, hxd⟩, ⟨dld, hld⟩, Ne.symm Lx, fun He ke trie => ⟨?_, ?_⟩⟩
          · refine ke.keep _ _ hcd (fun z => ?_) rfl
            rw [List.mem_singleton.mp z, hxd] at hcd
            cases hcd
          · have noX : NoL Hd [x] := fun z hh xs e => by
              rw [List.mem_singleton.mp hh, hxd] at e
              cases e
            have ae := ad.kp ke (not1 Lx)
            have owne := ownd.kp ke (not1 Ox) noX
            have me := md.kp ke (not1 mx) noX
            obtain ⟨pe, qe, ⟨dle, hle⟩, tpe, tqe⟩ := id ae
            obtain ⟨dxe, hxe⟩ := id trie
            refine ⟨_, rfl, L, dle, _, rfl, hle, L, sw, rfl, ae, fun Hf ef => ⟨sw.rest.length, rfl, by omega, x, L, pd, qd, pe, qe, .non, .non, .non, rfl, ⟨dxe, ef _ _ hxe⟩, ⟨dle, ef _ _ hle⟩, Ne.symm Lx, fun Hg kg ledg => ⟨_, rfl, ?_⟩⟩⟩
            have owng := (owne.ex ef).kp kg (not1 (Ne.symm LO)) (noL_led (ae.ex ef))
            have mg' := (me.ex ef).kp kg (not1 mL) (noL_led (ae.ex ef))
            have kdg : Kp TT true [m, L, x] Hd Hg := ((ke.any.mono (by simp)).trans (.of_ex ef)).trans (kg.any.mono (by simp))
            have ag : LedAt K CL Hg L sw := ⟨pd, qd, ledg, tpd.kp kdg, tqd.kp kdg⟩
            obtain ⟨pO, qO, psO, qsO, h0O, hpO, tpO, hqO, tqO⟩ := id owng
            have lO : psO.length = sw.rest.length + 1 := by rw [tpO.len, List.length_map]; rfl
            refine ⟨_, rfl, O, .ref pO, rfl, DGet.k (k := Sum.inr "past") h0O, pO, psO, rfl, .inl (SqL.of hpO), _, _, rfl, rfl, rfl, _, rfl, ?_⟩
            refine (show if (!decide (V.int (sw.rest.length : Nat) = V.int (((psO.length : Nat) : Int) - 1))) = true then _ else _ from ?_)
            rw [show (((psO.length : Nat) : Int) - 1) = ((sw.rest.length : Nat) : Int) by omega, decide_eq_true rfl]
            refine iteF ?_
            refine ⟨_, rfl, _, rfl, L, O, sw, rfl, ag, owng, g9.mono (by decide), by decide, fun Hh eh => ⟨_, rfl, iteF ?_⟩⟩
            refine ⟨_, rfl, _, rfl, _, rfl, m, c0, g, nc, L, O, sw, rfl, mg'.ex eh, by omega, ag.ex eh, owng.ex eh, g9.mono (by decide), by decide, fun Hi ni ki mi hni => ⟨_, rfl, iteF ?_⟩⟩
            have k7g : Kp TT true [m, L, O, x] H7 Hg := ((k7c.mono (by
              intro a hh
              simp at hh ⊢
              rcases hh with h | h | h <;> simp [h])).trans (kd.any.mono (by simp))).trans (kdg.mono (by
              intro a hh
              simp at hh ⊢
              rcases hh with h | h | h <;> simp [h]))
            have k7i : Kp TT true [m, L, O, x] H7 Hi := (k7g.trans (.of_ex eh)).trans (ki.mono (by simp))
            have th8 := th7.kp k7i
            have ts8 := ts7.kp k7i
            have tabs9 := k7i.tabs tabs7
            have sl := shape_len sh
            have hb1 := okh.b1
            obtain ⟨b0, r1, l1, rfl⟩ : ∃ b0 r1 l1, st = (b0 :: r1) :: l1 := by
              cases st with
              | nil => simp at sl; omega
              | cons r0 l1 =>
                obtain ⟨b, hb, hrb⟩ := shape_row sh (i := 0) (r := r0) rfl
                have z := (okh.sz b (List.mem_of_getElem? hb)).1
                cases r0 with
                | nil => simp at hrb; omega
                | cons b0 r1 => exact ⟨b0, r1, l1, rfl⟩
            have r9 : (b0 :: r1).length ≤ 9 := by
              obtain ⟨b, hb, hrb⟩ := shape_row sh (i := 0) (r := b0 :: r1) rfl
              have z := (okh.sz b (List.mem_of_getElem? hb)).2
              omega
            obtain ⟨as, xs, zr, rfl, ss, is, us⟩ := ix_of (j := 0) ts8 rfl
            obtain rfl := us.str_inv
            have hz9 : (txt (b0 :: r1)).length ≤ sizeLine := by
              rw [txt_len]
              exact Nat.le_trans (by omega : _ ≤ 1000) (by decide)
            refine ⟨_, rfl, as, xs, _, _, rfl, rfl, ss, is, txt (b0 :: r1), _, if b0 = true then 97 else 98, rfl, rfl, hz9, ?_, rfl, .inr ⟨_, rfl, "ab", _, if b0 = true then 98 else 97, rfl, rfl, by decide, ?_, ?_⟩⟩
            · exact atI_nat (j := 0) (by rw [txt_l]; rfl)
            · cases b0 <;> rfl
            refine ⟨_, rfl, as, xs, _, _, rfl, rfl, ss, is, 1, rfl, txt (b0 :: r1), rfl, hz9, ?_⟩
            refine ⟨_, _, rfl, rfl, ?_, by show 1 ≤ sizeLine; decide, fun p1 np1 => ?_⟩
            · have := cutS_length (txt (b0 :: r1)) (some 1) none
              rw [txt_len] at this
              exact Nat.le_trans (by show 1 + (cutS (txt (b0 :: r1)) (some 1) none).length ≤ 1000; omega) (by decide)
            rw [flip_txt]
            have e1 := Evl.Ex.new (o := .tup [V.str (txt ((!b0) :: r1))]) np1
            have hl1 : l1.length ≤ 2 := by
              have := okh.b3
              simp at sl
              omega
            have tp1 : Tp K _ (.ref p1) (.tuple [dRow ((!b0) :: r1)]) := Tp.new (.one (.str _)) np1
            have hcut : cutL (dRow (b0 :: r1) :: l1.map dRow) (some (1 : Int)) none = l1.map dRow := (cut_from _ 1).trans rfl
            refine ⟨_, rfl, 1, rfl, rd_slN (ts8.ex e1) fun z2 Hj ej tj => ?_⟩
            have tj : Tp K Hj z2 (.tuple (cutL (dRow (b0 :: r1) :: l1.map dRow) (some (1 : Int)) none)) := tj
            rw [hcut] at tj
            refine rd_cat (tp1.ex ej) tj (Nat.le_trans (by rw [List.length_map]; show 1 + l1.length ≤ 1000; omega) (by decide)) fun z3 Hk ek tk => ?_
            have e4 := (e1.trans ej).trans ek
            have tf : Tp K Hk z3 (dStand (((!b0) :: r1) :: l1)) := tk
            have thk := th8.ex e4
            have tsk := ts8.ex e4
            have mk := mi.ex e4
            have tabk := Tabs.ext tabs9 e4
            have gd1 := good0 (B := 20) hok sh
            have gd2 := good0 (B := 20) hok (flip_shape sh)
            refine ⟨_, rfl, _, rfl, fun x1 d1 nx1 nd1 ne1 => rd_init nx1 nd1 ne1 thk tf hok (flip_shape sh) fun Hl kl al => ⟨rfl, ?_⟩⟩
            refine ⟨_, rfl, _, rfl, fun x2 d2 nx2 nd2 ne2 => rd_init nx2 nd2 ne2 (thk.kp kl) (tsk.kp kl) hok sh fun Hm km am => ⟨rfl, ?_⟩⟩
            refine rd_eqL G (al.kp km List.not_mem_nil) am gd2 gd1 (by unfold eqLed; rw [eqv_flip, Bool.false_and]) fun Hn en => ⟨_, rfl, iteF ?_⟩
            have kn := (kl.trans km).trans (.of_ex en)
            have thn := thk.kp kn
            have tsn := tsk.kp kn
            refine ⟨_, rfl, _, rfl, fun x3 d3 nx3 nd3 ne3 => rd_init nx3 nd3 ne3 thn tsn hok sh fun Ho ko ao => ⟨rfl, ?_⟩⟩
            refine ⟨_, rfl, _, rfl, fun x4 d4 nx4 nd4 ne4 => rd_init nx4 nd4 ne4 (thn.kp ko) (tsn.kp ko) hok sh fun Hp kp ap => ⟨rfl, ?_⟩⟩
            refine rd_eqL G (ao.kp kp List.not_mem_nil) ap gd1 gd1 (eqLed_refl gd1) fun Hq eq => ⟨_, rfl, iteF ?_⟩
            have kq := (kn.trans (ko.trans kp)).trans (.of_ex eq)
            have thq := thk.kp kq
            have tsq := tsk.kp kq
            obtain ⟨ah, xh, u0, rfl, sq0, iq0, tu0⟩ := ix_of (j := 0) thq rfl
            obtain ⟨ah2, xh2, u1, eah, sq1, iq1, tu1⟩ := ix_of (j := 1) thq rfl
            cases eah
            obtain rfl := tu1.int_inv
            refine ⟨_, rfl, ah, xh, _, _, rfl, rfl, sq0, iq0, _, rfl, ah, xh2, _, _, rfl, rfl, sq1, iq1, _, _, rfl, rfl, by show 2 ≤ sizeLine; decide, fun pq npq => ?_⟩
            have ew := Evl.Ex.new (o := .tup [u0, V.int ((h.wards : Int) + 1)]) npq
            have tw : Tp K _ (.ref pq) (dHouse ⟨h.bodies, h.wards + 1⟩) := Tp.new (ds := [dBodies h.bodies, .int ((h.wards + 1 : Nat) : Int)]) (.cons tu0 (.cons (.int _) .nil)) npq
            have okw := wards_ok hok hw3
            have shw : Shape ⟨h.bodies, h.wards + 1⟩ ((b0 :: r1) :: l1) := sh
            refine ⟨_, rfl, fun x5 d5 nx5 nd5 ne5 => rd_init nx5 nd5 ne5 tw (tsq.ex ew) okw shw fun Hr kr ar => ⟨rfl, ?_⟩⟩
            refine ⟨_, rfl, _, rfl, fun x6 d6 nx6 nd6 ne6 => rd_init nx6 nd6 ne6 ((thq.ex ew).kp kr) ((tsq.ex ew).kp kr) hok sh fun Hs ks as6 => ⟨rfl, ?_⟩⟩
            refine rd_eqL G (ar.kp ks List.not_mem_nil) as6 (good0 okw shw) gd1 (by unfold eqLed; rw [eqv_wards, Bool.false_and]) fun Ht et => ⟨_, rfl, iteF ?_⟩
            have kt := (kq.trans (.of_ex ew)).trans ((kr.trans ks).trans (.of_ex et))
            exact ⟨kt.tabs tabk, ni, _, _, _, _, _, _, _, _, _, _, _, mk.kp kt List.not_mem_nil noN, by omega, rfl⟩
    · obtain ⟨tabs2, n2, o2, o3, o4, o5, o6, o7, o8, o9, o10, o11, o12, m2, hn2, rfl⟩ := p
      refine ⟨by show 2 ≤ sizeLine; decide, fun p1 n1 => ⟨by show 3 ≤ sizeLine; decide, fun p2 np2 => ⟨by show 2 ≤ sizeLine; decide, fun p3 n3 => ⟨by show 3 ≤ sizeLine; decide, fun p4 n4 => ⟨by show 2 ≤ sizeLine; decide, fun p5 n5 => ⟨by show 1 ≤ sizeLine; decide, fun p6 n6 => ⟨by show 2 ≤ sizeLine; decide, fun p7 n7 => ?_⟩⟩⟩⟩⟩⟩⟩
      have t1 : Tp K _ (.ref p1) (dWay (.ward 0)) := Tp.new (.cons (.str _) (.cons (.int _) .nil)) n1
      have t2 : Tp K _ (.ref p2) (dSeat s0) := Tp.new (.cons (.int _) (.cons (.int _) (.cons t1 .nil))) np2
      have t3 : Tp K _ (.ref p3) (dWay (.ward 0)) := Tp.new (.cons (.str _) (.cons (.int _) .nil)) n3
      have t4 : Tp K _ (.ref p4) (dSeat s0) := Tp.new (.cons (.int _) (.cons (.int _) (.cons t3 .nil))) n4
      have t5 : Tp K _ (.ref p5) (dBody [s0, s0]) := Tp.new (.cons ((t2.ex (.new n3)).ex (.new n4)) (.cons t4 .nil)) n5
      have t6 : Tp K _ (.ref p6) (dBodies [[s0, s0]]) := Tp.new (.one t5) n6
      have t7 : Tp K _ (.ref p7) (dHouse hx) := Tp.new (.cons t6 (.cons (.int _) .nil)) n7
      refine ⟨_, rfl, by show 1 ≤ sizeLine; decide, fun p8 n8 x1 d1 nx1 nd1 ne1 => rd_init nx1 nd1 ne1 (t7.ex (.new n8)) (tp_ab n8) hx_ok hx_sh fun Ha ka a1 => ⟨rfl, ?_⟩⟩
      have ta := (t7.ex (.new (o := .tup [V.str "ab"]) n8)).kp ka
      refine ⟨_, rfl, by show 1 ≤ sizeLine; decide, fun p9 n9 x2 d2 nx2 nd2 ne2 => rd_init nx2 nd2 ne2 (ta.ex (.new n9)) (tp_ab n9) hx_ok hx_sh fun Hb kb a2 => ⟨rfl, _, _, rfl, ?_⟩⟩
      have tb := (ta.ex (.new (o := .tup [V.str "ab"]) n9)).kp kb
      have a1' := a1.ex (.new (o := .tup [V.str "ab"]) n9)
      have a1b := a1'.kp kb List.not_mem_nil
      have x12 : x1 ≠ x2 := by
        obtain ⟨_, _, ⟨_, z⟩, _⟩ := a1'
        exact ne_of_none z nx2
      obtain ⟨_, _, ⟨l1, hl1⟩, _⟩ := id a1b
      refine ⟨_, rfl, x1, l1, _, rfl, hl1, rfl, x1, b0, [false], congrArg (fun z => [V.ref x1, V.str z]) b_txt, a1b, g_b0, by decide, rfl, fun z3 Hc kc ac tz3 => ?_⟩
      obtain ⟨_, _, ⟨l2, hl2⟩, _⟩ := id ac
      refine ⟨_, rfl, x1, l2, _, rfl, hl2, rfl, x1, b0.voted [false], rfl, ac, g_voted false, by decide, fun Hd kd ad => ?_⟩
      rw [back_app (r := []) rfl] at ad
      have kbd := kc.trans kd
      have a2d := a2.kp kbd (not1 (Ne.symm x12))
      have td := tb.kp kbd
      have gu := g_back (e_ok false) ⟨_, rfl⟩
      refine ⟨_, rfl, _, rfl, rd_eqL G ad a2d gu g_b0 (eqLed_refl (g_b0 (B := 20)) : eqLed b0 b0 = true) fun He ee => ⟨_, rfl, iteF ?_⟩⟩
      have a2e := a2d.ex ee
      obtain ⟨_, _, ⟨l3, hl3⟩, _⟩ := id a2e
      refine ⟨_, rfl, x2, l3, _, rfl, hl3, rfl, x2, b0, [true], congrArg (fun z => [V.ref x2, V.str z]) a_txt, a2e, g_b0, by decide, rfl, fun z4 Hf kf af tz4 => ⟨by show 1 ≤ sizeLine; decide, fun p10 n10 => ?_⟩⟩
      have ef := Evl.Ex.new (o := .tup [V.str "aa"]) n10
      rw [year_aa] at tz4
      have naa : Nice 1 100 (.tuple [.str "aa"]) := (Nice.tup (NiceL.cons (Nice.str (n := 0) (W := 4) (by decide +kernel) (by decide +kernel)) (NiceL.nil (W := 0)))).mono (by decide) (by decide)
      refine ⟨_, _, (tz4.ex ef).dp, (Tp.new (.one (.str _)) n10 : Tp K _ (.ref p10) (.tuple [.str "aa"])).dp, naa.shaped (by decide), naa.shaped (by decide), _, rfl, ?_⟩
      rw [naa.refl]
      refine iteF ?_
      have kdf := (Kp.of_ex (T := TT) (b := false) (S := [x2]) ee).trans (kf.trans (.of_ex ef))
      have a1f := ad.kp kdf (not1 x12)
      have tf := td.kp kdf
      refine ⟨_, rfl, _, rfl, rd_eqL G a1f (af.ex ef) gu (g_voted true) neq_len fun Hg eg => ⟨_, rfl, iteF ?_⟩⟩
      have tg := tf.ex eg
      refine ⟨_, rfl, by show 1 ≤ sizeLine; decide, fun q1 m1 y1 d3 ny1 nd3 ne3 => rd_init ny1 nd3 ne3 (tg.ex (.new m1)) (tp_ab m1) hx_ok hx_sh fun Hh kh c1 => ⟨rfl, ?_⟩⟩
      have th := (tg.ex (.new (o := .tup [V.str "ab"]) m1)).kp kh
      refine ⟨_, rfl, by show 1 ≤ sizeLine; decide, fun q2 m2 y2 d4 ny2 nd4 ne4 => rd_init ny2 nd4 ne4 (th.ex (.new m2)) (tp_ab m2) hx_ok hx_sh fun Hi ki c2 => ⟨rfl, _, _, rfl, ?_⟩⟩
      have c1' := c1.ex (.new (o := .tup [V.str "ab"]) m2)
      have c1i := c1'.kp ki List.not_mem_nil
      have y12 : y1 ≠ y2 := by
        obtain ⟨_, _, ⟨_, z⟩, _⟩ := c1'
        exact ne_of_none z ny2
      obtain ⟨_, _, ⟨l4, hl4⟩, _⟩ := id c1i
      refine ⟨_, rfl, y1, l4, _, rfl, hl4, rfl, by show 1 ≤ sizeLine; decide, fun q3 m3 => ⟨by show 3 ≤ sizeLine; decide, fun q4 m4 => ?_⟩⟩
      have ts1 : Tp K _ (.ref q4) (dSeat sk) := Tp.new (.cons (.int _) (.cons (.int _) (.cons (Tp.new (.one (.str _)) m3 : Tp K _ (.ref q3) (dWay .kept)) .nil))) m4
      have ei := (Evl.Ex.new (o := .tup [V.str "kept"]) m3).trans (Evl.Ex.new (o := .tup [V.int 1, V.int 0, V.ref q3]) m4)
      refine ⟨y1, b0, 0, 0, _, sk, [s0, s0], rfl, c1i.ex ei, g_b0, by decide, ts1, rfl, by decide, am_ok 0 (by decide), fun Hj kj e1 => ?_⟩
      have c2j := (c2.ex ei).kp kj (not1 (Ne.symm y12))
      obtain ⟨_, _, ⟨l5, hl5⟩, _⟩ := id c2j
      refine ⟨_, rfl, y2, l5, _, rfl, hl5, rfl, by show 1 ≤ sizeLine; decide, fun q5 m5 => ⟨by show 3 ≤ sizeLine; decide, fun q6 m6 => ?_⟩⟩
      have ts2 : Tp K _ (.ref q6) (dSeat sk) := Tp.new (.cons (.int _) (.cons (.int _) (.cons (Tp.new (.one (.str _)) m5 : Tp K _ (.ref q5) (dWay .kept)) .nil))) m6
      have ej := (Evl.Ex.new (o := .tup [V.str "kept"]) m5).trans (Evl.Ex.new (o := .tup [V.int 1, V.int 0, V.ref q5]) m6)
      refine ⟨y2, b0, 0, 1, _, sk, [s0, s0], rfl, c2j.ex ej, g_b0, by decide, ts2, rfl, by decide, am_ok 1 (by decide), fun Hk kk e2 => ?_⟩
      have e1k := (e1.ex ej).kp kk (not1 y12)
      obtain ⟨_, _, ⟨l6, hl6⟩, _⟩ := id e1k
      obtain ⟨_, _, ⟨l7, hl7⟩, _⟩ := id e2
      refine ⟨_, rfl, _, rfl, y1, y2, l6, l7, _, _, rfl, rfl, hl6, hl7, y1, b0.amendedAt 0 0 sk, e1k, g_am 0 (by decide), by decide, .inl ⟨y2, b0.amendedAt 0 1 sk, rfl, e2, g_am 1 (by decide), fun Hl el => ⟨_, rfl, ?_⟩⟩⟩
      rw [neq_am]
      refine ⟨true, rfl, iteT ?_⟩
      refine ⟨_, rfl, y2, l7, _, rfl, el _ _ hl7, rfl, y2, b0.amendedAt 0 1 sk, rfl, e2.ex el, g_am 1 (by decide), by decide, fun Hm km f2 => ⟨true, rfl, iteT ?_⟩⟩
      rw [back_app (r := []) rfl] at f2
      have e1m := (e1k.ex el).kp km (not1 y12)
      obtain ⟨_, _, ⟨l8, hl8⟩, _⟩ := id f2
      refine ⟨_, rfl, y2, l8, _, rfl, hl8, rfl, by show 1 ≤ sizeLine; decide, fun q7 m7 => ⟨by show 3 ≤ sizeLine; decide, fun q8 m8 => ?_⟩⟩
      have ts3 : Tp K _ (.ref q8) (dSeat sk) := Tp.new (.cons (.int _) (.cons (.int _) (.cons (Tp.new (.one (.str _)) m7 : Tp K _ (.ref q7) (dWay .kept)) .nil))) m8
      have ek := (Evl.Ex.new (o := .tup [V.str "kept"]) m7).trans (Evl.Ex.new (o := .tup [V.int 1, V.int 0, V.ref q7]) m8)
      refine ⟨y2, _, 0, 0, _, sk, [s0, s0], rfl, f2.ex ek, g_back (ea_ok 1 (by decide)) ⟨_, rfl⟩, by decide, ts3, rfl, by decide, am_ok 0 (by decide), fun Hn kn f3 => ⟨rfl, true, congrArg V.bl (decide_eq_true rfl), iteT ?_⟩⟩
      exact ⟨_, rfl, _, rfl, rd_eqL G ((e1m.ex ek).kp kn (not1 y12)) f3 (g_am 0 (by decide)) (g_am 0 (by decide)) (eqLed_refl (g_am 0 (by decide)) : eqLed (b0.amendedAt 0 0 sk) (b0.amendedAt 0 0 sk) = true) fun Ho eo => hQ Ho⟩
end
end T93
-- N1
set_option maxHeartbeats 2000000
/-! T93, part N1: what is looked at behind the top, and what it tells. -/
namespace T93
open PySem PySem.Spec PyProof.Rows L2 LamX
/-! ### defs -/
def dFn (p : Nat × Str) : He.DefD := ⟨(p.2, none), p.2, p.2, defArgs (top p.1), defBody (top p.1), defScope (top p.1), [], []⟩
def dMt (C : Str) (t : Nat) (p : Nat × Str × Str) : He.DefD := ⟨(C, some p.2.1), p.2.1, p.2.2, defArgs (inClass (top t) p.1), defBody (inClass (top t) p.1), defScope (inClass (top t) p.1), [], []⟩
def iL : Nat × Str × Str := tn 0 "__init__" "Led.__init__"
def iT : Nat × Str × Str := tn 0 "__init__" "Trial.__init__"
def fns : List He.DefD := defTab.map dFn ++ (iL :: mthTab).map (dMt "Led" 43) ++ (iT :: tmTab).map (dMt "Trial" 42)
def faX : List He.Fa := [.glo "SIDES", .glo "Led", .glo "Trial", .glo "BadChoices", .free "super", .cls "Led", .cls "Trial", .mkr "Led", .mkr "Trial", .keep "Led", .noat "Led" "past", .noat "Led" "later", .noat "Trial" "held_led", .noat "Trial" "kept_past", .noat "Trial" "kept_later", .noat "BadChoices" "place", .exm "BadChoices" "BadChoices" true]
def facts : List He.Fa := defTab.map (fun p => .glo p.2) ++ bltTab.map .free ++ intTab.map (fun p => .int p.1 p.2) ++ strTab.map (fun p => .str p.1 p.2) ++
  faX ++
  mthTab.map (fun p => .meth "Led" p.2.1) ++ tmTab.map (fun p => .meth "Trial" p.2.1)
/-! ### the rest -/
def nonB : Value → Bool
  | .none => true
  | _ => false
/-- a property's getter -/
def pAt (K : PySem.W.Frag) (C m : Str) : Addr := match PySem.W.recIn K (He.ma K (He.ga K C) m) "property" with
  | some (.ref g :: _) => g
  | _ => 0
abbrev FnO : Type := Option (Str × Str × Arguments × FuncBody × Scope × Addr × List Str × Addr)
/-- a function by its address, its closure by names -/
def fnO (K : PySem.W.Frag) (a : Addr) : FnO := match K.lookup a with
  | some ⟨_, _, .func fd, _⟩ => some (fd.name, fd.qualname, fd.params, fd.body, fd.scope, fd.globals, fd.closure.map (·.1), fd.builtins)
  | _ => none
def valO (x q : Str) (st : Stmt) (cl : List Str) : FnO := some (x, q, defArgs st, FuncBody.stmts (defBody st), defScope st, mainGlobals, cl, builtinsNs)
def fnB (K : PySem.W.Frag) (a : Addr) (q : Str) : Bool := PySem.W.keepIn K (.ref a) && (match K.lookup a with
  | some ⟨_, _, .func fd, _⟩ => PySem.W.codeIn K fd.code q && nonB fd.defaults
  | _ => false)
def prB (K : PySem.W.Frag) (C m : Str) : Bool := He.eqO (PySem.W.findIn K (.ref (He.ga K C)) m) (some (some (.ref (He.ma K (He.ga K C) m)))) &&
  (He.eqO (PySem.W.specialIn K (.ref (He.ma K (He.ga K C) m)) "__get__") (some (some (.builtin "property.__get__"))) && (decide (PySem.W.takesIn K (.ref (He.ma K (He.ga K C) m)) = some true) && (match PySem.W.recIn K (He.ma K (He.ga K C) m) "property" with
    | some (.ref _ :: _) => true
    | _ => false)))
theorem prB_ok {K : PySem.W.Frag} {C m : Str} (h : prB K C m = true) : PropOf K (He.ga K C) m (He.ma K (He.ga K C) m) (pAt K C m) := by
  obtain ⟨h1, h⟩ := He.ba h
  obtain ⟨h2, h⟩ := He.ba h
  obtain ⟨h3, h4⟩ := He.ba h
  refine ⟨He.eqO_ok h1, He.eqO_ok h2, of_decide_eq_true h3, ?_⟩
  unfold pAt
  split at h4
  · rename_i e
    rw [e]
    exact ⟨_, rfl⟩
  · cases h4
theorem fn_of {K : PySem.W.Frag} {a : Addr} {x q : Str} {st : Stmt} (h : fnO K a = valO x q st []) (b : fnB K a q = true) : ∃ fd, Fun K x q st a fd := by
  obtain ⟨kp, b⟩ := He.ba b
  unfold fnO at h
  cases e : K.lookup a with
  | none =>
    rw [e] at b
    cases b
  | some o =>
    obtain ⟨oc, od, dt, osl⟩ := o
    rw [e] at b h
    cases dt with
    | func fd =>
      obtain ⟨n1, n2, n3, n4, n5, n6, n7, n8, n9, n10, n11, n12, n13, n14, n15⟩ := fd
      have h2 : (some (n1, n2, n3, n4, n5, n6, n7.map (·.1), n15) : FnO) = some (x, q, defArgs st, FuncBody.stmts (defBody st), defScope st, mainGlobals, [], builtinsNs) := h
      simp only [Option.some.injEq, Prod.mk.injEq, List.map_eq_nil_iff] at h2
      obtain ⟨h1, h2, h3, h4, h5, h6, h7, h8⟩ := h2
      subst h1 h2 h3 h4 h5 h6 h7 h8
      obtain ⟨b1, b2⟩ := He.ba (show (PySem.W.codeIn K n13 n2 && nonB n8) = true from b)
      cases n8 with
      | none => exact ⟨_, ⟨oc, od, n9, n10, n11, n12, n13, n14, osl, rfl, e, b1⟩, kp⟩
      | _ => cases b2
    | _ => cases b
theorem fun_of {K : PySem.W.Frag} {x q : Str} {st : Stmt} {a : Addr} {fd : FuncData} (F : FunD K x q (defArgs st) (defBody st) (defScope st) [] [] a fd) : Fun K x q st a fd := by
  obtain ⟨oc, od, dV, kV, doc, pm, an, cdv, ct, osl, h1, h2, h3, h4, _⟩ := F.ex
  rcases h4 with ⟨_, rfl⟩ | ⟨h, _⟩
  · exact ⟨⟨oc, od, kV, doc, pm, an, cdv, ct, osl, h1, h2, h3⟩, F.kp⟩
  · exact absurd rfl h
/-! ### BadChoices -/
def oexB (K : PySem.W.Frag) (C : Addr) : Bool := (match K.lookup C with
  | some ⟨.type t, _, .cls cd, sl⟩ => decide (t = "type") && (match cd.mro, sl.toList with
    | .ref C' :: bm, [_, _, _, _, some (.builtin n), _] => decide (C' = C) && (decide (n = "ValueError.__new__") && (!cd.hasDel && (cd.hasDict && PySem.HandSPX.refsVE bm)))
    | _, _ => false)
  | _ => false) && (He.eqO (PySem.W.findIn K (.ref C) "__setattr__") (some (some (.builtin "object.__setattr__"))) && (decide (PySem.W.subIn K (.ref C) (.type "BaseException") = some true) && (decide (PySem.W.typeIn K (.ref C) = some (.type "type")) && PySem.W.keepIn K (.ref C))))
theorem oexB_ok {K : PySem.W.Frag} {C : Addr} (h : oexB K C = true) : OexC K C := by
  obtain ⟨h1, h⟩ := He.ba h
  obtain ⟨h2, h⟩ := He.ba h
  obtain ⟨h3, h⟩ := He.ba h
  obtain ⟨h4, h5⟩ := He.ba h
  refine ⟨?_, He.eqO_ok h2, of_decide_eq_true h3, of_decide_eq_true h4, h5⟩
  cases e : K.lookup C with
  | none =>
    rw [e] at h1
    cases h1
  | some o =>
    obtain ⟨oc, od, dt, osl⟩ := o
    rw [e] at h1
    cases oc with
    | type t =>
      cases dt with
      | cls cd =>
        obtain ⟨q1, q2⟩ := He.ba h1
        have et : t = "type" := of_decide_eq_true q1
        subst et
        split at q2
        · rename_i C' bm a0 a1 a2 a3 n a5 em es
          obtain ⟨q3, q2⟩ := He.ba q2
          obtain ⟨q4, q2⟩ := He.ba q2
          obtain ⟨q5, q2⟩ := He.ba q2
          obtain ⟨q6, q7⟩ := He.ba q2
          obtain ⟨nm, bs, mro, ns, qn, hd, sn, sub, ab, col, del⟩ := cd
          have e3 : C' = C := of_decide_eq_true q3
          have e4 : n = "ValueError.__new__" := of_decide_eq_true q4
          have e5 : del = false := by
            cases del with
            | false => rfl
            | true => cases q5
          have e6 : hd = true := q6
          have e7 : mro = .ref C' :: bm := em
          subst e3 e4 e5 e6 e7
          have e8 : osl = #[a0, a1, a2, a3, some (.builtin "ValueError.__new__"), a5] := Array.toList_inj.mp es
          subst e8
          exact ⟨nm, qn, ns, bs, bm, sn, sub, ab, col, od, a0, a1, a2, a3, a5, rfl, q7⟩
        · cases q2
      | _ => cases h1
    | _ => cases dt <;> cases h1
/-- its __init__ -/
def cellB (K : PySem.W.Frag) (cc C : Addr) : Bool := match K.lookup cc with
  | some ⟨_, _, .cell (some (.ref D)), _⟩ => decide (D = C)
  | _ => false
def fileB (K : PySem.W.Frag) (c : Addr) (file : Str) : Bool := match K.lookup c with
  | some ⟨_, _, .fields vs, _⟩ => (match (vs[2]? : Option Value) with
    | some (.str x _) => decide (x = file)
    | _ => false)
  | _ => false
def codB (K : PySem.W.Frag) (file : Str) : Value → Bool
  | .ref c => fileB K c file
  | _ => false
def xinB (K : PySem.W.Frag) (C a : Addr) (q file : Str) : Bool := match K.lookup a with
  | some ⟨_, _, .func fd, _⟩ => PySem.W.codeIn K fd.code q && (nonB fd.defaults && (codB K file fd.code && fd.closure.all fun p => cellB K p.2 C))
  | _ => false
theorem cellB_ok {K : PySem.W.Frag} {cc C : Addr} (h : cellB K cc C = true) : ∃ (c1 : Value) (c2 : Option Addr) (c3 : Array (Option Value)), K.lookup cc = some ⟨c1, c2, .cell (some (.ref C)), c3⟩ := by
  unfold cellB at h
  split at h
  · rename_i D _ e
    rw [of_decide_eq_true h] at e
    exact ⟨_, _, _, e⟩
  · cases h
theorem fileB_ok {K : PySem.W.Frag} {c : Addr} {file : Str} (h : fileB K c file = true) : ∃ (c1 : Value) (c2 : Option Addr) (c3 : Array (Option Value)) (vs : Array Value) (tf : Tok), K.lookup c = some ⟨c1, c2, .fields vs, c3⟩ ∧ vs[2]? = some (.str file tf) := by
  unfold fileB at h
  split at h
  · rename_i vs _ e
    split at h
    · rename_i x t e2
      rw [of_decide_eq_true h] at e2
      exact ⟨_, _, _, vs, t, e, e2⟩
    · cases h
  · cases h
theorem one_of {l : List (Str × Addr)} {y : Str} (h : l.map (·.1) = [y]) : ∃ p : Str × Addr, l = [p] ∧ p.1 = y := by
  cases l with
  | nil => cases h
  | cons p r =>
    injection h with h1 h2
    exact ⟨p, by rw [List.map_eq_nil_iff.mp h2], h1⟩
theorem xin_of {K : PySem.W.Frag} {C a : Addr} {x q file : Str} {st : Stmt} (h : fnO K a = valO x q st ["__class__"]) (b : xinB K C a q file = true) :
    ∃ (fd : FuncData) (cc cda : Addr) (oc : Value) (od : Option Addr) (osl : Array (Option Value)) (kV doc pm ct : Value) (an : Option Addr), fd = PySem.W.ksFn x q (defArgs st) (defBody st) (defScope st) .none kV doc pm an (.ref cda) ct cc ∧
      K.lookup a = some ⟨oc, od, .func fd, osl⟩ ∧ PySem.W.codeIn K (.ref cda) q = true ∧
      (∃ (c1 : Value) (c2 : Option Addr) (c3 : Array (Option Value)) (vs : Array Value) (tf : Tok), K.lookup cda = some ⟨c1, c2, .fields vs, c3⟩ ∧ vs[2]? = some (.str file tf)) ∧
      ∃ (c1 : Value) (c2 : Option Addr) (c3 : Array (Option Value)), K.lookup cc = some ⟨c1, c2, .cell (some (.ref C)), c3⟩ := by
  unfold xinB at b
  unfold fnO at h
  cases e : K.lookup a with
  | none =>
    rw [e] at b
    cases b
  | some o =>
    obtain ⟨oc, od, dt, osl⟩ := o
    rw [e] at b h
    cases dt with
    | func fd =>
      obtain ⟨n1, n2, n3, n4, n5, n6, n7, n8, n9, n10, n11, n12, n13, n14, n15⟩ := fd
      have h2 : (some (n1, n2, n3, n4, n5, n6, n7.map (·.1), n15) : FnO) = some (x, q, defArgs st, FuncBody.stmts (defBody st), defScope st, mainGlobals, [("__class__" : Str)], builtinsNs) := h
      simp only [Option.some.injEq, Prod.mk.injEq] at h2
      obtain ⟨h1, h2, h3, h4, h5, h6, h7, h8⟩ := h2
      subst h1 h2 h3 h4 h5 h6 h8
      obtain ⟨b1, b⟩ := He.ba (show (PySem.W.codeIn K n13 n2 && (nonB n8 && (codB K file n13 && n7.all fun p => cellB K p.2 C))) = true from b)
      obtain ⟨b2, b⟩ := He.ba b
      obtain ⟨b3, b4⟩ := He.ba b
      cases n8 with
      | none =>
        cases n13 with
        | ref c =>
          obtain ⟨p, rfl, hp⟩ : ∃ p : Str × Addr, n7 = [p] ∧ p.1 = "__class__" := one_of h7
          obtain ⟨y, cc⟩ := p
          obtain rfl : y = "__class__" := hp
          have b5 := List.all_eq_true.mp b4 ("__class__", cc) List.mem_cons_self
          exact ⟨_, cc, c, oc, od, osl, n9, n10, n11, n14, n12, rfl, rfl, b1, fileB_ok b3, cellB_ok b5⟩
        | _ => cases b3
      | _ => cases b2
    | _ => cases b
/-- all that is asked of BadChoices -/
def badB (P : Program) (K : PySem.W.Frag) (C f : Addr) (q : Str) : Bool := oexB K C && (xinB K C f q P.main.file && (He.eqO (PySem.W.ks_superIn K C C "__init__") (some (some (.builtin "ValueError.__init__"))) && (decide (PySem.W.subIn K (.ref C) (.type "ValueError") = some true) &&
  (decide (PySem.W.mroIn K C (.ref C) = some true) && (He.eqO (PySem.W.nsIn K cStatics "thirdparty.any") (some none) && (He.eqO (PySem.W.findIn K (.ref C) "place") (some none) && (He.eqO (PySem.W.findIn K (.ref C) "__init__") (some (some (.ref f))) &&
  (decide (PySem.W.typeIn K (.ref f) = some (.type "function")) && (decide (PySem.W.exmOne K (.ref C) (.ref C) = some true) && xfB K C)))))))))
theorem bad_of {P : Program} {K : PySem.W.Frag} {mg : Str → Option Value} {C f : Addr} {q : Str} (hn : mg "BadChoices" = some (.ref C)) (hs : mg "super" = none) (ht : (P.main.scope.names.lookup ("super" : Str)).isSome = false) (h : fnO K f = valO "__init__" q xiText ["__class__"])
    (b : badB P K C f q = true) : BadF P K mg C ∧ BadG K C := by
  obtain ⟨b1, b⟩ := He.ba b
  obtain ⟨b2, b⟩ := He.ba b
  obtain ⟨b3, b⟩ := He.ba b
  obtain ⟨b4, b⟩ := He.ba b
  obtain ⟨b5, b⟩ := He.ba b
  obtain ⟨b6, b⟩ := He.ba b
  obtain ⟨b7, b⟩ := He.ba b
  obtain ⟨b8, b⟩ := He.ba b
  obtain ⟨b9, b⟩ := He.ba b
  obtain ⟨b10, b11⟩ := He.ba b
  obtain ⟨fd, hfd⟩ := xin_of h b2
  exact ⟨⟨hn, ⟨f, fd, q, ⟨oexB_ok b1, hfd, He.eqO_ok b3, of_decide_eq_true b4, of_decide_eq_true b5, He.eqO_ok b6, hs, ht, He.eqO_ok b7⟩, He.eqO_ok b8, of_decide_eq_true b9⟩, of_decide_eq_true b10⟩, ⟨xfB_ok b11, He.eqO_ok b7⟩⟩
/-! ### Led -/
def ledB (K : PySem.W.Frag) (C : Addr) (f : Addr) : Bool := neIn K C f && (decide (PySem.W.kitOne K (.ref C) (.ref C) = some true) && (decide (PySem.W.kitOne K (.type "list") (.ref C) = some false) && (decide (PySem.W.kitOne K (.type "int") (.ref C) = some false) &&
  (PySem.W.notFirst K C (.ref C) && (PySem.W.notFirst K C (.type "list") && (PySem.W.notFirst K C (.type "int") && (He.eqO (PySem.W.findIn K (.ref C) "__class__") (some (some (.builtin "object.__class__"))) &&
  (He.eqO (PySem.W.specialIn K (.builtin "object.__class__") "__get__") (some (some (.builtin "getset_descriptor.__get__"))) && (decide (PySem.W.takesIn K (.builtin "object.__class__") = some true) && decide (PySem.W.mroIn K C (.type "object") = some true))))))))))
/-- the Bools that the Hook asks besides -/
def exB (P : Program) (K : PySem.W.Frag) : Bool := He.tupB K "SIDES" [.str "a", .str "b"] && (propTab.all (fun p => prB K "Led" p.2.1 && fnB K (pAt K "Led" p.2.1) p.2.2) && (ledB K (He.ga K "Led") (He.ma K (He.ga K "Led") "__eq__") && (badB P K (He.ga K "BadChoices") (He.ma K (He.ga K "BadChoices") "__init__") "BadChoices.__init__" &&
  (He.Fa.ok K (.glo "BadChoices")))))
end T93
-- N2
set_option maxHeartbeats 2000000
/-! T93, part N2: the end of the row, for a promise made where no repr is under way. -/
namespace T93
open PySem PySem.Spec PyProof.Rows L2 LamX
section
variable {P : Program} {w : World} {K : PySem.W.Frag} {mg mb : Str → Option Value} {k : Nat} {fa a : Addr} {cs : List (Addr × Addr)} {x y : Str} {sp : Sp} {s₁ : Shared} {vs : List Value} {ns : List Int}
/-- the script's object -/
abbrev scr (vs : List Value) : Obj := { cls := .type "list", data := .seq vs.toArray }
/-- what is tracked at first: the tables; the script, where the written part has it not -/
def firstH (K : PySem.W.Frag) (ts : List Addr) (a : Addr) (vs : List Value) (ns : List Int) : Hp := fun b =>
  if b ∈ ts then some (.tbl #[]) else if b = a ∧ K.lookup a = none then some (.frz (scr vs) (.lst (ns.map V.int))) else none
theorem firstH_cases {ts : List Addr} {b : Addr} {u : HO} (h : firstH K ts a vs ns b = some u) : (b ∈ ts ∧ u = .tbl #[]) ∨ (b ∉ ts ∧ b = a ∧ K.lookup a = none ∧ u = .frz (scr vs) (.lst (ns.map V.int))) := by
  unfold firstH at h
  split at h
  · rename_i m
    exact .inl ⟨m, (Option.some.inj h).symm⟩
  · rename_i m
    split at h
    · rename_i q
      exact .inr ⟨m, q.1, q.2, (Option.some.inj h).symm⟩
    · cases h
theorem law_end (KX : K.In s₁.heap) (hg : s₁.heap.Ns mainGlobals mg) (hb : s₁.heap.Ns builtinsNs mb) (hbb : ∀ z : Str, z ≠ "__name__" → mb z = bootBuiltins z) (lim : s₁.heap.NoLimit) (gen : s₁.gens = #[])
    (et : ∀ p ∈ cs, s₁.heap.get? p.2 = some { cls := .none, data := .fields #[] }) (nt : ∀ p ∈ cs, K.lookup p.2 = none) (ct : ∀ p ∈ cs, PySem.W.CodeHd s₁.heap p.1 p.2)
    (bm : ∃ (b : Addr) (o : Obj), mg "__builtins__" = some (.ref b) ∧ b ≠ builtinsNs ∧ s₁.heap.get? b = some o ∧ o.cls = .type "module" ∧ o.dict = some builtinsNs ∧ o.data = .plain)
    (ha : s₁.heap.get? a = some (scr vs)) (hi : IntsAre vs ns) (hl : ns.length ≤ sizeLine) (hr : Room k callerA) (hf : mg x = some (.ref fa))
    (F : ∀ base : Heap, K.In base → base.Ns mainGlobals mg → (∀ p ∈ cs, TabB base mg p.1 p.2) → GZ P w K mg base (L2.CX P w) k x [y] sp)
    (hsp : ∀ H : Hp, (∀ p ∈ cs, H p.2 = some (.tbl #[])) → SqL K H a (ns.map V.int) → sp [.ref a] H (fun v _ => v = .bl true) fun _ _ _ => False) :
    codeAny (model P w) callerA (.call (.ref fa) ⟨[.ref a], []⟩) (fun r s' => r = .ok (.ret (.bool true)) ∧ OldK s₁.heap s'.heap ∧ s'.os = s₁.os ∧ AllBare s'.gens) s₁ := by
  have rv := vals_ints hi
  have at_t : ∀ {b : Addr}, b ∈ cs.map (·.2) → s₁.heap.get? b = some { cls := .none, data := .fields #[] } := fun {b} m => by
    obtain ⟨p, mp, rfl⟩ := List.mem_map.mp m
    exact et p mp
  have na : a ∉ cs.map (·.2) := fun m => by
    have q := at_t m
    rw [ha] at q
    injection q with q
    injection q with _ _ q _
    cases q
  -- what is tracked is a list or an empty table
  have kind : ∀ {b : Addr} {u : HO} {o : Obj}, firstH K (cs.map (·.2)) a vs ns b = some u → s₁.heap.get? b = some o → o = scr vs ∨ o = { cls := .none, data := .fields #[] } := fun {b u o} h e => by
    rcases firstH_cases h with ⟨m, _⟩ | ⟨_, rfl, _, _⟩
    · rw [at_t m] at e
      exact .inr (Option.some.inj e).symm
    · rw [ha] at e
      exact .inl (Option.some.inj e).symm
  have off : ∀ {b : Addr} {o : Obj}, s₁.heap.get? b = some o → o ≠ scr vs → o ≠ { cls := .none, data := .fields #[] } → firstH K (cs.map (·.2)) a vs ns b = none := fun {b o} e n1 n2 => by
    cases q : firstH K (cs.map (·.2)) a vs ns b with
    | none => rfl
    | some u => exact (kind q e).elim (fun z => absurd z n1) fun z => absurd z n2
  have hok : HOk P w (firstH K (cs.map (·.2)) a vs ns) s₁.heap := fun b u h => by
    rcases firstH_cases h with ⟨m, rfl⟩ | ⟨_, rfl, _, rfl⟩
    · exact at_t m
    · exact ⟨ha, by rw [List.length_map]; exact hl, vs, _, rv, ha⟩
  generalize eH : firstH K (cs.map (·.2)) a vs ns = H at kind off hok
  have inB : ∀ {b : Addr} {o : Obj}, s₁.heap.get? b = some o → o ≠ scr vs → o ≠ { cls := .none, data := .fields #[] } → (hidT s₁.heap H).get? b = some o := fun e n1 n2 => hidT_get e (off e n1 n2)
  have nsB : ∀ {b : Addr} {m : Str → Option Value}, s₁.heap.Ns b m → (hidT s₁.heap H).Ns b m := fun {b m} h => by
    obtain ⟨o, es, ep, e, d, r⟩ := h
    exact ⟨o, es, ep, inB e (fun z => by rw [z] at d; cases d) (fun z => by rw [z] at d; cases d), d, r⟩
  have KB : K.In (hidT s₁.heap H) := fun b o e => hidT_get (KX b o e) (by
    cases q : H b with
    | none => rfl
    | some u =>
      rw [← eH] at q
      rcases firstH_cases q with ⟨m, _⟩ | ⟨_, rfl, hn, _⟩
      · obtain ⟨p, mp, rfl⟩ := List.mem_map.mp m
        rw [nt p mp] at e
        cases e
      · rw [hn] at e
        cases e)
  have TB : ∀ p ∈ cs, TabB (hidT s₁.heap H) mg p.1 p.2 := fun p mp => by
    refine ⟨?_, ?_, fun z => ?_⟩
    · obtain ⟨o, us, file, tf, flags, tg, inF, text, tt, e, r1, r2, r3, rest⟩ := ct p mp
      refine ⟨o, us, file, tf, flags, tg, inF, text, tt, inB e (fun z => ?_) (fun z => ?_), r1, r2, r3, rest⟩
      · rw [z] at r2
        cases r2
      · rw [z] at r2
        cases r2
        simp at r3
    · obtain ⟨b, o, b1, b2, b3, b4, b5, b6⟩ := bm
      refine ⟨b, o, b1, b2, fun z => ?_, fun z => ?_, inB b3 (fun z => by rw [z] at b6; cases b6) (fun z => by rw [z] at b6; cases b6), b4, b5, b6⟩
      · obtain ⟨o2, es, ep, e, d, _⟩ := hg
        rw [← z, b3] at e
        cases e
        rw [d] at b6
        cases b6
      · rw [z, et p mp] at b3
        cases b3
        cases b6
    · obtain ⟨o2, es, ep, e, d, _⟩ := hg
      rw [z, et p mp] at e
      cases e
      cases d
  obtain ⟨mc, l1, l2⟩ := lim
  have md : L2.Mod K mg (hidT s₁.heap H) := ⟨KB, nsB hg, ⟨mb, nsB hb, hbb⟩, ⟨mc, nsB l1, l2⟩⟩
  have e0 : Env0 P w K mg (hidT s₁.heap H) callerA [] s₁ H := ⟨rfl, md, fun b o e => of_hidT e, Nat.le_of_eq (hidT_size _ _), trivial, fun b m => (List.not_mem_nil m).elim, hok, .of_eq gen⟩
  have tracked : ∀ p ∈ cs, H p.2 = some (.tbl #[]) := fun p mp => by
    rw [← eH]
    exact if_pos (List.mem_map.mpr ⟨p, mp, rfl⟩)
  have hS : SqL K H a (ns.map V.int) := by
    cases q : K.lookup a with
    | none =>
      refine .inl (.inr ⟨scr vs, ?_⟩)
      rw [← eH]
      exact (if_neg na).trans (if_pos ⟨rfl, q⟩)
    | some o =>
      have e := KX a o q
      rw [ha] at e
      obtain rfl := Option.some.inj e
      exact .inr ⟨_, vs.toArray, _, q, rfl, rfl, rfl, by rw [List.size_toArray, hi.length]; exact hl, by simpa using rv⟩
  obtain ⟨f, fd, Z, hf2, kf, bd⟩ := (F _ KB (nsB hg) TB).ex
  obtain rfl : f = fa := by
    rw [hf] at hf2
    injection hf2 with z
    injection z with z
    exact z.symm
  refine codeAny_mono (Z.run callerA [] s₁ H ⟨[.ref a], []⟩ [.ref a] [.ref a] _ _ hr rfl e0 (by
    have z := bd s₁ [.ref a] KX rfl
    rw [List.append_nil] at z
    exact z) (.cons rfl .nil) (hsp H tracked hS)) fun r s' h => ?_
  match r, h with
  | .ok (.ret u), h =>
    obtain ⟨v, H', os, bare, un, hok', rl, rfl⟩ := h
    obtain rfl : u = Value.bool true := rl
    have more : ∀ p ∈ cs, ∃ m : Array Value, s'.heap.get? p.2 = some { cls := .none, data := .fields m } := fun p mp => by
      obtain ⟨m, z⟩ := un.tbls p.2 #[] (tracked p mp)
      exact ⟨_, hok' p.2 _ z⟩
    have same : ∀ b o, b ∉ cs.map (·.2) → s₁.heap.get? b = some o → s'.heap.get? b = some o := fun b o nb e => by
      cases q : H b with
      | none => exact un.keep b o e q (fun z => (List.not_mem_nil z).elim) (fun z => (List.not_mem_nil z).elim)
      | some u =>
        rw [← eH] at q
        rcases firstH_cases q with ⟨m, _⟩ | ⟨_, rfl, _, rfl⟩
        · exact absurd m nb
        · rw [eH] at q
          have z := (hok' _ _ (un.frzs _ _ _ q)).1
          rw [ha] at e
          rw [z]
          exact e
    refine ⟨rfl, ⟨fun b o e => ?_, fun b o e => ?_⟩, os, bare⟩
    · by_cases m : b ∈ cs.map (·.2)
      · obtain ⟨p, mp, rfl⟩ := List.mem_map.mp m
        obtain ⟨mo, hm⟩ := more p mp
        rw [et p mp] at e
        obtain rfl := Option.some.inj e
        refine .inr (.inl ⟨((ct p mp).tab (et p mp)).isCodeTable, rfl, #[], mo, rfl, ?_⟩)
        rw [Array.empty_append]
        exact hm
      · exact .inl (same b o m e)
    · by_cases m : b ∈ cs.map (·.2)
      · obtain ⟨p, mp, rfl⟩ := List.mem_map.mp m
        obtain ⟨mo, hm⟩ := more p mp
        exact ⟨_, hm⟩
      · exact ⟨o, same b o m e⟩
  | .ok .next, h => exact h.elim
  | .ok .brk, h => exact h.elim
  | .ok .cont, h => exact h.elim
  | .error e, h =>
    obtain ⟨_, _, _, _, _, _, _, _, _, _, _, _, h⟩ := h
    exact h.elim
end
end T93
-- N3
set_option maxHeartbeats 2000000
/-! T93, part N3: the Hook; what it tells. -/
namespace T93
open PySem PySem.Spec PyProof.Rows L2 LamX
/-- the law's row, its program -/
abbrev PG : Program := PySem.Challenge.pw_termseats_k93_whole_trials_and_copies
def tdefs : List He.Defn := [("_law_inner", none), ("_law_tried", none), ("law", none)]
def tabN (K : PySem.W.Frag) (x : Str) : Addr := (He.cT K (x, none)).2
/-- three tables, none the same -/
def distB (K : PySem.W.Frag) : Bool := decide (tabN K "_law_inner" ≠ tabN K "_law_tried") && (decide (tabN K "_law_inner" ≠ tabN K "law") && decide (tabN K "_law_tried" ≠ tabN K "law"))
def moreB (K : PySem.W.Frag) : Bool := exB PG K && distB K
def ownF (K : PySem.W.Frag) : List FnO := propTab.map (fun p => fnO K (pAt K "Led" p.2.1)) ++ [fnO K (He.ma K (He.ga K "BadChoices") "__init__")]
def ownV : List FnO := propTab.map (fun p => valO p.2.1 p.2.2 (inClass (top 43) p.1) []) ++ [valO "__init__" "BadChoices.__init__" xiText ["__class__"]]
/-- what is looked at: a function and its code; what a property holds; a class, its names; the module's names; the statics -/
def ofFn : Obj → List Addr
  | ⟨_, _, .func fd, _⟩ => He.refV fd.code ++ fd.closure.map (·.2)
  | _ => []
def ofAny (g : Addr → Option Obj) (a : Addr) : List Addr := a :: (match g a with
  | some o => (match o.data with
    | .fields vs => (vs.toList.flatMap He.refV).flatMap fun b => b :: (match g b with
      | some u => ofFn u
      | none => [])
    | _ => ofFn o)
  | none => [])
def namesOf (g : Addr → Option Obj) (a : Addr) : List Addr := match g a with
  | some ⟨_, _, .dict es _, _⟩ => es.toList.flatMap fun e => He.refV e.val
  | _ => []
def ofTop (g : Addr → Option Obj) (a : Addr) : List Addr := match g a with
  | some ⟨_, _, .cls cd, _⟩ => a :: cd.ns :: (namesOf g cd.ns).flatMap (ofAny g)
  | _ => ofAny g a
def seenA (g : Addr → Option Obj) : List Addr := mainGlobals :: cStatics :: (namesOf g mainGlobals).flatMap (ofTop g)
abbrev AlY : Type := He.AlX × List FnO
def obsY (g : Addr → Option Obj) : AlY := ((He.obsT facts fns [] (He.frT g (seenA g)), moreB (He.frT g (seenA g)) && He.tabsB g tdefs (He.frT g (seenA g))), ownF (He.frT g (seenA g)))
def valY (w : World) : AlY := (He.valX fns [] w, ownV)
structure Says (w : World) (h : Heap) (K : PySem.W.Frag) : Prop where
  x : He.SaysX facts fns [] tdefs moreB w h K
  own : ownF K = ownV
theorem tab_of {g : Addr → Option Obj} {as : List Addr} {p : He.Defn} (ht : He.tabsB g tdefs (He.frT g as) = true) (hp : p ∈ tdefs) :
    PySem.W.codeHdIn (He.frT g as) (He.cT (He.frT g as) p).1 (He.cT (He.frT g as) p).2 = true ∧ ∃ o, g (He.cT (He.frT g as) p).2 = some o ∧ He.emptyTab o = true := by
  have z := He.ba (List.all_eq_true.mp ht p hp)
  refine ⟨z.1, ?_⟩
  have z2 := z.2
  split at z2
  · rename_i o e
    exact ⟨o, e, z2⟩
  · cases z2
theorem says_of {w : World} {h : Heap} (e : obsY h.get? = valY w) : Says w h (He.frT h.get? (seenA h.get?)) := by
  have e1 := congrArg (fun z : AlY => z.1.1) e
  have e2 := He.ba (congrArg (fun z : AlY => z.1.2) e)
  have e3 := congrArg (fun z : AlY => z.2) e
  refine ⟨⟨e1, e2.1, fun p hp => (tab_of e2.2 hp).1, fun p hp => ?_, fun p hp => ?_⟩, e3⟩
  · obtain ⟨_, o, q, z⟩ := tab_of e2.2 hp
    exact He.frT_none q z
  · obtain ⟨_, o, q, z⟩ := tab_of e2.2 hp
    rw [← He.emptyTab_eq z]
    exact q
def hookY : PySem.W.Hook where
  α := AlY
  obs := fun s => obsY s.heap.get?
  val := fun w => valY w
  says := fun w h => ∃ K : PySem.W.Frag, K.In h ∧ Says w h K
  of := fun _ _ e => ⟨_, He.frT_in, says_of e⟩
  keeps := fun _ _ _ y k => by
    obtain ⟨K, hK, c⟩ := y
    exact ⟨K, PySem.W.Frag.In.keeps hK k, ⟨⟨c.x.t, c.x.more, c.x.hd, c.x.out, fun p hp => k _ _ (c.x.empty p hp)⟩, c.own⟩⟩
section
variable {w : World} {h : Heap} {K : PySem.W.Frag} {mg : Str → Option Value}
theorem says_fact (c : Says w h K) {f : He.Fa} (m : f ∈ facts) : f.ok K = true := c.x.t.d.facts m
theorem mem_l {α : Type} {a : α} {l r : List α} (h : a ∈ l) : a ∈ l ++ r := List.mem_append.mpr (.inl h)
theorem mem_r {α : Type} {a : α} {l r : List α} (h : a ∈ r) : a ∈ l ++ r := List.mem_append.mpr (.inr h)
theorem txt_of (X : K.In h) (G : h.Ns mainGlobals mg) (c : Says w h K) : Txt K mg := by
  refine ⟨fun p hp => ?_, fun x hx => ?_, fun p hp => ?_, fun p hp => ?_, ?_⟩
  · have g := He.glo_ok X G (says_fact c (f := .glo p.2) (mem_l (mem_l (mem_l (mem_l (mem_l (mem_l (List.mem_map.mpr ⟨p, hp, rfl⟩))))))))
    obtain ⟨fd, F⟩ := c.x.t.d.defs (d := dFn p) (mem_l (mem_l (List.mem_map.mpr ⟨p, hp, rfl⟩)))
    exact ⟨_, fd, fun_of F, g⟩
  · exact He.free_ok X G (says_fact c (f := .free x) (mem_l (mem_l (mem_l (mem_l (mem_l (mem_r (List.mem_map.mpr ⟨x, hx, rfl⟩))))))))
  · exact He.int_ok X G (says_fact c (f := .int p.1 p.2) (mem_l (mem_l (mem_l (mem_l (mem_r (List.mem_map.mpr ⟨p, hp, rfl⟩)))))))
  · exact He.str_ok X G (says_fact c (f := .str p.1 p.2) (mem_l (mem_l (mem_l (mem_r (List.mem_map.mpr ⟨p, hp, rfl⟩))))))
  · have g := He.glo_ok X G (says_fact c (f := .glo "SIDES") (mem_l (mem_l (mem_r List.mem_cons_self))))
    have t := (He.ba (He.ba c.x.more).1).1
    exact ⟨_, g, fun H => He.tupB_ok t H⟩
theorem ex_of (c : Says w h K) : exB PG K = true := (He.ba c.x.more).1
theorem fx (c : Says w h K) (i : Nat) {f : He.Fa} (m : faX[i]? = some f := by rfl) : f.ok K = true := says_fact c (mem_l (mem_l (mem_r (List.mem_of_getElem? m))))
theorem own_at (c : Says w h K) {i : Nat} {a b : FnO} (ha : (ownF K)[i]? = some a) (hb : ownV[i]? = some b) : a = b := by
  rw [c.own, hb] at ha
  exact (Option.some.inj ha).symm
theorem led_of (X : K.In h) (G : h.Ns mainGlobals mg) (c : Says w h K) : LedF K mg (He.ga K "Led") := by
  have e1 := (He.ba (ex_of c)).2
  obtain ⟨eP, e2⟩ := He.ba e1
  obtain ⟨eL, _⟩ := He.ba e2
  obtain ⟨l1, eL⟩ := He.ba eL
  obtain ⟨l2, eL⟩ := He.ba eL
  obtain ⟨l3, eL⟩ := He.ba eL
  obtain ⟨l4, eL⟩ := He.ba eL
  obtain ⟨l5, eL⟩ := He.ba eL
  obtain ⟨l6, eL⟩ := He.ba eL
  obtain ⟨l7, eL⟩ := He.ba eL
  obtain ⟨l8, eL⟩ := He.ba eL
  obtain ⟨l9, eL⟩ := He.ba eL
  obtain ⟨l10, l11⟩ := He.ba eL
  have mt : ∀ p ∈ mthTab, MtD K (He.ga K "Led") p.2.1 p.2.2 (inClass (top 43) p.1) := fun p hp => by
    obtain ⟨fd, F⟩ := c.x.t.d.defs (d := dMt "Led" 43 p) (mem_l (mem_r (List.mem_map.mpr ⟨p, List.mem_cons_of_mem _ hp, rfl⟩)))
    exact ⟨_, fd, He.meth_ok (says_fact c (f := .meth "Led" p.2.1) (mem_l (mem_r (List.mem_map.mpr ⟨p, hp, rfl⟩)))), fun_of F⟩
  refine ⟨He.glo_ok X G (fx c 1), He.keep_ok (fx c 9), He.cls_ok (fx c 5), ?_, fun p hp => ?_, mt, fun f hf => ?_, He.noat_ok (fx c 10), He.noat_ok (fx c 11),
    of_decide_eq_true l2, of_decide_eq_true l3, of_decide_eq_true l4, l5, l6, l7, He.eqO_ok l8, He.eqO_ok l9, of_decide_eq_true l10, of_decide_eq_true l11⟩
  · obtain ⟨fd, F⟩ := c.x.t.d.defs (d := dMt "Led" 43 iL) (mem_l (mem_r (List.mem_map.mpr ⟨iL, List.mem_cons_self, rfl⟩)))
    exact ⟨_, fd, He.mkr_ok (fx c 7), fun_of F⟩
  · obtain ⟨q1, q2⟩ := He.ba (List.all_eq_true.mp eP p hp)
    obtain ⟨i, hi, ep⟩ := List.mem_iff_getElem.mp hp
    have ei : propTab[i]? = some p := by rw [List.getElem?_eq_getElem hi, ep]
    have eo := own_at c (i := i) (a := fnO K (pAt K "Led" p.2.1)) (b := valO p.2.1 p.2.2 (inClass (top 43) p.1) []) (by
      unfold ownF
      rw [List.getElem?_append_left (by rw [List.length_map]; exact hi), List.getElem?_map, ei]
      rfl) (by
      unfold ownV
      rw [List.getElem?_append_left (by rw [List.length_map]; exact hi), List.getElem?_map, ei]
      rfl)
    obtain ⟨fd, F⟩ := fn_of eo q2
    exact ⟨_, _, fd, prB_ok q1, F⟩
  · obtain ⟨f2, fd, M, _⟩ := (mt (tn 14 "__eq__" "Led.__eq__") (by decide)).ex
    have e := (He.meth_ok (says_fact c (f := .meth "Led" "__eq__") (mem_l (mem_r (List.mem_map.mpr ⟨tn 14 "__eq__" "Led.__eq__", by decide, rfl⟩))))).at_
    rw [hf] at e
    have e2 : f = He.ma K (He.ga K "Led") "__eq__" := by
      injection e with e
      injection e with e
      injection e with e
    rw [e2]
    exact l1
theorem tri_of (X : K.In h) (G : h.Ns mainGlobals mg) (c : Says w h K) : TriF K mg (He.ga K "Trial") := by
  refine ⟨He.glo_ok X G (fx c 2), He.cls_ok (fx c 6), ?_, fun p hp => ?_, He.noat_ok (fx c 12), He.noat_ok (fx c 13), He.noat_ok (fx c 14)⟩
  · obtain ⟨fd, F⟩ := c.x.t.d.defs (d := dMt "Trial" 42 iT) (mem_r (List.mem_map.mpr ⟨iT, List.mem_cons_self, rfl⟩))
    exact ⟨_, fd, He.mkr_ok (fx c 8), fun_of F⟩
  · obtain ⟨fd, F⟩ := c.x.t.d.defs (d := dMt "Trial" 42 p) (mem_r (List.mem_map.mpr ⟨p, List.mem_cons_of_mem _ hp, rfl⟩))
    exact ⟨_, fd, He.meth_ok (says_fact c (f := .meth "Trial" p.2.1) (mem_r (List.mem_map.mpr ⟨p, hp, rfl⟩))), fun_of F⟩
theorem bad_at (X : K.In h) (G : h.Ns mainGlobals mg) (c : Says w h K) : BadF PG K mg (He.ga K "BadChoices") ∧ BadG K (He.ga K "BadChoices") := by
  have e1 := (He.ba (ex_of c)).2
  obtain ⟨eP, e2⟩ := He.ba e1
  obtain ⟨_, e3⟩ := He.ba e2
  obtain ⟨eB, _⟩ := He.ba e3
  exact bad_of (He.glo_ok X G (fx c 3)) (He.free_ok X G (fx c 4)) (by decide +kernel) (own_at c (i := 3) rfl rfl) eB
/-! ### the tables -/
def csOf (K : PySem.W.Frag) : List (Addr × Addr) := tdefs.map (He.cT K)
def ttOf (K : PySem.W.Frag) : List (Addr × Str) := [(tabN K "_law_inner", "_law_inner.<locals>.<lambda>"), (tabN K "_law_tried", "_law_tried.<locals>.<lambda>"), (tabN K "law", "law.<locals>.<lambda>")]
theorem cd_of (X : K.In h) (G : h.Ns mainGlobals mg) (c : Says w h K) {base : Heap} {i : Nat} {x : Str} (hp : (i, x) ∈ defTab) (TB : TabB base mg (He.cT K (x, none)).1 (He.cT K (x, none)).2) : CdF K mg base x (top i) (tabN K x) := by
  have g := He.glo_ok X G (says_fact c (f := .glo x) (mem_l (mem_l (mem_l (mem_l (mem_l (mem_l (List.mem_map.mpr ⟨(i, x), hp, rfl⟩))))))))
  obtain ⟨fd, F⟩ := c.x.t.d.defs (d := dFn (i, x)) (mem_l (mem_l (List.mem_map.mpr ⟨(i, x), hp, rfl⟩)))
  have F2 := fun_of F
  obtain ⟨oc, od, kV, doc, pm, an, cdv, ct, osl, e1, e2, e3⟩ := F2.ex
  obtain ⟨cc, rfl⟩ := He.codeIn_ref e3
  have ec : fd.code = .ref cc := by rw [e1]
  have eq : (He.cT K (x, none)).1 = cc := He.codeOf_eq (p := (x, none)) e2 ec
  rw [eq] at TB
  exact ⟨_, fd, cc, F2, g, ec, TB⟩
end
end T93
-- N4
set_option maxHeartbeats 0
/-! T93, part N4: the run of the top, the row. -/
namespace T93
open PySem PySem.Spec PyProof.Rows L2 LamX
abbrev RO : PySem.W.OpenRow := PySem.W.OpenLaw.row PySem.Challenge.rw_termseats_k93_whole_trials_and_copies
def l1 : List PySem.Str := ["SeatError", "BadHouse", "BadStand", "BadChoices", "BadNumber", "TooGreat", "SIDE_A", "SIDE_B", "SIDES", "KEPT", "WARD", "BODY", "REST", "MOST_BODIES", "MOST_SEATS", "MOST_TERM", "MOST_WARDS", "MOST_ROUND", "is_whole", "is_way", "is_seat", "common", "round_of", "need_bodies", "need_house", "are_letters", "is_stand", "need_stand", "need_choices", "EVEN"]
def l2 : List PySem.Str := ["comes_up", "more_of", "told_by", "year_of", "MOST_DEEDS", "VOTE", "AMEND", "under", "Trial", "Led", "_law_mixed", "_law_folded", "_law_draw", "_law_begun", "_law_like", "_law_of", "_law_way", "_law_seat", "_law_house", "_law_stand", "_law_votes", "_law_side", "_law_ones", "_law_is_due", "_law_after", "_law_gone_back", "_law_gone_on", "_law_copied", "_law_own"]
def l3 : List PySem.Str := ["_law_kept", "_law_voted", "_law_amended", "_law_stands", "_law_turn", "_law_inner", "_law_tried", "_law_later_right", "_law_copy_right"]
def names : List PySem.Str := l1 ++ l2 ++ l3
abbrev qv : Program := PySem.W.view RO.prog [73]
def obY (s : PySem.W.SharedT) : AlY := obsY (HandSHeadRun.getT s)
theorem obY_eq (s : PySem.W.SharedT) : obY s = hookY.obs s.abs := by
  have e : HandSHeadRun.getT s = s.abs.heap.get? := funext fun a => HandSHeadRun.getT_eq s a
  unfold obY
  rw [e]
  rfl
theorem runY (w : World) : HandSHeadRun.RunEq RO qv hookY obY 20000 names w := by
  intro os
  kernel_rfl
end T93
-- N5
set_option maxHeartbeats 2000000
namespace T93
open PySem PySem.Spec PyProof.Rows L2 LamX
section
variable {w : World} {h : Heap} {K : PySem.W.Frag} {mg : Str → Option Value}
theorem three {K : PySem.W.Frag} (d : distB K = true) : (∀ p ∈ ttOf K, p.1 = tabN K "_law_inner" → p.2 = ("_law_inner.<locals>.<lambda>" : Str)) ∧ (∀ p ∈ ttOf K, p.1 = tabN K "_law_tried" → p.2 = ("_law_tried.<locals>.<lambda>" : Str)) ∧ ∀ p ∈ ttOf K, p.1 = tabN K "law" → p.2 = ("law.<locals>.<lambda>" : Str) := by
  obtain ⟨d1, d2⟩ := He.ba d
  obtain ⟨d2, d3⟩ := He.ba d2
  have d1 := of_decide_eq_true d1
  have d2 := of_decide_eq_true d2
  have d3 := of_decide_eq_true d3
  have cs : ∀ p ∈ ttOf K, p = (tabN K "_law_inner", ("_law_inner.<locals>.<lambda>" : Str)) ∨ p = (tabN K "_law_tried", ("_law_tried.<locals>.<lambda>" : Str)) ∨ p = (tabN K "law", ("law.<locals>.<lambda>" : Str)) := fun p hp => by
    rcases List.mem_cons.mp hp with e | hp
    · exact .inl e
    · rcases List.mem_cons.mp hp with e | hp
      · exact .inr (.inl e)
      · exact .inr (.inr (List.mem_singleton.mp hp))
  refine ⟨fun p hp e => ?_, fun p hp e => ?_, fun p hp e => ?_⟩
  · rcases cs p hp with rfl | rfl | rfl
    · rfl
    · exact absurd e.symm d1
    · exact absurd e.symm d2
  · rcases cs p hp with rfl | rfl | rfl
    · exact absurd e d1
    · rfl
    · exact absurd e.symm d3
  · rcases cs p hp with rfl | rfl | rfl
    · exact absurd e d2
    · exact absurd e d3
    · rfl
theorem law_gz (X : K.In h) (G : h.Ns mainGlobals mg) (c : Says w h K) {base : Heap} (TB : ∀ p ∈ csOf K, TabB base mg p.1 p.2) : GZ PG w K mg base (L2.CX PG w) 20 "law" ["script"] (spLaw K (ttOf K)) := by
  obtain ⟨u1, u2, u3⟩ := three (He.ba c.x.more).2
  obtain ⟨bf, bg⟩ := bad_at X G c
  have tb : ∀ x : Str, ((x, none) : He.Defn) ∈ tdefs → TabB base mg (He.cT K (x, none)).1 (He.cT K (x, none)).2 := fun x hx => TB _ (List.mem_map.mpr ⟨(x, none), hx, rfl⟩)
  exact ok_law (txt_of X G c) (led_of X G c) (tri_of X G c) bf bg (cd_of X G c (i := 69) (by decide +kernel) (tb "_law_inner" (by decide +kernel))) (cd_of X G c (i := 70) (by decide +kernel) (tb "_law_tried" (by decide +kernel))) (cd_of X G c (i := 73) (by decide +kernel) (tb "law" (by decide +kernel)))
    List.mem_cons_self u1 (List.mem_cons_of_mem _ List.mem_cons_self) u2 (List.mem_cons_of_mem _ (List.mem_cons_of_mem _ List.mem_cons_self)) u3
theorem law_sp {H : Hp} {a : Addr} {ns : List Int} (hl : ns.length ≤ 63) (hH : ∀ p ∈ csOf K, H p.2 = some (.tbl #[])) (hS : SqL K H a (ns.map V.int)) : spLaw K (ttOf K) [.ref a] H (fun v _ => v = .bl true) fun _ _ _ => False := by
  refine ⟨a, ns, rfl, hS, hl, fun p hp => TabS.nil ?_, fun _ => rfl⟩
  rcases List.mem_cons.mp hp with rfl | hp
  · exact hH (He.cT K ("_law_inner", none)) List.mem_cons_self
  · rcases List.mem_cons.mp hp with rfl | hp
    · exact hH (He.cT K ("_law_tried", none)) (List.mem_cons_of_mem _ List.mem_cons_self)
    · obtain rfl := List.mem_singleton.mp hp
      exact hH (He.cT K ("law", none)) (List.mem_cons_of_mem _ (List.mem_cons_of_mem _ List.mem_cons_self))
end
end T93
open PySem PySem.W PySem.Calls PyProof.Rows
theorem PySem.Challenge.cw_termseats_k93_whole_trials_and_copies_holds : PySem.Challenge.rw_termseats_k93_whole_trials_and_copies.Holds := by
  w_on; o_law
  refine HandSHeadRun.head_any (r := OpenLaw.row PySem.Challenge.rw_termseats_k93_whole_trials_and_copies) (q := view (OpenLaw.row PySem.Challenge.rw_termseats_k93_whole_trials_and_copies).prog [73]) (H := T93.hookY) (ob := T93.obY) (M := 20000) (loose := T93.names) (d := HandSHeadRun.topDef (OpenLaw.row PySem.Challenge.rw_termseats_k93_whole_trials_and_copies).prog 73) (kwd := []) T93.obY_eq
    (by kernel_rfl) (fun s => by kernel_rfl) T93.runY (by kernel_rfl) (by kernel_rfl) (by kernel_rfl) (by rfl) (by first | assumption | decide +kernel) (by decide +kernel) ⟨rfl, rfl, rfl, rfl, rfl, by decide +kernel⟩ ?hw ?hc
  case hw => w_witness2
  case hc =>
    refine Att.attach_callB (l := PySem.Challenge.rw_termseats_k93_whole_trials_and_copies) (n := 63) rfl (by kernel_rfl) fun w s₀ s₁ mg mb fa o pm cd doc a vs ns G Y ho hd hcd hmg0 hobj hints hlen hbits hg => ?_
    obtain ⟨K, KX, c⟩ := Y
    have hmg : mg ("law" : PySem.Str) = some (.ref fa) := by
      have e : (HandSHeadRun.topDef (OpenLaw.row PySem.Challenge.rw_termseats_k93_whole_trials_and_copies).prog 73).name = ("law" : PySem.Str) := by kernel_rfl
      rw [← e]
      exact hmg0
    exact T93.law_end (P := T93.PG) (x := "law") (y := "script") (cs := T93.csOf K) KX G.T.g G.T.b G.T.builtins G.T.nolimit hg (fun p hp => by
      obtain ⟨q, hq, rfl⟩ := List.mem_map.mp hp
      exact c.x.empty q hq) (fun p hp => by
      obtain ⟨q, hq, rfl⟩ := List.mem_map.mp hp
      exact c.x.out q hq) (fun p hp => by
      obtain ⟨q, hq, rfl⟩ := List.mem_map.mp hp
      exact PySem.W.codeHd_of_K KX (c.x.hd q hq)) G.T.bmain hobj hints (Nat.le_trans hlen (by decide)) ⟨rfl, by decide, by decide⟩ hmg (fun base _ _ TB => T93.law_gz KX G.T.g c TB) fun H hH hS => T93.law_sp hlen hH hS
