import PyProof.Rows.All
import Wide.All
import OpenK.AllK
import Wide.FinOn
import HandS.ForMost
import HandS.ForExc
import HandS.Gcd
import HandS.Wide
import HandS.TupAny
import HandS.TupMul
import HandS.IsInst
import HandS.Defaults
import HandS.Flow
import HandS.Lambda
import HandS.Nested
import KE.KTupSum
import PyProof.ReprRoads
import HandS.Walk
import KE.GoesEnum
import HandS.HeadWalk
import PyProof.ReprBulk
import KE.KStateDown
import HandS.Head0
import HandS.Head1
import HandS.Head2
import HandS.HeadHook4
import PySem.Challenge.RW_tossplans_k63_whole_held_things
set_option Elab.async false
set_option linter.all false
set_option maxRecDepth 100000
set_option maxHeartbeats 4000000
namespace DL
open PySem PySem.Spec L2

/-! ### data in a heap -/
def keyD : Key → PyData
  | .inl i => .int i
  | .inr x => .str x
mutual
inductive Rp (K : PySem.W.Frag) (I : Hp) : V → PyData → Prop
  | non : Rp K I .non .none
  | bl (b : Bool) : Rp K I (.bl b) (.bool b)
  | int (i : Int) : Rp K I (.int i) (.int i)
  | str (x : Str) : Rp K I (.str x) (.str x)
  | lst {a : Addr} {xs : List V} {ds : List PyData} : SqL K I a xs → RpAll K I xs ds → Rp K I (.ref a) (.list ds)
  | tup {a : Addr} {xs : List V} {ds : List PyData} : SqT K I a xs → RpAll K I xs ds → Rp K I (.ref a) (.tuple ds)
  | dK {a : Addr} {us : List (Key × V)} {kvs : List (PyData × PyData)} : I a = some (.dK us) → RpK K I us kvs → Rp K I (.ref a) (.dict kvs)
  | dT {a : Addr} {us : List (List Key × V)} {kvs : List (PyData × PyData)} : I a = some (.dT us) → RpT K I us kvs → Rp K I (.ref a) (.dict kvs)
inductive RpAll (K : PySem.W.Frag) (I : Hp) : List V → List PyData → Prop
  | nil : RpAll K I [] []
  | cons {v : V} {vs : List V} {d : PyData} {ds : List PyData} : Rp K I v d → RpAll K I vs ds → RpAll K I (v :: vs) (d :: ds)
inductive RpK (K : PySem.W.Frag) (I : Hp) : List (Key × V) → List (PyData × PyData) → Prop
  | nil : RpK K I [] []
  | cons {k : Key} {v : V} {us : List (Key × V)} {d : PyData} {kvs : List (PyData × PyData)} : Rp K I v d → RpK K I us kvs → RpK K I ((k, v) :: us) ((keyD k, d) :: kvs)
inductive RpT (K : PySem.W.Frag) (I : Hp) : List (List Key × V) → List (PyData × PyData) → Prop
  | nil : RpT K I [] []
  | cons {k : List Key} {v : V} {us : List (List Key × V)} {d : PyData} {kvs : List (PyData × PyData)} : Rp K I v d → RpT K I us kvs → RpT K I ((k, v) :: us) ((.tuple (k.map keyD), d) :: kvs)
end
/-- not a code object's table -/
def Nt (o : HO) : Prop := ∀ ps, o ≠ .tbl ps
/-- all but the tables is kept -/
def Kx (I J : Hp) : Prop := ∀ b o, I b = some o → Nt o → J b = some o
theorem Kx.of {I J : Hp} (e : Same I J) : Kx I J := fun b o h _ => e b o h
theorem Kx.trans {I J L : Hp} (a : Kx I J) (b : Kx J L) : Kx I L := fun x o h n => b x o (a x o h n) n
theorem nt_lst {xs : List V} : Nt (.lst xs) := fun _ z => HO.noConfusion z
theorem nt_tup {xs : List V} : Nt (.tup xs) := fun _ z => HO.noConfusion z
theorem nt_dK {xs : List (Key × V)} : Nt (.dK xs) := fun _ z => HO.noConfusion z
theorem nt_dT {xs : List (List Key × V)} : Nt (.dT xs) := fun _ z => HO.noConfusion z
theorem nt_frz {o : Obj} {u : HO} : Nt (.frz o u) := fun _ z => HO.noConfusion z
theorem rd_mono {I J : Hp} {a : Addr} {u : HO} (e : Kx I J) (n : Nt u) (h : Rd I a u) : Rd J a u := by
  rcases h with h | ⟨o, h⟩
  · exact .inl (e _ _ h n)
  · exact .inr ⟨o, e _ _ h nt_frz⟩
theorem sqL_mono {K : PySem.W.Frag} {I J : Hp} {a : Addr} {xs : List V} (e : Kx I J) (h : SqL K I a xs) : SqL K J a xs := by
  rcases h with h | h
  · exact .inl (rd_mono e nt_lst h)
  · exact .inr h
theorem sqT_mono {K : PySem.W.Frag} {I J : Hp} {a : Addr} {xs : List V} (e : Kx I J) (h : SqT K I a xs) : SqT K J a xs := by
  rcases h with h | h
  · exact .inl (rd_mono e nt_tup h)
  · exact .inr h
section
variable {K : PySem.W.Frag} {I J : Hp}
theorem Rp.mono (e : Kx I J) {v : V} {d : PyData} (h : Rp K I v d) : Rp K J v d :=
  Rp.rec (K := K) (I := I) (motive_1 := fun v d _ => Rp K J v d) (motive_2 := fun vs ds _ => RpAll K J vs ds) (motive_3 := fun us ks _ => RpK K J us ks) (motive_4 := fun us ks _ => RpT K J us ks)
    .non .bl .int .str (fun s _ r => .lst (sqL_mono e s) r) (fun s _ r => .tup (sqT_mono e s) r) (fun s _ r => .dK (e _ _ s nt_dK) r) (fun s _ r => .dT (e _ _ s nt_dT) r)
    .nil (fun _ _ a b => .cons a b) .nil (fun _ _ a b => .cons a b) .nil (fun _ _ a b => .cons a b) h
theorem RpAll.mono (e : Kx I J) : ∀ {vs : List V} {ds : List PyData}, RpAll K I vs ds → RpAll K J vs ds
  | _, _, .nil => .nil
  | _, _, .cons a b => .cons (a.mono e) (RpAll.mono e b)
theorem RpK.mono (e : Kx I J) : ∀ {vs : List (Key × V)} {ds : List (PyData × PyData)}, RpK K I vs ds → RpK K J vs ds
  | _, _, .nil => .nil
  | _, _, .cons a b => .cons (a.mono e) (RpK.mono e b)
theorem RpT.mono (e : Kx I J) : ∀ {vs : List (List Key × V)} {ds : List (PyData × PyData)}, RpT K I vs ds → RpT K J vs ds
  | _, _, .nil => .nil
  | _, _, .cons a b => .cons (a.mono e) (RpT.mono e b)
theorem RpAll.length : ∀ {vs : List V} {ds : List PyData}, RpAll K I vs ds → vs.length = ds.length
  | _, _, .nil => rfl
  | _, _, .cons _ b => congrArg Nat.succ b.length
theorem RpAll.append : ∀ {vs us : List V} {ds es : List PyData}, RpAll K I vs ds → RpAll K I us es → RpAll K I (vs ++ us) (ds ++ es)
  | _, _, _, _, .nil, h => h
  | _, _, _, _, .cons a b, h => .cons a (b.append h)
theorem RpAll.take : ∀ {vs : List V} {ds : List PyData} (n : Nat), RpAll K I vs ds → RpAll K I (vs.take n) (ds.take n)
  | _, _, 0, _ => by simpa using RpAll.nil
  | _, _, _ + 1, .nil => .nil
  | _, _, n + 1, .cons a b => .cons a (b.take n)
theorem RpAll.drop : ∀ {vs : List V} {ds : List PyData} (n : Nat), RpAll K I vs ds → RpAll K I (vs.drop n) (ds.drop n)
  | _, _, 0, h => h
  | _, _, _ + 1, .nil => .nil
  | _, _, n + 1, .cons _ b => b.drop n
theorem RpAll.get : ∀ {vs : List V} {ds : List PyData} {i : Nat} {d : PyData}, RpAll K I vs ds → ds[i]? = some d → ∃ v, vs[i]? = some v ∧ Rp K I v d
  | _, _, _, _, .nil, e => by simp at e
  | _, _, 0, _, .cons a _, e => by
    simp at e
    subst e
    exact ⟨_, rfl, a⟩
  | _, _, i + 1, d, .cons _ b, e => by
    obtain ⟨v, h1, h2⟩ := b.get (i := i) (d := d) (by simpa using e)
    exact ⟨v, by simpa using h1, h2⟩
theorem RpAll.getV : ∀ {vs : List V} {ds : List PyData} {i : Nat} {v : V}, RpAll K I vs ds → vs[i]? = some v → ∃ d, ds[i]? = some d ∧ Rp K I v d
  | _, _, _, _, .nil, e => by simp at e
  | _, _, 0, _, .cons a _, e => by
    simp at e
    subst e
    exact ⟨_, rfl, a⟩
  | _, _, i + 1, d, .cons _ b, e => by
    obtain ⟨v, h1, h2⟩ := b.getV (i := i) (v := d) (by simpa using e)
    exact ⟨v, by simpa using h1, h2⟩
theorem RpAll.set : ∀ {vs : List V} {ds : List PyData} {v : V} {d : PyData} (i : Nat), RpAll K I vs ds → Rp K I v d → RpAll K I (vs.set i v) (ds.set i d)
  | _, _, _, _, _, .nil, _ => .nil
  | _, _, _, _, 0, .cons _ b, h => .cons h b
  | _, _, _, _, i + 1, .cons a b, h => .cons a (b.set i h)
theorem RpAll.map_int : ∀ (ns : List Int), RpAll K I (ns.map V.int) (ns.map PyData.int)
  | [] => .nil
  | n :: ns => .cons (.int n) (RpAll.map_int ns)
theorem RpAll.ints : ∀ {vs : List V} {ns : List Int}, RpAll K I vs (ns.map PyData.int) → vs = ns.map V.int
  | _, [], h => by cases h; rfl
  | _, n :: ns, h => by
    cases h with
    | cons a b =>
      cases a
      rw [RpAll.ints b]
      rfl
theorem RpAll.bools : ∀ {vs : List V} {ns : List Bool}, RpAll K I vs (ns.map PyData.bool) → vs = ns.map V.bl
  | _, [], h => by cases h; rfl
  | _, n :: ns, h => by
    cases h with
    | cons a b =>
      cases a
      rw [RpAll.bools b]
      rfl
mutual
theorem Rp.dp : ∀ (d : PyData) (v : V), d.canLay0 = true → Rp K I v d → Dp K I v d
  | .none, _, _, h => by cases h; exact .non
  | .bool _, _, _, h => by cases h; exact .bl _
  | .int _, _, _, h => by cases h; exact .int _
  | .str _, _, _, h => by cases h; exact .str _
  | .list ds, _, f, h => by
    cases h with
    | lst s r => exact .lst s (RpAll.dp ds _ (by simpa [PyData.canLay0] using f) r)
  | .tuple ds, _, f, h => by
    cases h with
    | tup s r => exact .tup s (RpAll.dp ds _ (by simpa [PyData.canLay0] using f) r)
  | .dict _, _, f, _ => by simp [PyData.canLay0] at f
theorem RpAll.dp : ∀ (ds : List PyData) (vs : List V), PyData.canLayAll0 ds = true → RpAll K I vs ds → DpAll K I vs ds
  | [], _, _, h => by cases h; exact .nil
  | d :: ds, _, f, h => by
    cases h with
    | cons a b =>
      have f' : d.canLay0 = true ∧ PyData.canLayAll0 ds = true := by simpa [PyData.canLayAll0] using f
      exact .cons (Rp.dp d _ f'.1 a) (RpAll.dp ds _ f'.2 b)
end
end
end DL
set_option Elab.async false
set_option linter.all false
set_option maxRecDepth 100000
set_option maxHeartbeats 4000000
namespace DL
open PySem PySem.Spec L2

/-! ### the heap without what is owned -/
def cut (H : Hp) (O : List Addr) : Hp := fun a => if a ∈ O then none else H a
theorem cut_in {H : Hp} {O : List Addr} {a : Addr} (h : a ∈ O) : cut H O a = none := by unfold cut; rw [if_pos h]
theorem cut_out {H : Hp} {O : List Addr} {a : Addr} (h : a ∉ O) : cut H O a = H a := by unfold cut; rw [if_neg h]
theorem cut_some {H : Hp} {O : List Addr} {a : Addr} {o : HO} (h : cut H O a = some o) : a ∉ O ∧ H a = some o := by
  by_cases m : a ∈ O
  · rw [cut_in m] at h; cases h
  · rw [cut_out m] at h; exact ⟨m, h⟩
theorem cut_leS {H : Hp} {O : List Addr} : Same (cut H O) H := fun _ _ h => (cut_some h).2
theorem cut_le {H : Hp} {O : List Addr} : Kx (cut H O) H := Kx.of cut_leS
/-- all but the tables is kept, tables may grow -/
structure Kq (H H' : Hp) : Prop where
  ex : Kx H H'
  tb : ∀ b ps, H b = some (.tbl ps) → ∃ qs, H' b = some (.tbl qs)
theorem Kq.of {H H' : Hp} (e : Same H H') : Kq H H' := ⟨Kx.of e, fun b ps h => ⟨ps, e b _ h⟩⟩
theorem Kq.refl (H : Hp) : Kq H H := Kq.of (Same.refl H)
theorem Kq.trans {H H1 H2 : Hp} (a : Kq H H1) (b : Kq H1 H2) : Kq H H2 := ⟨a.ex.trans b.ex, fun x ps h => let ⟨qs, h1⟩ := a.tb x ps h; b.tb x qs h1⟩
theorem tbl_or (o : HO) : Nt o ∨ ∃ ps, o = .tbl ps := by
  cases o with
  | tbl ps => exact .inr ⟨ps, rfl⟩
  | _ => exact .inl fun _ z => HO.noConfusion z
/-- all but what is owned is kept -/
structure Est (O : List Addr) (H H' : Hp) : Prop where
  ex : ∀ b o, b ∉ O → H b = some o → Nt o → H' b = some o
  tb : ∀ b ps, H b = some (.tbl ps) → ∃ qs, H' b = some (.tbl qs)
theorem Est.refl {O : List Addr} {H : Hp} : Est O H H := ⟨fun _ _ _ h _ => h, fun _ ps h => ⟨ps, h⟩⟩
theorem Est.trans {O : List Addr} {H H1 H2 : Hp} (a : Est O H H1) (b : Est O H1 H2) : Est O H H2 := ⟨fun x o m h n => b.ex x o m (a.ex x o m h n) n, fun x ps h => let ⟨qs, h1⟩ := a.tb x ps h; b.tb x qs h1⟩
theorem Est.ofQ {O : List Addr} {H H' : Hp} (e : Kq H H') : Est O H H' := ⟨fun b o _ h n => e.ex b o h n, e.tb⟩
theorem Est.of {O : List Addr} {H H' : Hp} (e : Same H H') : Est O H H' := Est.ofQ (Kq.of e)
theorem Est.cut {O : List Addr} {H H' : Hp} (e : Est O H H') : Kx (cut H O) (cut H' O) := fun b o h n => by
  obtain ⟨m, h⟩ := cut_some h
  rw [cut_out m]
  exact e.ex b o m h n
theorem cut_sub {O O' : List Addr} {H : Hp} (s : ∀ b ∈ O', b ∈ O) : Kx (cut H O) (cut H O') := fun b o h _ => by
  obtain ⟨m, h⟩ := cut_some h
  rw [cut_out (fun z => m (s b z))]
  exact h
theorem cut_new {O : List Addr} {H : Hp} {p : Addr} (hp : H p = none) : Same (cut H O) (cut H (p :: O)) := fun b o h => by
  obtain ⟨m, h⟩ := cut_some h
  rw [cut_out (fun z => ?_)]
  · exact h
  · rcases List.mem_cons.mp z with z | z
    · subst z; rw [hp] at h; cases h
    · exact m z
theorem same_new {H : Hp} {p : Addr} {o : HO} (hp : H p = none) : Same H (upd H p o) := fun b u h => by
  rw [upd_ne (ne_of_none h hp)]
  exact h
/-- lists, dicts -/
def Mu : HO → Prop
  | .lst _ => True
  | .dK _ => True
  | .dT _ => True
  | _ => False
theorem Mu.nt {o : HO} (h : Mu o) : Nt o := fun ps z => by
  subst z
  exact h
theorem est_upd {O : List Addr} {H : Hp} {p : Addr} {o u : HO} (hp : p ∈ O) (hu : H p = some u) (hm : Mu u) : Est O H (upd H p o) := ⟨fun b v m h _ => by
  rw [upd_ne (fun z => m (by rw [z]; exact hp))]
  exact h, fun b ps h => ⟨ps, by
    rw [upd_ne (fun z => by subst z; rw [hu] at h; cases h; exact hm)]
    exact h⟩⟩
/-- tables stand where lists and dicts change -/
theorem tabs_upd {T : List (Addr × Str)} {H : Hp} {p : Addr} {o u : HO} (hu : H p = some u) (hm : Mu u) (t : LamX.Tabs T H) : LamX.Tabs T (upd H p o) := fun q hq => by
  obtain ⟨ps, h1, h2, h3⟩ := t q hq
  refine ⟨ps, ?_, h2, fun pos cv hc => ?_⟩
  · rw [upd_ne (fun z => by rw [z, hu] at h1; cases h1; exact hm)]
    exact h1
  · obtain ⟨c, e1, e2⟩ := h3 pos cv hc
    refine ⟨c, e1, ?_⟩
    rw [upd_ne (fun z => by rw [z, hu] at e2; cases e2; exact hm)]
    exact e2

/-! ### slots, values -/
/-- a slot: unknown; data; a list or dict of one's own; the caller's list that may be changed; a value -/
inductive Sl where
  | un | d (y : PyData) | m (w : Bool) (y : PyData) | v (y : V)
abbrev Sl.o (y : PyData) : Sl := .m false y
abbrev Sl.b (y : PyData) : Sl := .m true y
/-- what an expression gives: data; what stands in slot i; a value -/
inductive Wk where
  | d (y : PyData) | n (i : Nat) | v (y : V) | l (ds : List PyData)
/-- a frame's place: the caller's list B, what the callers own, the heap at the entry -/
structure Cc where
  B : Option Addr
  O0 : List Addr
  H0 : Hp
  G : List (V × PyData) := []
  L : List (Addr × PyData) := []
  T : List (Addr × Str) := []
def Ow (K : PySem.W.Frag) (I H : Hp) (a : Addr) : PyData → Prop
  | .list ds => ∃ vs, H a = some (.lst vs) ∧ RpAll K I vs ds
  | .dict kvs => (∃ us, H a = some (.dK us) ∧ RpK K I us kvs) ∨ ∃ us, H a = some (.dT us) ∧ RpT K I us kvs
  | _ => False
theorem Ow.there {K : PySem.W.Frag} {I H : Hp} {a : Addr} {y : PyData} (h : Ow K I H a y) : ∃ o, H a = some o ∧ Mu o := by
  cases y with
  | list ds => obtain ⟨vs, e, _⟩ := h; exact ⟨_, e, trivial⟩
  | dict kvs =>
    rcases h with ⟨us, e, _⟩ | ⟨us, e, _⟩
    · exact ⟨_, e, trivial⟩
    · exact ⟨_, e, trivial⟩
  | none => exact h.elim
  | bool _ => exact h.elim
  | int _ => exact h.elim
  | str _ => exact h.elim
  | tuple _ => exact h.elim
theorem Ow.mono {K : PySem.W.Frag} {I J H H' : Hp} {a : Addr} {y : PyData} (e : Kx I J) (ha : ∀ o, H a = some o → Nt o → H' a = some o) (h : Ow K I H a y) : Ow K J H' a y := by
  cases y with
  | list ds => obtain ⟨vs, q, r⟩ := h; exact ⟨vs, ha _ q nt_lst, r.mono e⟩
  | dict kvs =>
    rcases h with ⟨us, q, r⟩ | ⟨us, q, r⟩
    · exact .inl ⟨us, ha _ q nt_dK, r.mono e⟩
    · exact .inr ⟨us, ha _ q nt_dT, r.mono e⟩
  | none => exact h.elim
  | bool _ => exact h.elim
  | int _ => exact h.elim
  | str _ => exact h.elim
  | tuple _ => exact h.elim
/-- an owned thing, no longer owned, is data -/
theorem Ow.rp {K : PySem.W.Frag} {I J H : Hp} {a : Addr} {y : PyData} (e : Kx I J) (ha : ∀ o, H a = some o → J a = some o) (h : Ow K I H a y) : Rp K J (.ref a) y := by
  cases y with
  | list ds => obtain ⟨vs, q, r⟩ := h; exact .lst (SqL.of (ha _ q)) (r.mono e)
  | dict kvs =>
    rcases h with ⟨us, q, r⟩ | ⟨us, q, r⟩
    · exact .dK (ha _ q) (r.mono e)
    · exact .dT (ha _ q) (r.mono e)
  | none => exact h.elim
  | bool _ => exact h.elim
  | int _ => exact h.elim
  | str _ => exact h.elim
  | tuple _ => exact h.elim
/-- borrowed, or of one's own -/
def Bw (c : Cc) : Bool → Addr → Prop
  | true, a => c.B = some a
  | false, a => c.H0 a = none
def SlOk (K : PySem.W.Frag) (c : Cc) (O : List Addr) (H : Hp) (x : Option V) : Sl → Prop
  | .un => True
  | .d y => ∃ v, x = some v ∧ Rp K (cut H O) v y
  | .m w y => ∃ a, x = some (.ref a) ∧ a ∈ O ∧ Bw c w a ∧ Ow K (cut H O) H a y
  | .v y => x = some y
/-- the frame's state -/
structure En (K : PySem.W.Frag) (c : Cc) (O : List Addr) (H : Hp) (σ : St) (ρ : List Sl) : Prop where
  fm : ∀ b o, c.B ≠ some b → c.H0 b = some o → Nt o → H b = some o
  tk : ∀ b ps, c.H0 b = some (.tbl ps) → ∃ qs, H b = some (.tbl qs)
  tb : LamX.Tabs c.T H
  hB : ∀ b, c.B = some b → b ∈ O ∧ c.H0 b ≠ none
  sub : ∀ b ∈ c.O0, b ∈ O ∧ c.H0 b ≠ none
  gh : ∀ q ∈ c.G, Rp K (cut H O) q.1 q.2
  fl : ∀ q ∈ c.L, q.1 ∈ O ∧ c.H0 q.1 = none ∧ Ow K (cut H O) H q.1 q.2 ∧ ∀ (j : Nat) (w : Bool) (z : PyData), ρ[j]? = some (.m w z) → σ[j]? ≠ some (some (.ref q.1))
  mu : ∀ b ∈ O, ∃ o, H b = some o ∧ Mu o
  len : σ.length = ρ.length
  sl : ∀ (i : Nat) (s : Sl), ρ[i]? = some s → ∃ x, σ[i]? = some x ∧ SlOk K c O H x s
  sep : ∀ (i j : Nat) (w z : Bool) (p q : PyData) (a : Addr), ρ[i]? = some (.m w p) → ρ[j]? = some (.m z q) → σ[i]? = some (some (.ref a)) → σ[j]? = some (some (.ref a)) → i = j
section
variable {K : PySem.W.Frag} {c : Cc} {O O' : List Addr} {H H' : Hp} {σ : St} {ρ ρ' : List Sl} {x : Option V} {s : Sl}
theorem SlOk.mono (e : Kx (cut H O) (cut H' O')) (ho : ∀ a ∈ O, (a ∈ O' ∧ ∀ o, H a = some o → Nt o → H' a = some o)) (h : SlOk K c O H x s) : SlOk K c O' H' x s := by
  cases s with
  | un => trivial
  | d y => obtain ⟨v, a, b⟩ := h; exact ⟨v, a, b.mono e⟩
  | m w y => obtain ⟨a, h1, h2, h3, h4⟩ := h; exact ⟨a, h1, (ho a h2).1, h3, h4.mono e (ho a h2).2⟩
  | v y => exact h
/-- a step that keeps all but tables -/
theorem En.stepQ (E : En K c O H σ ρ) (e : Kq H H') (t : LamX.Tabs c.T H') : En K c O H' σ ρ where
  fm := fun b o h1 h2 n => e.ex b o (E.fm b o h1 h2 n) n
  tk := fun b ps h => let ⟨qs, h1⟩ := E.tk b ps h; e.tb b qs h1
  tb := t
  hB := E.hB
  sub := E.sub
  gh := fun q h => (E.gh q h).mono (Est.ofQ e).cut
  fl := fun q h => let ⟨a, a2, b, d⟩ := E.fl q h; ⟨a, a2, b.mono (Est.ofQ e).cut fun o => e.ex _ o, d⟩
  mu := fun b hb => let ⟨o, h1, h2⟩ := E.mu b hb; ⟨o, e.ex b o h1 h2.nt, h2⟩
  len := E.len
  sl := fun i s h => let ⟨x, h1, h2⟩ := E.sl i s h; ⟨x, h1, h2.mono (Est.ofQ e).cut fun a ha => ⟨ha, fun o q => e.ex a o q⟩⟩
  sep := E.sep
theorem En.step (E : En K c O H σ ρ) (e : Same H H') : En K c O H' σ ρ := E.stepQ (Kq.of e) (E.tb.ext e)
theorem En.notO (E : En K c O H σ ρ) {p : Addr} (hp : H p = none) : p ∉ O := fun z => by
  obtain ⟨o, h, _⟩ := E.mu p z
  rw [hp] at h; cases h
theorem En.fr0 (E : En K c O H σ ρ) {p : Addr} (hp : H p = none) : c.H0 p = none := by
  cases q : c.H0 p with
  | none => rfl
  | some o =>
    rcases tbl_or o with n | ⟨ps, rfl⟩
    · by_cases b : c.B = some p
      · exact absurd (E.hB p b).1 (E.notO hp)
      · rw [E.fm p o b q n] at hp; cases hp
    · obtain ⟨qs, h⟩ := E.tk p ps q
      rw [hp] at h; cases h
/-- fresh at the end is fresh at the start -/
theorem En.back (E' : En K c O H' σ ρ') (e : Est O H H') {p : Addr} (hp : H' p = none) : H p = none := by
  cases q : H p with
  | none => rfl
  | some o =>
    rcases tbl_or o with n | ⟨ps, rfl⟩
    · by_cases m : p ∈ O
      · exact absurd m (E'.notO hp)
      · rw [e.ex p o m q n] at hp; cases hp
    · obtain ⟨qs, h⟩ := e.tb p ps q
      rw [hp] at h; cases h
theorem get_set {α : Type} {l : List α} {i j : Nat} {x y : α} (h : (l.set i x)[j]? = some y) : (i = j ∧ y = x ∧ i < l.length) ∨ (i ≠ j ∧ l[j]? = some y) := by
  by_cases e : i = j
  · subst e
    by_cases hl : i < l.length
    · rw [List.getElem?_set_self hl] at h
      exact .inl ⟨rfl, (Option.some.inj h).symm, hl⟩
    · rw [List.set_eq_of_length_le (by omega)] at h
      rw [List.getElem?_eq_none (by omega)] at h
      cases h
  · rw [List.getElem?_set_ne e] at h
    exact .inr ⟨e, h⟩
/-- slot i is set: a list or dict must stand in no other slot -/
theorem En.setS (E : En K c O H σ ρ) {i : Nat} {v : V} {s : Sl} (hs : SlOk K c O H (some v) s) (hL : ∀ (w : Bool) (y : PyData) (q : Addr × PyData), s = .m w y → q ∈ c.L → v ≠ .ref q.1) (hno : ∀ (w z : Bool) (y q : PyData) (j : Nat), s = .m w y → j ≠ i → ρ[j]? = some (.m z q) → σ[j]? ≠ some (some v)) : En K c O H (σ.set i (some v)) (ρ.set i s) where
  fm := E.fm
  tk := E.tk
  tb := E.tb
  hB := E.hB
  sub := E.sub
  gh := E.gh
  fl := fun q h => by
    obtain ⟨a, a2, b, d⟩ := E.fl q h
    refine ⟨a, a2, b, fun j w z h1 h2 => ?_⟩
    rcases get_set h1 with ⟨e1, f1, l1⟩ | ⟨n1, h1⟩
    · subst e1
      rw [List.getElem?_set_self (by rw [E.len]; exact l1)] at h2
      exact hL w z q f1.symm h (Option.some.inj (Option.some.inj h2))
    · rw [List.getElem?_set_ne n1] at h2
      exact d j w z h1 h2
  mu := E.mu
  len := by rw [List.length_set, List.length_set]; exact E.len
  sl := fun j s' h => by
    rcases get_set h with ⟨e, e2, hl⟩ | ⟨e, h⟩
    · subst e e2
      exact ⟨_, by rw [List.getElem?_set_self (by rw [E.len]; exact hl)], hs⟩
    · obtain ⟨x, h1, h2⟩ := E.sl j s' h
      exact ⟨x, by rw [List.getElem?_set_ne e]; exact h1, h2⟩
  sep := fun j k w z p q b h1 h2 h3 h4 => by
    rcases get_set h1 with ⟨e1, f1, l1⟩ | ⟨n1, h1⟩
    · subst e1
      rw [List.getElem?_set_self (by rw [E.len]; exact l1)] at h3
      cases h3
      rcases get_set h2 with ⟨e2, _, _⟩ | ⟨n2, h2⟩
      · exact e2
      · rw [List.getElem?_set_ne n2] at h4
        exact absurd h4 (hno w z p q k f1.symm (fun z => n2 z.symm) h2)
    · rw [List.getElem?_set_ne n1] at h3
      rcases get_set h2 with ⟨e2, f2, l2⟩ | ⟨n2, h2⟩
      · subst e2
        rw [List.getElem?_set_self (by rw [E.len]; exact l2)] at h4
        cases h4
        exact absurd h3 (hno z w q p j f2.symm (fun z => n1 z.symm) h1)
      · rw [List.getElem?_set_ne n2] at h4
        exact E.sep j k w z p q b h1 h2 h3 h4
theorem En.set1 (E : En K c O H σ ρ) {i : Nat} {v : V} {s : Sl} (hs : SlOk K c O H (some v) s) (hno : ∀ w y, s ≠ .m w y) : En K c O H (σ.set i (some v)) (ρ.set i s) :=
  E.setS hs (fun w y _ e _ => absurd e (hno w y)) fun w _ y _ _ e _ _ => absurd e (hno w y)
theorem lt_of_get {α : Type} {l : List α} {i : Nat} {x : α} (h : l[i]? = some x) : i < l.length := by
  rcases Nat.lt_or_ge i l.length with z | z
  · exact z
  · rw [List.getElem?_eq_none z] at h; cases h
/-- a slot is known less -/
theorem En.weak (E : En K c O H σ ρ) {ρ' : List Sl} (hl : ρ'.length = ρ.length) (h : ∀ (i : Nat) (s : Sl), ρ'[i]? = some s → ρ[i]? = some s ∨ s = .un) : En K c O H σ ρ' where
  fm := E.fm
  tk := E.tk
  tb := E.tb
  hB := E.hB
  sub := E.sub
  gh := E.gh
  fl := fun q hq => by
    obtain ⟨a, a2, b, d⟩ := E.fl q hq
    refine ⟨a, a2, b, fun j w z h1 h2 => ?_⟩
    rcases h j _ h1 with g | g
    · exact d j w z g h2
    · cases g
  mu := E.mu
  len := by rw [hl]; exact E.len
  sl := fun i s hs => by
    rcases h i s hs with q | q
    · exact E.sl i s q
    · subst q
      have : i < σ.length := by rw [E.len, ← hl]; exact lt_of_get hs
      exact ⟨σ[i], List.getElem?_eq_getElem this, trivial⟩
  sep := fun i j w z p q a h1 h2 h3 h4 => by
    rcases h i _ h1 with y | y
    · rcases h j _ h2 with y2 | y2
      · exact E.sep i j w z p q a y y2 h3 h4
      · cases y2
    · cases y
/-- what is owned is given up -/
theorem En.give (E : En K c O H σ ρ) {p : Addr} (h0 : p ∉ c.O0) (hb : c.B ≠ some p) (hpL : ∀ q ∈ c.L, q.1 ≠ p) (hno : ∀ (j : Nat) (w : Bool) (y : PyData), ρ[j]? = some (.m w y) → σ[j]? ≠ some (some (.ref p))) : En K c (O.filter (· ≠ p)) H σ ρ := by
  have sb : Kx (cut H O) (cut H (O.filter (· ≠ p))) := cut_sub fun b hb => (List.mem_filter.mp hb).1
  have inn : ∀ {b : Addr}, b ∈ O → b ≠ p → b ∈ O.filter (· ≠ p) := fun hb n => List.mem_filter.mpr ⟨hb, by simpa using n⟩
  refine ⟨E.fm, E.tk, E.tb, fun b h => ⟨inn (E.hB b h).1 (fun z => hb (z ▸ h)), (E.hB b h).2⟩, fun b h => ⟨inn (E.sub b h).1 (fun z => h0 (z ▸ h)), (E.sub b h).2⟩, fun q h => (E.gh q h).mono sb, fun q h => let ⟨a, a2, b, d⟩ := E.fl q h; ⟨inn a (hpL q h), a2, b.mono sb fun o q _ => q, d⟩, fun b h => E.mu b (List.mem_filter.mp h).1, E.len, fun i s h => ?_, E.sep⟩
  obtain ⟨x, h1, h2⟩ := E.sl i s h
  refine ⟨x, h1, ?_⟩
  cases s with
  | un => trivial
  | d y => obtain ⟨v, a, b⟩ := h2; exact ⟨v, a, b.mono sb⟩
  | m w y =>
    obtain ⟨a, q1, q2, q3, q4⟩ := h2
    exact ⟨a, q1, inn q2 (fun z => hno i w y h (by rw [h1, q1, z])), q3, q4.mono sb fun o q _ => q⟩
  | v y => exact h2
/-- a new object is owned -/
theorem En.own (E : En K c O H σ ρ) {p : Addr} {o : HO} (hp : H p = none) (hm : Mu o) : En K c (p :: O) (upd H p o) σ ρ := by
  have e : Same H (upd H p o) := same_new hp
  have E' := E.step e
  have sb : Kx (cut H O) (cut (upd H p o) (p :: O)) := fun b u h _ => by
    have h2 := cut_new (O := O) hp b u h
    obtain ⟨m, h3⟩ := cut_some h2
    rw [cut_out m]
    exact e b u h3
  refine ⟨E'.fm, E'.tk, E'.tb, fun b h => ⟨List.mem_cons_of_mem _ (E.hB b h).1, (E.hB b h).2⟩, fun b h => ⟨List.mem_cons_of_mem _ (E.sub b h).1, (E.sub b h).2⟩, fun q h => (E.gh q h).mono sb, fun q h => let ⟨a, a2, b, d⟩ := E.fl q h; ⟨List.mem_cons_of_mem _ a, a2, b.mono sb fun u q _ => e _ u q, d⟩, fun b h => ?_, E.len, fun i s h => ?_, E.sep⟩
  · rcases List.mem_cons.mp h with z | z
    · subst z; exact ⟨o, upd_same, hm⟩
    · exact E'.mu b z
  · obtain ⟨x, h1, h2⟩ := E.sl i s h
    exact ⟨x, h1, h2.mono sb fun a ha => ⟨List.mem_cons_of_mem _ ha, fun u q _ => e a u q⟩⟩
/-- a ghost: data that is kept -/
abbrev Cc.with (c : Cc) (v : V) (y : PyData) : Cc := { c with G := (v, y) :: c.G }
/-- the same tables, no ghost gone -/
structure Le (c c' : Cc) : Prop where
  B : c'.B = c.B
  O0 : c'.O0 = c.O0
  H0 : c'.H0 = c.H0
  T : c'.T = c.T
  G : ∀ q ∈ c.G, q ∈ c'.G
theorem Le.refl (c : Cc) : Le c c := ⟨rfl, rfl, rfl, rfl, fun _ h => h⟩
theorem Le.trans {c c1 c2 : Cc} (a : Le c c1) (b : Le c1 c2) : Le c c2 := ⟨b.B.trans a.B, b.O0.trans a.O0, b.H0.trans a.H0, b.T.trans a.T, fun q h => b.G q (a.G q h)⟩
theorem Le.wth (c : Cc) (v : V) (y : PyData) : Le c (c.with v y) := ⟨rfl, rfl, rfl, rfl, fun _ h => List.mem_cons_of_mem _ h⟩
theorem En.ghost (E : En K c O H σ ρ) {v : V} {y : PyData} (r : Rp K (cut H O) v y) : En K (c.with v y) O H σ ρ :=
  ⟨E.fm, E.tk, E.tb, E.hB, E.sub, fun q h => by
    rcases List.mem_cons.mp h with z | z
    · rw [z]; exact r
    · exact E.gh q z, E.fl, E.mu, E.len, fun i s h => let ⟨x, h1, h2⟩ := E.sl i s h; ⟨x, h1, by cases s <;> exact h2⟩, E.sep⟩
theorem En.unghost {v : V} {y : PyData} (E : En K (c.with v y) O H σ ρ) : En K c O H σ ρ ∧ Rp K (cut H O) v y :=
  ⟨⟨E.fm, E.tk, E.tb, E.hB, E.sub, fun q h => E.gh q (List.mem_cons_of_mem _ h), E.fl, E.mu, E.len, fun i s h => let ⟨x, h1, h2⟩ := E.sl i s h; ⟨x, h1, by cases s <;> exact h2⟩, E.sep⟩, E.gh _ (List.mem_cons_self ..)⟩
/-- a step behind which one more thing, new, is owned -/
theorem En.ownQ (E : En K c O H σ ρ) (e : Kq H H') (t : LamX.Tabs c.T H') {p : Addr} (hp : H p = none) (hm : ∃ o, H' p = some o ∧ Mu o) : En K c (p :: O) H' σ ρ := by
  have E' := E.stepQ e t
  have sb : Kx (cut H O) (cut H' (p :: O)) := fun b u h n => by
    obtain ⟨m, h3⟩ := cut_some (cut_new (O := O) hp b u h)
    rw [cut_out m]
    exact e.ex b u h3 n
  refine ⟨E'.fm, E'.tk, E'.tb, fun b h => ⟨List.mem_cons_of_mem _ (E.hB b h).1, (E.hB b h).2⟩, fun b h => ⟨List.mem_cons_of_mem _ (E.sub b h).1, (E.sub b h).2⟩, fun q h => (E.gh q h).mono sb, fun q h => let ⟨a, a2, b, d⟩ := E.fl q h; ⟨List.mem_cons_of_mem _ a, a2, b.mono sb fun u => e.ex _ u, d⟩, fun b h => ?_, E.len, fun i s h => ?_, E.sep⟩
  · rcases List.mem_cons.mp h with z | z
    · subst z; exact hm
    · exact E'.mu b z
  · obtain ⟨x, h1, h2⟩ := E.sl i s h
    exact ⟨x, h1, h2.mono sb fun a ha => ⟨List.mem_cons_of_mem _ ha, fun u => e.ex a u⟩⟩
/-- own things are new, borrowed ones old -/
theorem Bw.apart (E : En K c O H σ ρ) {w z : Bool} {a : Addr} (h1 : Bw c w a) (h2 : Bw c z a) : w = z := by
  cases w with
  | true =>
    cases z with
    | true => rfl
    | false => exact absurd h2 (E.hB a h1).2
  | false =>
    cases z with
    | true => exact absurd h1 (E.hB a h2).2
    | false => rfl
/-- slot i's own thing is given up: data from now on -/
theorem En.freeze (E : En K c O H σ ρ) {i : Nat} {y : PyData} (hi : ρ[i]? = some (.m false y)) : ∃ O', En K c O' H σ (ρ.set i (.d y)) := by
  obtain ⟨x, h1, a, h2, h3, h4, h5⟩ := E.sl i _ hi
  rw [h2] at h1
  have il := lt_of_get hi
  have E1 : En K c O H σ (ρ.set i .un) := E.weak (by rw [List.length_set]) fun j s hs => by
    rcases get_set hs with ⟨_, e, _⟩ | ⟨_, h⟩
    · exact .inr e
    · exact .inl h
  have n0 : a ∉ c.O0 := fun z => (E.sub a z).2 h4
  have nB : c.B ≠ some a := fun z => (E.hB a z).2 h4
  have E2 := E1.give (p := a) n0 nB (fun q hq e => (E.fl q hq).2.2.2 i _ _ hi (by rw [h1, e])) fun j w z hj hs => by
    rcases get_set hj with ⟨_, e, _⟩ | ⟨n, h⟩
    · cases e
    · exact n (E.sep i j _ _ _ _ a hi h h1 hs)
  refine ⟨O.filter (· ≠ a), ?_⟩
  have na : a ∉ O.filter (· ≠ a) := fun z => by
    have := (List.mem_filter.mp z).2
    simp at this
  have r : Rp K (cut H (O.filter (· ≠ a))) (.ref a) y := h5.rp (cut_sub fun b hb => (List.mem_filter.mp hb).1) fun o q => by rw [cut_out na]; exact q
  have E3 := E2.set1 (i := i) (v := .ref a) (s := .d y) ⟨_, rfl, r⟩ (fun _ _ e => Sl.noConfusion e)
  rw [List.set_set] at E3
  have e : σ.set i (some (.ref a)) = σ := by
    have il' : i < σ.length := by rw [E.len]; exact il
    have g : σ[i] = some (.ref a) := by
      rw [List.getElem?_eq_getElem il'] at h1
      exact Option.some.inj h1
    rw [← g]
    exact List.set_getElem_self il'
  rw [e] at E3
  exact E3
/-- slot i's list or dict is changed -/
theorem En.changeQ (E : En K c O H σ ρ) {i : Nat} {a : Addr} {y z : PyData} {w : Bool} (hi : ρ[i]? = some (.m w z)) (hx : σ[i]? = some (some (.ref a))) (hk : ∀ b o, b ≠ a → H b = some o → Nt o → H' b = some o) (ht : ∀ b ps, H b = some (.tbl ps) → ∃ qs, H' b = some (.tbl qs)) (tt : LamX.Tabs c.T H')
    (hn : Ow K (cut H' O) H' a y) : En K c O H' σ (ρ.set i (.m w y)) := by
  obtain ⟨x0, h1, h2⟩ := E.sl i _ hi
  rw [hx] at h1
  cases h1
  obtain ⟨a', q1, haO, hw, _⟩ := h2
  cases q1
  have e : Est O H H' := ⟨fun b u m h n => hk b u (fun z => m (by rw [z]; exact haO)) h n, ht⟩
  have hf : ∀ b, c.B ≠ some b → c.H0 b ≠ none → b ≠ a := fun b hb h0 z => by
    subst z
    cases w with
    | true => exact hb hw
    | false => exact h0 hw
  refine ⟨fun b u hb h0 n => hk b u (hf b hb (by rw [h0]; simp)) (E.fm b u hb h0 n) n, fun b ps h => let ⟨qs, h1⟩ := E.tk b ps h; ht b qs h1, tt, E.hB, E.sub, fun q h => (E.gh q h).mono e.cut, fun q h => ?_, fun b hb => ?_, by rw [List.length_set]; exact E.len, fun j s2 hj => ?_, fun j k w1 w2 p q b g1 g2 g3 g4 => ?_⟩
  · obtain ⟨g1, g2, g3, g4⟩ := E.fl q h
    have hqa : q.1 ≠ a := fun z => g4 i _ _ hi (by rw [hx, z])
    refine ⟨g1, g2, g3.mono e.cut fun u k n => hk _ u hqa k n, fun j w' z' h1 h2 => ?_⟩
    rcases get_set h1 with ⟨e1, _, _⟩ | ⟨_, h1⟩
    · subst e1; exact g4 _ _ _ hi h2
    · exact g4 j _ _ h1 h2
  · by_cases z : b = a
    · subst z; exact hn.there
    · obtain ⟨u, q1, q2⟩ := E.mu b hb
      exact ⟨u, hk b u z q1 q2.nt, q2⟩
  · rcases get_set hj with ⟨e1, e2, _⟩ | ⟨n1, hj⟩
    · subst e1 e2
      exact ⟨_, hx, a, rfl, haO, hw, hn⟩
    · obtain ⟨x, g1, g2⟩ := E.sl j s2 hj
      refine ⟨x, g1, ?_⟩
      cases s2 with
      | un => trivial
      | d y => obtain ⟨v, q1, q2⟩ := g2; exact ⟨v, q1, q2.mono e.cut⟩
      | v y => exact g2
      | m w2 y2 =>
        obtain ⟨b, q1, q2, q3, q4⟩ := g2
        have hba : b ≠ a := fun z => by
          subst z
          exact n1 (E.sep i j _ _ _ _ b hi hj hx (by rw [g1, q1]))
        exact ⟨b, q1, q2, q3, q4.mono e.cut fun u q n => hk b u hba q n⟩
  · have back : ∀ {l : Nat} {w3 : Bool} {p3 : PyData}, (ρ.set i (.m w y))[l]? = some (.m w3 p3) → ∃ w4 p4, ρ[l]? = some (.m w4 p4) := fun {l w3 p3} h => by
      rcases get_set h with ⟨e1, _, _⟩ | ⟨_, h⟩
      · subst e1; exact ⟨_, _, hi⟩
      · exact ⟨_, _, h⟩
    obtain ⟨_, _, r1⟩ := back g1
    obtain ⟨_, _, r2⟩ := back g2
    exact E.sep j k _ _ _ _ b r1 r2 g3 g4
theorem En.change (E : En K c O H σ ρ) {i : Nat} {a : Addr} {y z : PyData} {o : HO} {w : Bool} (hi : ρ[i]? = some (.m w z)) (hx : σ[i]? = some (some (.ref a))) (hn : Ow K (cut H O) (upd H a o) a y) : En K c O (upd H a o) σ (ρ.set i (.m w y)) := by
  obtain ⟨x0, h1, h2⟩ := E.sl i _ hi
  rw [hx] at h1
  cases h1
  obtain ⟨a', q1, haO, hw, ho⟩ := h2
  cases q1
  obtain ⟨u, hu, hm⟩ := ho.there
  have e : Est O H (upd H a o) := est_upd haO hu hm
  exact E.changeQ hi hx (fun b v z h _ => by rw [upd_ne z]; exact h) e.tb (tabs_upd hu hm E.tb) (hn.mono e.cut fun _ q _ => q)
/-- a list that is under way, in no slot -/
abbrev Cc.air (c : Cc) (p : Addr) (y : PyData) : Cc := { c with L := (p, y) :: c.L }
theorem Le.air (c : Cc) (p : Addr) (y : PyData) : Le c (c.air p y) := ⟨rfl, rfl, rfl, rfl, fun _ h => h⟩
theorem En.inAir (E : En K c O H σ ρ) {p : Addr} {y : PyData} (hp : p ∈ O) (h0 : c.H0 p = none) (ho : Ow K (cut H O) H p y) (hn : ∀ (j : Nat) (w : Bool) (z : PyData), ρ[j]? = some (.m w z) → σ[j]? ≠ some (some (.ref p))) : En K (c.air p y) O H σ ρ :=
  ⟨E.fm, E.tk, E.tb, E.hB, E.sub, E.gh, fun q h => by
    rcases List.mem_cons.mp h with z | z
    · rw [z]; exact ⟨hp, h0, ho, hn⟩
    · exact E.fl q z, E.mu, E.len, fun i s h => let ⟨x, h1, h2⟩ := E.sl i s h; ⟨x, h1, by cases s <;> exact h2⟩, E.sep⟩
theorem En.down {p : Addr} {y : PyData} (E : En K (c.air p y) O H σ ρ) : En K c O H σ ρ ∧ p ∈ O ∧ c.H0 p = none ∧ Ow K (cut H O) H p y ∧ ∀ (j : Nat) (w : Bool) (z : PyData), ρ[j]? = some (.m w z) → σ[j]? ≠ some (some (.ref p)) :=
  ⟨⟨E.fm, E.tk, E.tb, E.hB, E.sub, E.gh, fun q h => E.fl q (List.mem_cons_of_mem _ h), E.mu, E.len, fun i s h => let ⟨x, h1, h2⟩ := E.sl i s h; ⟨x, h1, by cases s <;> exact h2⟩, E.sep⟩, E.fl _ (List.mem_cons_self ..)⟩
/-- what is owned, borrowed by none and in no slot is changed (no other list is under way) -/
theorem En.write (E : En K c O H σ ρ) {p : Addr} {o : HO} (hp : p ∈ O) (h0 : c.H0 p = none) (hm : Mu o) (hL : ∀ q ∈ c.L, q.1 ≠ p) (hn : ∀ (j : Nat) (w : Bool) (z : PyData), ρ[j]? = some (.m w z) → σ[j]? ≠ some (some (.ref p))) : En K c O (upd H p o) σ ρ := by
  obtain ⟨u0, hu0, hm0⟩ := E.mu p hp
  have e : Est O H (upd H p o) := est_upd hp hu0 hm0
  refine ⟨fun b u hb h n => ?_, fun b ps h => let ⟨qs, h1⟩ := E.tk b ps h; e.tb b qs h1, tabs_upd hu0 hm0 E.tb, E.hB, E.sub, fun q h => (E.gh q h).mono e.cut, fun q h => ?_, fun b hb => ?_, E.len, fun i s h => ?_, E.sep⟩
  · rw [upd_ne (fun z => by rw [z, h0] at h; cases h)]
    exact E.fm b u hb h n
  · obtain ⟨g1, g2, g3, g4⟩ := E.fl q h
    exact ⟨g1, g2, g3.mono e.cut fun u k _ => by rw [upd_ne (hL q h)]; exact k, g4⟩
  · by_cases z : b = p
    · subst z; exact ⟨o, upd_same, hm⟩
    · obtain ⟨u, q1, q2⟩ := E.mu b hb
      exact ⟨u, by rw [upd_ne z]; exact q1, q2⟩
  · obtain ⟨x, g1, g2⟩ := E.sl i s h
    refine ⟨x, g1, ?_⟩
    cases s with
    | un => trivial
    | d y => obtain ⟨v, q1, q2⟩ := g2; exact ⟨v, q1, q2.mono e.cut⟩
    | v y => exact g2
    | m w y =>
      obtain ⟨b, q1, q2, q3, q4⟩ := g2
      have hbp : b ≠ p := fun z => hn i _ _ h (by rw [g1, q1, z])
      exact ⟨b, q1, q2, q3, q4.mono e.cut fun u k _ => by rw [upd_ne hbp]; exact k⟩
/-- the slots' values may change where nothing is known -/
theorem En.re (E : En K c O H σ ρ) {σ' : L2.St} (hl : σ'.length = σ.length) (h : ∀ (i : Nat) (s : Sl), ρ[i]? = some s → s = .un ∨ σ'[i]? = σ[i]?) : En K c O H σ' ρ := by
  have back : ∀ {j : Nat} {w : Bool} {z : PyData} {x : Option V}, ρ[j]? = some (.m w z) → σ'[j]? = some x → σ[j]? = some x := fun {j w z x} h1 h2 => by
    rcases h j _ h1 with e | e
    · cases e
    · rw [← e]; exact h2
  refine ⟨E.fm, E.tk, E.tb, E.hB, E.sub, E.gh, fun q hq => ?_, E.mu, by rw [hl]; exact E.len, fun i s hs => ?_, fun i j w z p q a h1 h2 h3 h4 => E.sep i j w z p q a h1 h2 (back h1 h3) (back h2 h4)⟩
  · obtain ⟨g1, g2, g3, g4⟩ := E.fl q hq
    exact ⟨g1, g2, g3, fun j w z h1 h2 => g4 j w z h1 (back h1 h2)⟩
  · rcases h i s hs with e | e
    · subst e
      have hi : i < σ'.length := by rw [hl, E.len]; exact lt_of_get hs
      exact ⟨σ'[i], List.getElem?_eq_getElem hi, trivial⟩
    · obtain ⟨x, g1, g2⟩ := E.sl i s hs
      exact ⟨x, by rw [e]; exact g1, g2⟩
end
end DL
set_option Elab.async false
set_option linter.all false
set_option maxRecDepth 100000
set_option maxHeartbeats 4000000
namespace DL
open PySem PySem.Spec L2

/-! ### what an expression gives, by data -/
def VOk (K : PySem.W.Frag) (O : List Addr) (σ : L2.St) (H : Hp) (v : V) : Wk → Prop
  | .d y => Rp K (cut H O) v y
  | .n i => σ[i]? = some (some v)
  | .v x => v = x
  | .l ds => ∃ a vs, v = .ref a ∧ a ∉ O ∧ H a = some (.lst vs) ∧ RpAll K (cut H O) vs ds
theorem VOk.est {K : PySem.W.Frag} {O : List Addr} {σ : L2.St} {H H' : Hp} {v : V} {W : Wk} (h : VOk K O σ H v W) (e : Est O H H') : VOk K O σ H' v W := by
  cases W with
  | d y => exact Rp.mono e.cut h
  | n i => exact h
  | v x => exact h
  | l ds =>
    obtain ⟨a, vs, h1, h2, h3, h4⟩ := h
    exact ⟨a, vs, h1, h2, e.ex a _ h2 h3 nt_lst, h4.mono e.cut⟩
abbrev VsOk (K : PySem.W.Frag) (O : List Addr) (σ : L2.St) (H : Hp) : List V → List Wk → Prop := Paired fun v W => VOk K O σ H v W
theorem VsOk.est {K : PySem.W.Frag} {O : List Addr} {σ : L2.St} {H H' : Hp} (e : Est O H H') : ∀ {vs : List V} {Ws : List Wk}, VsOk K O σ H vs Ws → VsOk K O σ H' vs Ws
  | _, _, .nil => .nil
  | _, _, .cons a b => .cons (a.est e) (VsOk.est e b)
theorem VsOk.all {K : PySem.W.Frag} {O : List Addr} {σ : L2.St} {H : Hp} : ∀ {vs : List V} {ds : List PyData}, VsOk K O σ H vs (ds.map Wk.d) → RpAll K (cut H O) vs ds
  | _, [], h => by cases h; exact .nil
  | _, d :: ds, h => by
    cases h with
    | cons a b => exact .cons a (VsOk.all b)
/-- the reading: from ρ the value is W's, behind it stands ρ' -/
def tW (K : PySem.W.Frag) (c : Cc) (ρ : List Sl) (W : Wk) (ρ' : List Sl) : TE := fun σ H Q => ∃ O, En K c O H σ ρ ∧ ∀ v H', Est O H H' → En K c O H' σ ρ' → VOk K O σ H' v W → Q v H'
/-- a new list or dict, owned -/
def tO (K : PySem.W.Frag) (c : Cc) (ρ : List Sl) (y : PyData) (ρ' : List Sl) : TE := fun σ H Q => ∃ O, En K c O H σ ρ ∧ ∀ p H', Est O H H' → H p = none → En K c (p :: O) H' σ ρ' → Ow K (cut H' (p :: O)) H' p y →
  (∀ (j : Nat) (w : Bool) (z : PyData), ρ'[j]? = some (.m w z) → σ[j]? ≠ some (some (.ref p))) → Q (.ref p) H'
def tT (K : PySem.W.Frag) (c : Cc) (ρ : List Sl) (b : Bool) (ρ' : List Sl) : TT := fun σ H Q => ∃ O, En K c O H σ ρ ∧ ∀ H', Est O H H' → En K c O H' σ ρ' → Q b H'
def tA (K : PySem.W.Frag) (c : Cc) (ρ : List Sl) (Ws : List Wk) (ρ' : List Sl) : TA := fun σ H Q => ∃ O, En K c O H σ ρ ∧ ∀ vs H', Est O H H' → En K c O H' σ ρ' → VsOk K O σ H' vs Ws → Q vs H'
def DE (X : Cx) (c : Cc) (ρ : List Sl) (e : Expr) (W : Wk) (ρ' : List Sl) : Prop := PE X e (tW X.K c ρ W ρ')
def DO (X : Cx) (c : Cc) (ρ : List Sl) (e : Expr) (y : PyData) (ρ' : List Sl) : Prop := PE X e (tO X.K c ρ y ρ')
def DT (X : Cx) (c : Cc) (ρ : List Sl) (e : Expr) (b : Bool) (ρ' : List Sl) : Prop := PT X e (tT X.K c ρ b ρ')
def DA (X : Cx) (c : Cc) (ρ : List Sl) (es : List Expr) (Ws : List Wk) (ρ' : List Sl) : Prop := PA X es (tA X.K c ρ Ws ρ')
/-- and, or: a chain's rest -/
def DC (X : Cx) (c : Cc) (ρ : List Sl) (e : Expr) (b : Bool) (ρ' : List Sl) : Prop := PW X e (tT X.K c ρ b ρ')
section
variable {X : Cx} {e : Expr} {t t' : TE} {u u' : TT}
theorem PE.imp (h : PE X e t) (i : ∀ σ H Q, t' σ H Q → t σ H Q) : PE X e t' := ⟨fun pins s σ H Q I q => h.run pins s σ H Q I (i σ H Q q)⟩
theorem PT.imp (h : PT X e u) (i : ∀ σ H Q, u' σ H Q → u σ H Q) : PT X e u' := ⟨fun pins s σ H Q I q => h.run pins s σ H Q I (i σ H Q q)⟩
theorem PW.imp (h : PW X e u) (i : ∀ σ H Q, u' σ H Q → u σ H Q) : PW X e u' := ⟨fun wh pins s σ H Q I q => h.run wh pins s σ H Q I (i σ H Q q)⟩
theorem PA.imp {es : List Expr} {t t' : TA} (h : PA X es t) (i : ∀ σ H Q, t' σ H Q → t σ H Q) : PA X es t' := ⟨fun pos pins s σ H Q I q => h.run pos pins s σ H Q I (i σ H Q q)⟩
theorem PS.imp {st : Stmt} {t t' : TS} (h : PS X st t) (i : ∀ D σ H, t' D σ H → t D σ H) : PS X st t' := ⟨fun pins s σ H D I q => h.run pins s σ H D I (i D σ H q)⟩
theorem PSs.imp {st : List Stmt} {t t' : TS} (h : PSs X st t) (i : ∀ D σ H, t' D σ H → t D σ H) : PSs X st t' := ⟨fun pins s σ H D I q => h.run pins s σ H D I (i D σ H q)⟩
theorem PG.imp {t t' : TG} (h : PG X e t) (i : ∀ v σ H Q, t' v σ H Q → t v σ H Q) : PG X e t' := ⟨fun pins s σ H v u Q I r q => h.run pins s σ H v u Q I r (i v σ H Q q)⟩
end
/-! ### the widest readings -/
def uE (X : Cx) (e : Expr) : TE := fun σ H Q => ∃ t, PE X e t ∧ t σ H Q
def uT (X : Cx) (e : Expr) : TT := fun σ H Q => ∃ t, PT X e t ∧ t σ H Q
def uW (X : Cx) (e : Expr) : TT := fun σ H Q => ∃ t, PW X e t ∧ t σ H Q
def uS (X : Cx) (st : Stmt) : TS := fun D σ H => ∃ t, PS X st t ∧ t D σ H
def uSs (X : Cx) (st : List Stmt) : TS := fun D σ H => ∃ t, PSs X st t ∧ t D σ H
def uG (X : Cx) (tg : Expr) : TG := fun v σ H Q => ∃ t, PG X tg t ∧ t v σ H Q
theorem uE.ok {X : Cx} {e : Expr} : PE X e (uE X e) := ⟨fun pins s σ H Q I ⟨_, h, q⟩ => h.run pins s σ H Q I q⟩
theorem uT.ok {X : Cx} {e : Expr} : PT X e (uT X e) := ⟨fun pins s σ H Q I ⟨_, h, q⟩ => h.run pins s σ H Q I q⟩
theorem uW.ok {X : Cx} {e : Expr} : PW X e (uW X e) := ⟨fun wh pins s σ H Q I ⟨_, h, q⟩ => h.run wh pins s σ H Q I q⟩
theorem uS.ok {X : Cx} {e : Stmt} : PS X e (uS X e) := ⟨fun pins s σ H Q I ⟨_, h, q⟩ => h.run pins s σ H Q I q⟩
theorem uSs.ok {X : Cx} {e : List Stmt} : PSs X e (uSs X e) := ⟨fun pins s σ H Q I ⟨_, h, q⟩ => h.run pins s σ H Q I q⟩
theorem uG.ok {X : Cx} {e : Expr} : PG X e (uG X e) := ⟨fun pins s σ H v u Q I r ⟨_, h, q⟩ => h.run pins s σ H v u Q I r q⟩

/-! ### what is read -/
inductive Vw (ρ : List Sl) : Wk → PyData → Prop
  | d {y : PyData} : Vw ρ (.d y) y
  | n {i : Nat} {w : Bool} {y : PyData} : ρ[i]? = some (.m w y) → Vw ρ (.n i) y
  | l {ds : List PyData} : Vw ρ (.l ds) (.list ds)
inductive Sq (ρ : List Sl) : Wk → List PyData → Prop
  | dl {ds : List PyData} : Sq ρ (.d (.list ds)) ds
  | dt {ds : List PyData} : Sq ρ (.d (.tuple ds)) ds
  | n {i : Nat} {w : Bool} {ds : List PyData} : ρ[i]? = some (.m w (.list ds)) → Sq ρ (.n i) ds
  | l {ds : List PyData} : Sq ρ (.l ds) ds
section
variable {K : PySem.W.Frag} {c : Cc} {O : List Addr} {H : Hp} {σ : L2.St} {ρ : List Sl} {v : V} {W : Wk}
theorem En.mine (E : En K c O H σ ρ) {i : Nat} {w : Bool} {y : PyData} (h : ρ[i]? = some (.m w y)) (hv : σ[i]? = some (some v)) : ∃ a, v = .ref a ∧ a ∈ O ∧ Bw c w a ∧ Ow K (cut H O) H a y := by
  obtain ⟨x, h1, a, h2, h3, h4, h5⟩ := E.sl i _ h
  rw [h1] at hv
  cases hv
  cases h2
  exact ⟨a, rfl, h3, h4, h5⟩
theorem Vw.read {y : PyData} (h : Vw ρ W y) (E : En K c O H σ ρ) (hv : VOk K O σ H v W) : Rp K H v y := by
  cases h with
  | d => exact Rp.mono cut_le hv
  | n hi =>
    obtain ⟨a, rfl, _, _, h4⟩ := E.mine hi hv
    exact h4.rp cut_le fun o q => q
  | l =>
    obtain ⟨a, vs, rfl, h2, h3, h4⟩ := hv
    exact .lst (SqL.of h3) (h4.mono cut_le)
theorem Sq.read {ds : List PyData} (h : Sq ρ W ds) (E : En K c O H σ ρ) (hv : VOk K O σ H v W) : ∃ a xs, v = .ref a ∧ (SqL K H a xs ∨ SqT K H a xs) ∧ RpAll K (cut H O) xs ds := by
  cases h with
  | dl =>
    cases hv with
    | lst s r => exact ⟨_, _, rfl, .inl (sqL_mono cut_le s), r⟩
  | dt =>
    cases hv with
    | tup s r => exact ⟨_, _, rfl, .inr (sqT_mono cut_le s), r⟩
  | n hi =>
    obtain ⟨a, rfl, _, _, h4⟩ := E.mine hi hv
    obtain ⟨vs, q, r⟩ := h4
    exact ⟨a, vs, rfl, .inl (SqL.of q), r⟩
  | l =>
    obtain ⟨a, vs, rfl, h2, h3, h4⟩ := hv
    exact ⟨a, vs, rfl, .inl (SqL.of h3), h4⟩
end

/-! ### lifts: an operation by values -/
/-- it makes nothing that is owned -/
def Do2 (X : Cx) (c : Cc) (ρ : List Sl) (r : R2) (W1 W2 W : Wk) : Prop := ∀ O σ H x y, En X.K c O H σ ρ → VOk X.K O σ H x W1 → VOk X.K O σ H y W2 → ∀ Q : VK, (∀ v H', Same H H' → VOk X.K O σ H' v W → Q v H') → r x y H Q
def DoC (X : Cx) (c : Cc) (ρ : List Sl) (r : List V → Hp → VK → Prop) (Ws : List Wk) (W : Wk) : Prop := ∀ O σ H vs, En X.K c O H σ ρ → VsOk X.K O σ H vs Ws → ∀ Q : VK, (∀ v H', Same H H' → VOk X.K O σ H' v W → Q v H') → r vs H Q
/-- it makes a new list or dict -/
def Dn2 (X : Cx) (c : Cc) (ρ : List Sl) (r : R2) (W1 W2 : Wk) (z : PyData) : Prop := ∀ O σ H x y, En X.K c O H σ ρ → VOk X.K O σ H x W1 → VOk X.K O σ H y W2 → ∀ Q : VK, (∀ p o, H p = none → Mu o → Ow X.K (cut H O) (upd H p o) p z → Q (.ref p) (upd H p o)) → r x y H Q
def DnC (X : Cx) (c : Cc) (ρ : List Sl) (r : List V → Hp → VK → Prop) (Ws : List Wk) (z : PyData) : Prop := ∀ O σ H vs, En X.K c O H σ ρ → VsOk X.K O σ H vs Ws → ∀ Q : VK, (∀ p o, H p = none → Mu o → Ow X.K (cut H O) (upd H p o) p z → Q (.ref p) (upd H p o)) → r vs H Q
section
variable {X : Cx} {c : Cc} {ρ ρ1 ρ2 ρ3 : List Sl} {W W1 W2 W3 : Wk} {Ws : List Wk} {r : R2} {a b e : Expr} {es : List Expr} {pos p : Pos} {z : PyData}
theorem En.made {K : PySem.W.Frag} {O : List Addr} {H : Hp} {σ : L2.St} (E : En K c O H σ ρ) {p : Addr} {o : HO} (hp : H p = none) (hm : Mu o) (ho : Ow K (cut H O) (upd H p o) p z) :
    En K c (p :: O) (upd H p o) σ ρ ∧ Ow K (cut (upd H p o) (p :: O)) (upd H p o) p z ∧ (∀ (j : Nat) (w : Bool) (z : PyData), ρ[j]? = some (.m w z) → σ[j]? ≠ some (some (.ref p))) := by
  refine ⟨E.own hp hm, ho.mono (fun b u h _ => ?_) (fun o q _ => q), fun j w z h q => ?_⟩
  · obtain ⟨m, h3⟩ := cut_some (cut_new (O := O) hp b u h)
    rw [cut_out m]
    exact same_new hp b u h3
  · obtain ⟨a, e1, h2, _⟩ := E.mine h q
    cases e1
    exact E.notO hp h2
theorem de_op {op : Operator} (ho : OpR X (binaryOp op) r) (ha : DE X c ρ a W1 ρ1) (hb : DE X c ρ1 b W2 ρ2) (h : Do2 X c ρ2 r W1 W2 W) : DE X c ρ (.BinOp a op b pos) W ρ2 :=
  PE.imp (pe_op ho ha hb) fun σ H Q ⟨O, E, k⟩ => ⟨O, E, fun x H1 e1 E1 v1 => ⟨O, E1, fun y H2 e2 E2 v2 => h O σ H2 x y E2 (v1.est e2) v2 Q fun v H3 s k3 => k v H3 (e1.trans (e2.trans (Est.of s))) (E2.step s) k3⟩⟩
theorem do_op {op : Operator} (ho : OpR X (binaryOp op) r) (ha : DE X c ρ a W1 ρ1) (hb : DE X c ρ1 b W2 ρ2) (h : Dn2 X c ρ2 r W1 W2 z) : DO X c ρ (.BinOp a op b pos) z ρ2 :=
  PE.imp (pe_op ho ha hb) fun σ H Q ⟨O, E, k⟩ => ⟨O, E, fun x H1 e1 E1 v1 => ⟨O, E1, fun y H2 e2 E2 v2 => h O σ H2 x y E2 (v1.est e2) v2 Q fun p o hp hm hw => by
    obtain ⟨q1, q2, q3⟩ := E2.made hp hm hw
    exact k p _ (e1.trans (e2.trans (Est.of (same_new hp)))) (E1.back e1 (E2.back e2 hp)) q1 q2 q3⟩⟩
theorem de_un {op : UnaryOp} {r : V → Hp → VK → Prop} (ho : UnR X (unaryOp op) r) (ha : DE X c ρ a W1 ρ1) (h : ∀ O σ H x, En X.K c O H σ ρ1 → VOk X.K O σ H x W1 → ∀ Q : VK, (∀ v H', Same H H' → VOk X.K O σ H' v W → Q v H') → r x H Q) : DE X c ρ (.UnaryOp op a pos) W ρ1 :=
  PE.imp (pe_un ho ha) fun σ H Q ⟨O, E, k⟩ => ⟨O, E, fun x H1 e1 E1 v1 => h O σ H1 x E1 v1 Q fun v H3 s k3 => k v H3 (e1.trans (Est.of s)) (E1.step s) k3⟩
theorem de_cmp {op : CmpOp} (ho : OpR X (compareOp op) r) (ha : DE X c ρ a W1 ρ1) (hb : DE X c ρ1 b W2 ρ2) (hm : behindInMarks op b = false) (h : Do2 X c ρ2 r W1 W2 W) : DE X c ρ (.Compare a [op] [b] pos) W ρ2 :=
  PE.imp (pe_cmpR ho ha hb hm) fun σ H Q ⟨O, E, k⟩ => ⟨O, E, fun x H1 e1 E1 v1 => ⟨O, E1, fun y H2 e2 E2 v2 => h O σ H2 x y E2 (v1.est e2) v2 Q fun v H3 s k3 => k v H3 (e1.trans (e2.trans (Est.of s))) (E2.step s) k3⟩⟩
theorem dt_cmp {op : CmpOp} {k : Bool} (ho : OpR X (compareOp op) r) (ha : DE X c ρ a W1 ρ1) (hb : DE X c ρ1 b W2 ρ2) (hm : behindInMarks op b = false) (h : Do2 X c ρ2 r W1 W2 (.d (.bool k))) : DT X c ρ (.Compare a [op] [b] pos) k ρ2 :=
  PT.imp (pt_cmpR ho ha hb hm) fun σ H Q ⟨O, E, kk⟩ => ⟨O, E, fun x H1 e1 E1 v1 => ⟨O, E1, fun y H2 e2 E2 v2 => h O σ H2 x y E2 (v1.est e2) v2 _ fun v H3 s k3 => by
    cases k3
    exact ⟨k, rfl, kk H3 (e1.trans (e2.trans (Est.of s))) (E2.step s)⟩⟩⟩
/-- an expression that is True or False, as a test -/
theorem dt_of {k : Bool} (h : DE X c ρ e (.d (.bool k)) ρ1) (he : ∀ whole, isTrue e X.env whole = (do let v ← whole; standAt e.pos; holding [v] (truthy v)) := by intro _; rfl) : DT X c ρ e k ρ1 :=
  PT.imp (pt_val h he) fun σ H Q ⟨O, E, kk⟩ => ⟨O, E, fun v H1 e1 E1 v1 => by
    cases v1
    exact ⟨k, rfl, kk H1 e1 E1⟩⟩
theorem dc_pt {k : Bool} (h : DC X c ρ e k ρ1) : DT X c ρ e k ρ1 := PW.pt h
theorem dc_and1 {k : Bool} (h : DT X c ρ a k ρ1) : DC X c ρ (.BoolOp .And [a] pos) k ρ1 := pw_and1 h
theorem dc_or1 {k : Bool} (h : DT X c ρ a k ρ1) : DC X c ρ (.BoolOp .Or [a] pos) k ρ1 := pw_or1 h
theorem dc_and {k l : Bool} {rest : List Expr} (ha : DT X c ρ a k ρ1) (hb : k = true → DC X c ρ1 (.BoolOp .And (b :: rest) pos) l ρ2) : DC X c ρ (.BoolOp .And (a :: b :: rest) pos) (k && l) (if k = true then ρ2 else ρ1) :=
  PW.imp (pw_and ha uW.ok) fun σ H Q ⟨O, E, kk⟩ => ⟨O, E, fun H1 e1 E1 => by
    cases k with
    | true =>
      rw [if_pos rfl]
      exact ⟨_, hb rfl, O, E1, fun H2 e2 E2 => kk H2 (e1.trans e2) (by rw [if_pos rfl]; exact E2)⟩
    | false =>
      rw [if_neg Bool.false_ne_true]
      exact kk H1 e1 (by rw [if_neg Bool.false_ne_true]; exact E1)⟩
theorem dc_or {k l : Bool} {rest : List Expr} (ha : DT X c ρ a k ρ1) (hb : k = false → DC X c ρ1 (.BoolOp .Or (b :: rest) pos) l ρ2) : DC X c ρ (.BoolOp .Or (a :: b :: rest) pos) (k || l) (if k = true then ρ1 else ρ2) :=
  PW.imp (pw_or ha uW.ok) fun σ H Q ⟨O, E, kk⟩ => ⟨O, E, fun H1 e1 E1 => by
    cases k with
    | true =>
      rw [if_pos rfl]
      exact kk H1 e1 (by rw [if_pos rfl]; exact E1)
    | false =>
      rw [if_neg Bool.false_ne_true]
      exact ⟨_, hb rfl, O, E1, fun H2 e2 E2 => kk H2 (e1.trans e2) (by rw [if_neg Bool.false_ne_true]; exact E2)⟩⟩
theorem dt_not {k : Bool} (h : DT X c ρ a k ρ1) : DT X c ρ (.UnaryOp .Not a pos) (!k) ρ1 := PT.imp (pt_not h) fun σ H Q ⟨O, E, kk⟩ => ⟨O, E, fun H1 e1 E1 => kk H1 e1 E1⟩
theorem DT.is {k l : Bool} (h : DT X c ρ e k ρ1) (q : k = l) : DT X c ρ e l ρ1 := q ▸ h
theorem DE.is (h : DE X c ρ e W ρ1) (q : W = W1) : DE X c ρ e W1 ρ1 := q ▸ h
theorem DO.is {y : PyData} (h : DO X c ρ e y ρ1) (q : y = z) : DO X c ρ e z ρ1 := q ▸ h
theorem DT.at {k : Bool} (h : DT X c ρ e k ρ1) (q : ρ1 = ρ2) : DT X c ρ e k ρ2 := q ▸ h
theorem DC.at {k : Bool} (h : DC X c ρ e k ρ1) (q : ρ1 = ρ2) : DC X c ρ e k ρ2 := q ▸ h
theorem DE.at (h : DE X c ρ e W ρ1) (q : ρ1 = ρ2) : DE X c ρ e W ρ2 := q ▸ h
/-- values: and, or, not, if -/
theorem de_one {op : BoolOp} (h : DE X c ρ a W ρ1) : DE X c ρ (.BoolOp op [a] pos) W ρ1 := pe_one h
theorem de_and {k l : Bool} {rest : List Expr} (ha : DE X c ρ a (.d (.bool k)) ρ1) (hb : k = true → DE X c ρ1 (.BoolOp .And (b :: rest) pos) (.d (.bool l)) ρ2) :
    DE X c ρ (.BoolOp .And (a :: b :: rest) pos) (.d (.bool (k && l))) (if k = true then ρ2 else ρ1) :=
  PE.imp (pe_and ha uE.ok) fun σ H Q ⟨O, E, kk⟩ => ⟨O, E, fun v H1 e1 E1 v1 => by
    cases v1
    refine ⟨k, rfl, ?_⟩
    cases k with
    | true =>
      rw [if_pos rfl]
      exact ⟨_, hb rfl, O, E1, fun v H2 e2 E2 v2 => kk v H2 (e1.trans e2) (by rw [if_pos rfl]; exact E2) v2⟩
    | false =>
      rw [if_neg Bool.false_ne_true]
      exact kk _ H1 e1 (by rw [if_neg Bool.false_ne_true]; exact E1) (.bl _)⟩
theorem de_or {k l : Bool} {rest : List Expr} (ha : DE X c ρ a (.d (.bool k)) ρ1) (hb : k = false → DE X c ρ1 (.BoolOp .Or (b :: rest) pos) (.d (.bool l)) ρ2) :
    DE X c ρ (.BoolOp .Or (a :: b :: rest) pos) (.d (.bool (k || l))) (if k = true then ρ1 else ρ2) :=
  PE.imp (pe_or ha uE.ok) fun σ H Q ⟨O, E, kk⟩ => ⟨O, E, fun v H1 e1 E1 v1 => by
    cases v1
    refine ⟨k, rfl, ?_⟩
    cases k with
    | true =>
      rw [if_pos rfl]
      exact kk _ H1 e1 (by rw [if_pos rfl]; exact E1) (.bl _)
    | false =>
      rw [if_neg Bool.false_ne_true]
      exact ⟨_, hb rfl, O, E1, fun v H2 e2 E2 v2 => kk v H2 (e1.trans e2) (by rw [if_neg Bool.false_ne_true]; exact E2) v2⟩⟩
theorem de_not {k : Bool} (h : DE X c ρ a (.d (.bool k)) ρ1) : DE X c ρ (.UnaryOp .Not a pos) (.d (.bool (!k))) ρ1 :=
  PE.imp (pe_not h) fun σ H Q ⟨O, E, kk⟩ => ⟨O, E, fun v H1 e1 E1 v1 => by
    cases v1
    exact ⟨k, rfl, kk _ H1 e1 E1 (.bl _)⟩⟩
theorem de_if {k : Bool} {t : Expr} (ht : DT X c ρ t k ρ1) (ha : k = true → DE X c ρ1 a W1 ρ2) (hb : k = false → DE X c ρ1 b W2 ρ3) : DE X c ρ (.IfExp t a b pos) (if k = true then W1 else W2) (if k = true then ρ2 else ρ3) :=
  PE.imp (pe_ifExp ht uE.ok uE.ok) fun σ H Q ⟨O, E, kk⟩ => ⟨O, E, fun H1 e1 E1 => by
    cases k with
    | true =>
      rw [if_pos rfl]
      exact ⟨_, ha rfl, O, E1, fun v H2 e2 E2 v2 => kk v H2 (e1.trans e2) (by rw [if_pos rfl]; exact E2) (by rw [if_pos rfl]; exact v2)⟩
    | false =>
      rw [if_neg Bool.false_ne_true]
      exact ⟨_, hb rfl, O, E1, fun v H2 e2 E2 v2 => kk v H2 (e1.trans e2) (by rw [if_neg Bool.false_ne_true]; exact E2) (by rw [if_neg Bool.false_ne_true]; exact v2)⟩⟩
theorem da_nil : DA X c ρ [] [] ρ := PA.imp pa_nil fun σ H Q ⟨O, E, k⟩ => k [] H Est.refl E .nil
theorem da_cons (ha : DE X c ρ e W ρ1) (hr : DA X c ρ1 es Ws ρ2) (hs : starEach (e :: es) X.env = (false, eval e X.env) :: starEach es X.env := by rfl) : DA X c ρ (e :: es) (W :: Ws) ρ2 :=
  PA.imp (pa_cons ha hr hs) fun σ H Q ⟨O, E, k⟩ => ⟨O, E, fun v H1 e1 E1 v1 => ⟨O, E1, fun vs H2 e2 E2 v2 => k (v :: vs) H2 (e1.trans e2) E2 (.cons (v1.est e2) v2)⟩⟩
/-- what is new and owned, given up: data -/
theorem DO.fz {y : PyData} (h : DO X c ρ e y ρ1) : DE X c ρ e (.d y) ρ1 :=
  PE.imp h fun σ H Q ⟨O, E, k⟩ => ⟨O, E, fun p H1 e1 hp E1 ho hno => by
    have hpO := E.notO hp
    have h0 : p ∉ c.O0 := fun z => hpO (E.sub p z).1
    have hb : c.B ≠ some p := fun z => hpO (E.hB p z).1
    have E2 := E1.give h0 hb (fun q hq z => hpO (by rw [← z]; exact (E.fl q hq).1)) hno
    have eO : (p :: O).filter (· ≠ p) = O := by
      rw [List.filter_cons]
      simp only [ne_eq, not_true_eq_false, decide_false, Bool.false_eq_true, if_false]
      exact List.filter_eq_self.mpr fun b hb => by
        have : b ≠ p := fun z => hpO (z ▸ hb)
        simpa using this
    rw [eO] at E2
    exact k (.ref p) H1 e1 E2 (ho.rp (cut_sub fun b hb => List.mem_cons_of_mem _ hb) fun o q => by rw [cut_out hpO]; exact q)⟩
theorem DO.fl {ds : List PyData} (h : DO X c ρ e (.list ds) ρ1) : DE X c ρ e (.l ds) ρ1 :=
  PE.imp h fun σ H Q ⟨O, E, k⟩ => ⟨O, E, fun p H1 e1 hp E1 ho hno => by
    have hpO := E.notO hp
    have h0 : p ∉ c.O0 := fun z => hpO (E.sub p z).1
    have hb : c.B ≠ some p := fun z => hpO (E.hB p z).1
    have E2 := E1.give h0 hb (fun q hq z => hpO (by rw [← z]; exact (E.fl q hq).1)) hno
    have eO : (p :: O).filter (· ≠ p) = O := by
      rw [List.filter_cons]
      simp only [ne_eq, not_true_eq_false, decide_false, Bool.false_eq_true, if_false]
      exact List.filter_eq_self.mpr fun b hb => by
        have : b ≠ p := fun z => hpO (z ▸ hb)
        simpa using this
    rw [eO] at E2
    obtain ⟨vs, h1, h2⟩ := ho
    exact k (.ref p) H1 e1 E2 ⟨p, vs, rfl, hpO, h1, h2.mono (cut_sub fun b hb => List.mem_cons_of_mem _ hb)⟩⟩
/-! calls of built-ins -/
theorem de_callB {x : Str} {id : String} {r : List V → Hp → VK → Prop} (hc : CallR X (.builtin id) r) (hg : Gl X x) (hm : X.mg x = none) (hv : bootBuiltins x = some (.builtin id)) (ha : DA X c ρ (e :: es) Ws ρ1) (h : DoC X c ρ1 r Ws W) (hn : x ≠ "__name__" := by decide) (hdb : (x == ("__debug__" : Str)) = false := by decide)
    (he : starEach (e :: es) X.env = (false, eval e X.env) :: starEach es X.env := by rfl) (hpl : (backTo pos (starEach es X.env)).any (·.1) = false := by rfl) : DE X c ρ (.Call (.Name x p) (e :: es) [] pos) W ρ1 :=
  PE.imp (pe_callB hc hg hm hv ha hn hdb he hpl) fun σ H Q ⟨O, E, k⟩ => ⟨O, E, fun vs H1 e1 E1 v1 => h O σ H1 vs E1 v1 Q fun v H2 s v2 => k v H2 (e1.trans (Est.of s)) (E1.step s) v2⟩
theorem de_callM {x : Str} {id : String} {r : List V → Hp → VK → Prop} (hc : CallR X (.builtin id) r) (hg : Gl X x) (hm : X.mg x = some (.builtin id)) (ha : DA X c ρ (e :: es) Ws ρ1) (h : DoC X c ρ1 r Ws W) (hdb : (x == ("__debug__" : Str)) = false := by decide)
    (he : starEach (e :: es) X.env = (false, eval e X.env) :: starEach es X.env := by rfl) (hpl : (backTo pos (starEach es X.env)).any (·.1) = false := by rfl) : DE X c ρ (.Call (.Name x p) (e :: es) [] pos) W ρ1 :=
  PE.imp (pe_callBfun hc hg hm ha hdb he hpl) fun σ H Q ⟨O, E, k⟩ => ⟨O, E, fun vs H1 e1 E1 v1 => h O σ H1 vs E1 v1 Q fun v H2 s v2 => k v H2 (e1.trans (Est.of s)) (E1.step s) v2⟩
theorem de_callTy {x : Str} {T : String} {r : List V → Hp → VK → Prop} (hc : CallR X (.type T) r) (hg : Gl X x) (hm : X.mg x = none) (hv : bootBuiltins x = some (.type T)) (ha : DA X c ρ (e :: es) Ws ρ1) (h : DoC X c ρ1 r Ws W) (hn : x ≠ "__name__" := by decide) (hdb : (x == ("__debug__" : Str)) = false := by decide)
    (he : starEach (e :: es) X.env = (false, eval e X.env) :: starEach es X.env := by rfl) (hpl : (backTo pos (starEach es X.env)).any (·.1) = false := by rfl) : DE X c ρ (.Call (.Name x p) (e :: es) [] pos) W ρ1 :=
  PE.imp (pe_callTy hc hg hm hv ha hn hdb he hpl) fun σ H Q ⟨O, E, k⟩ => ⟨O, E, fun vs H1 e1 E1 v1 => h O σ H1 vs E1 v1 Q fun v H2 s v2 => k v H2 (e1.trans (Est.of s)) (E1.step s) v2⟩
theorem do_callTy {x : Str} {T : String} {r : List V → Hp → VK → Prop} (hc : CallR X (.type T) r) (hg : Gl X x) (hm : X.mg x = none) (hv : bootBuiltins x = some (.type T)) (ha : DA X c ρ (e :: es) Ws ρ1) (h : DnC X c ρ1 r Ws z) (hn : x ≠ "__name__" := by decide) (hdb : (x == ("__debug__" : Str)) = false := by decide)
    (he : starEach (e :: es) X.env = (false, eval e X.env) :: starEach es X.env := by rfl) (hpl : (backTo pos (starEach es X.env)).any (·.1) = false := by rfl) : DO X c ρ (.Call (.Name x p) (e :: es) [] pos) z ρ1 :=
  PE.imp (pe_callTy hc hg hm hv ha hn hdb he hpl) fun σ H Q ⟨O, E, k⟩ => ⟨O, E, fun vs H1 e1 E1 v1 => h O σ H1 vs E1 v1 Q fun p o hp hm hw => by
    obtain ⟨q1, q2, q3⟩ := E1.made hp hm hw
    exact k p _ (e1.trans (Est.of (same_new hp))) (E1.back e1 hp) q1 q2 q3⟩
theorem do_callB {x : Str} {id : String} {r : List V → Hp → VK → Prop} (hc : CallR X (.builtin id) r) (hg : Gl X x) (hm : X.mg x = none) (hv : bootBuiltins x = some (.builtin id)) (ha : DA X c ρ (e :: es) Ws ρ1) (h : DnC X c ρ1 r Ws z) (hn : x ≠ "__name__" := by decide) (hdb : (x == ("__debug__" : Str)) = false := by decide)
    (he : starEach (e :: es) X.env = (false, eval e X.env) :: starEach es X.env := by rfl) (hpl : (backTo pos (starEach es X.env)).any (·.1) = false := by rfl) : DO X c ρ (.Call (.Name x p) (e :: es) [] pos) z ρ1 :=
  PE.imp (pe_callB hc hg hm hv ha hn hdb he hpl) fun σ H Q ⟨O, E, k⟩ => ⟨O, E, fun vs H1 e1 E1 v1 => h O σ H1 vs E1 v1 Q fun p o hp hm hw => by
    obtain ⟨q1, q2, q3⟩ := E1.made hp hm hw
    exact k p _ (e1.trans (Est.of (same_new hp))) (E1.back e1 hp) q1 q2 q3⟩
end
end DL
set_option Elab.async false
set_option linter.all false
set_option maxRecDepth 100000
set_option maxHeartbeats 4000000
namespace DL
open PySem PySem.Spec L2
/-! ### rules for expressions, by data -/
abbrev I' (n : Int) : PyData := .int n
section
variable {X : Cx} {c : Cc} {ρ ρ1 ρ2 ρ3 : List Sl} {W W1 W2 W3 : Wk} {Ws : List Wk} {a b e : Expr} {es : List Expr} {pos p p2 : Pos} {y z : PyData} {i j k : Int} {ds : List PyData}
theorem de_d (n : Nat) {x : Str} (h : ρ[n]? = some (.d y)) (hN : X.N[n]? = some x := by rfl) (hv : Vis X.env.scope x := by first | exact Or.inl rfl | exact Or.inr (Or.inl rfl) | exact Or.inr (Or.inr rfl)) (hd : (x == ("__debug__" : Str)) = false := by decide)
    (hcd : (x == ("__classdict__" : Str)) = false := by decide) : DE X c ρ (.Name x pos) (.d y) ρ :=
  PE.imp (pe_var hN hv hd hcd) fun σ H Q ⟨O, E, k⟩ => by
    obtain ⟨x, h1, v, h2, r⟩ := E.sl n _ h
    exact ⟨v, by rw [h1, h2], k v H Est.refl E r⟩
theorem de_n (n : Nat) {x : Str} {w : Bool} (h : ρ[n]? = some (.m w y)) (hN : X.N[n]? = some x := by rfl) (hv : Vis X.env.scope x := by first | exact Or.inl rfl | exact Or.inr (Or.inl rfl) | exact Or.inr (Or.inr rfl)) (hd : (x == ("__debug__" : Str)) = false := by decide)
    (hcd : (x == ("__classdict__" : Str)) = false := by decide) : DE X c ρ (.Name x pos) (.n n) ρ :=
  PE.imp (pe_var hN hv hd hcd) fun σ H Q ⟨O, E, k⟩ => by
    obtain ⟨x, h1, v, h2, r⟩ := E.sl n _ h
    exact ⟨.ref v, by rw [h1, h2], k (.ref v) H Est.refl E (show σ[n]? = some (some (.ref v)) by rw [h1, h2])⟩
theorem de_v (n : Nat) {x : Str} {u : V} (h : ρ[n]? = some (.v u)) (hN : X.N[n]? = some x := by rfl) (hv : Vis X.env.scope x := by first | exact Or.inl rfl | exact Or.inr (Or.inl rfl) | exact Or.inr (Or.inr rfl)) (hd : (x == ("__debug__" : Str)) = false := by decide)
    (hcd : (x == ("__classdict__" : Str)) = false := by decide) : DE X c ρ (.Name x pos) (.v u) ρ :=
  PE.imp (pe_var hN hv hd hcd) fun σ H Q ⟨O, E, k⟩ => by
    obtain ⟨x, h1, h2⟩ := E.sl n _ h
    have h2' : x = some u := h2
    exact ⟨u, by rw [h1, h2'], k u H Est.refl E rfl⟩
theorem de_c {v : V} (h : PE X e (tC v)) (r : ∀ I, Rp X.K I v y) : DE X c ρ e (.d y) ρ := PE.imp h fun σ H Q ⟨O, E, k⟩ => k v H Est.refl E (r _)
theorem de_cv {v : V} (h : PE X e (tC v)) : DE X c ρ e (.v v) ρ := PE.imp h fun σ H Q ⟨O, E, k⟩ => k v H Est.refl E rfl
theorem de_int {j pos} : DE X c ρ (.Constant (.int i) j pos) (.d (.int i)) ρ := de_c pe_int fun _ => .int _
theorem de_bl {q : Bool} {j pos} : DE X c ρ (.Constant (.bool q) j pos) (.d (.bool q)) ρ := de_c pe_bl fun _ => .bl _
theorem de_non {j pos} : DE X c ρ (.Constant .none j pos) (.d .none) ρ := de_c pe_non fun _ => .non
theorem de_str {x j pos} : DE X c ρ (.Constant (.str x) j pos) (.d (.str x)) ρ := de_c pe_str fun _ => .str _
/-- a module's constant: an int, a text -/
theorem de_gi {x : Str} {t : Tok} (hm : X.mg x = some (.int i t)) (hg : Gl X x := by rfl) (hd : (x == ("__debug__" : Str)) = false := by decide) : DE X c ρ (.Name x pos) (.d (.int i)) ρ := de_c (v := .int i) (pe_glob hg hm ⟨t, rfl⟩ hd) fun _ => .int _
theorem de_gs {x u : Str} {t : Tok} (hm : X.mg x = some (.str u t)) (hg : Gl X x := by rfl) (hd : (x == ("__debug__" : Str)) = false := by decide) : DE X c ρ (.Name x pos) (.d (.str u)) ρ := de_c (v := .str u) (pe_glob hg hm ⟨t, rfl⟩ hd) fun _ => .str _
/-- a module's constant: an object of the written part -/
theorem de_gr {x : Str} {f : Addr} (hm : X.mg x = some (.ref f)) (hr : ∀ I, Rp X.K I (.ref f) y) (hg : Gl X x := by rfl) (hd : (x == ("__debug__" : Str)) = false := by decide) : DE X c ρ (.Name x pos) (.d y) ρ := de_c (v := .ref f) (pe_glob hg hm (show RelV (.ref f) (.ref f) from rfl) hd) hr
theorem de_gv {x : Str} {f : Addr} (hm : X.mg x = some (.ref f)) (hg : Gl X x := by rfl) (hd : (x == ("__debug__" : Str)) = false := by decide) : DE X c ρ (.Name x pos) (.v (.ref f)) ρ := de_cv (pe_glob hg hm (show RelV (.ref f) (.ref f) from rfl) hd)
/-- a built-in class's name -/
theorem de_ty {x : Str} {T : String} (hm : X.mg x = none) (hv : bootBuiltins x = some (.type T)) (hg : Gl X x := by rfl) (hn : x ≠ "__name__" := by decide) (hd : (x == ("__debug__" : Str)) = false := by decide) : DE X c ρ (.Name x pos) (.v (.ty T)) ρ :=
  de_cv (pe_bltn hg hm hv (show RelV (.ty T) (.type T) from rfl) hn hd)

/-! ints -/
theorem do2_I0 {g : Int → Int → V} {f : Int → Int → PyData} (hf : ∀ i j I, Rp X.K I (g i j) (f i j)) : Do2 X c ρ (rI0 g) (.d (.int i)) (.d (.int j)) (.d (f i j)) := fun O σ H x y E v1 v2 Q k => by
  cases v1
  cases v2
  exact ⟨i, j, rfl, rfl, k _ H (Same.refl H) (hf i j _)⟩
theorem do2_I {C : Int → Int → Prop} {g : Int → Int → V} {f : Int → Int → PyData} (hf : ∀ i j I, Rp X.K I (g i j) (f i j)) (hc : C i j) : Do2 X c ρ (rI C g) (.d (.int i)) (.d (.int j)) (.d (f i j)) := fun O σ H x y E v1 v2 Q k => by
  cases v1
  cases v2
  exact ⟨i, j, rfl, rfl, hc, k _ H (Same.refl H) (hf i j _)⟩
theorem de_add (ha : DE X c ρ a (.d (.int i)) ρ1) (hb : DE X c ρ1 b (.d (.int j)) ρ2) : DE X c ρ (.BinOp a .Add b pos) (.d (.int (i + j))) ρ2 := de_op op_add ha hb (do2_I0 (f := fun i j => .int (i + j)) fun _ _ _ => .int _)
theorem de_sub (ha : DE X c ρ a (.d (.int i)) ρ1) (hb : DE X c ρ1 b (.d (.int j)) ρ2) : DE X c ρ (.BinOp a .Sub b pos) (.d (.int (i - j))) ρ2 := de_op op_sub ha hb (do2_I0 (f := fun i j => .int (i - j)) fun _ _ _ => .int _)
theorem de_mul (ha : DE X c ρ a (.d (.int i)) ρ1) (hb : DE X c ρ1 b (.d (.int j)) ρ2) (h : CMul i j) : DE X c ρ (.BinOp a .Mult b pos) (.d (.int (i * j))) ρ2 := de_op op_mul ha hb (do2_I (f := fun i j => .int (i * j)) (fun _ _ _ => .int _) h)
theorem de_mulW (ha : DE X c ρ a (.d (.int i)) ρ1) (hb : DE X c ρ1 b (.d (.int j)) ρ2) (h : CMulW i j) : DE X c ρ (.BinOp a .Mult b pos) (.d (.int (i * j))) ρ2 := de_op op_mulW ha hb (do2_I (f := fun i j => .int (i * j)) (fun _ _ _ => .int _) h)
theorem de_fdiv (ha : DE X c ρ a (.d (.int i)) ρ1) (hb : DE X c ρ1 b (.d (.int j)) ρ2) (h : 0 < j ∧ j < 2 ^ 64) : DE X c ρ (.BinOp a .FloorDiv b pos) (.d (.int (i / j))) ρ2 :=
  de_op op_fdivW ha hb (do2_I (f := fun i j => .int (i / j)) (fun _ _ _ => .int _) (wide_div (b := 64) h.1 (by omega) (by decide) (by decide)))
theorem de_mod (ha : DE X c ρ a (.d (.int i)) ρ1) (hb : DE X c ρ1 b (.d (.int j)) ρ2) (h : 0 < j) : DE X c ρ (.BinOp a .Mod b pos) (.d (.int (i % j))) ρ2 := de_op op_mod ha hb (do2_I (f := fun i j => .int (i % j)) (fun _ _ _ => .int _) h)
theorem de_pow (ha : DE X c ρ a (.d (.int i)) ρ1) (hb : DE X c ρ1 b (.d (.int j)) ρ2) (h : CPow i j) : DE X c ρ (.BinOp a .Pow b pos) (.d (.int (i ^ j.toNat))) ρ2 := de_op op_pow ha hb (do2_I (f := fun i j => .int (i ^ j.toNat)) (fun _ _ _ => .int _) h)
theorem de_neg (ha : DE X c ρ a (.d (.int i)) ρ1) : DE X c ρ (.UnaryOp .USub a pos) (.d (.int (-i))) ρ1 := de_un un_neg ha fun O σ H x E v Q k => by
  cases v
  exact ⟨i, rfl, k _ H (Same.refl H) (.int _)⟩
/-! comparisons of ints -/
theorem de_cI {op : CmpOp} {g : Int → Int → Bool} (ho : OpR X (compareOp op) (rI0 fun i j => .bl (g i j))) (ha : DE X c ρ a (.d (.int i)) ρ1) (hb : DE X c ρ1 b (.d (.int j)) ρ2) (hm : behindInMarks op b = false) : DE X c ρ (.Compare a [op] [b] pos) (.d (.bool (g i j))) ρ2 :=
  de_cmp ho ha hb hm (do2_I0 (f := fun i j => .bool (g i j)) fun _ _ _ => .bl _)
theorem dt_cI {op : CmpOp} {g : Int → Int → Bool} (ho : OpR X (compareOp op) (rI0 fun i j => .bl (g i j))) (ha : DE X c ρ a (.d (.int i)) ρ1) (hb : DE X c ρ1 b (.d (.int j)) ρ2) (hm : behindInMarks op b = false) : DT X c ρ (.Compare a [op] [b] pos) (g i j) ρ2 :=
  dt_cmp ho ha hb hm (do2_I0 (f := fun i j => .bool (g i j)) fun _ _ _ => .bl _)
theorem de_lt (ha : DE X c ρ a (.d (.int i)) ρ1) (hb : DE X c ρ1 b (.d (.int j)) ρ2) : DE X c ρ (.Compare a [.Lt] [b] pos) (.d (.bool (decide (i < j)))) ρ2 := de_cI op_lt ha hb (nomark _)
theorem de_le (ha : DE X c ρ a (.d (.int i)) ρ1) (hb : DE X c ρ1 b (.d (.int j)) ρ2) : DE X c ρ (.Compare a [.LtE] [b] pos) (.d (.bool (decide (i ≤ j)))) ρ2 := de_cI op_le ha hb (nomark _)
theorem de_gt (ha : DE X c ρ a (.d (.int i)) ρ1) (hb : DE X c ρ1 b (.d (.int j)) ρ2) : DE X c ρ (.Compare a [.Gt] [b] pos) (.d (.bool (decide (j < i)))) ρ2 := de_cI (g := fun i j => decide (j < i)) op_gt ha hb (nomark _)
theorem de_ge (ha : DE X c ρ a (.d (.int i)) ρ1) (hb : DE X c ρ1 b (.d (.int j)) ρ2) : DE X c ρ (.Compare a [.GtE] [b] pos) (.d (.bool (decide (j ≤ i)))) ρ2 := de_cI (g := fun i j => decide (j ≤ i)) op_ge ha hb (nomark _)
theorem dt_lt (ha : DE X c ρ a (.d (.int i)) ρ1) (hb : DE X c ρ1 b (.d (.int j)) ρ2) : DT X c ρ (.Compare a [.Lt] [b] pos) (decide (i < j)) ρ2 := dt_cI op_lt ha hb (nomark _)
theorem dt_le (ha : DE X c ρ a (.d (.int i)) ρ1) (hb : DE X c ρ1 b (.d (.int j)) ρ2) : DT X c ρ (.Compare a [.LtE] [b] pos) (decide (i ≤ j)) ρ2 := dt_cI op_le ha hb (nomark _)
theorem dt_gt (ha : DE X c ρ a (.d (.int i)) ρ1) (hb : DE X c ρ1 b (.d (.int j)) ρ2) : DT X c ρ (.Compare a [.Gt] [b] pos) (decide (j < i)) ρ2 := dt_cI (g := fun i j => decide (j < i)) op_gt ha hb (nomark _)
theorem dt_ge (ha : DE X c ρ a (.d (.int i)) ρ1) (hb : DE X c ρ1 b (.d (.int j)) ρ2) : DT X c ρ (.Compare a [.GtE] [b] pos) (decide (j ≤ i)) ρ2 := dt_cI (g := fun i j => decide (j ≤ i)) op_ge ha hb (nomark _)
/-! == of scalars, of data -/
theorem do2_eqI : Do2 X c ρ rEq (.d (.int i)) (.d (.int j)) (.d (.bool (decide (i = j)))) := fun O σ H x y E v1 v2 Q k => by
  cases v1
  cases v2
  refine ⟨rfl, k _ H (Same.refl H) ?_⟩
  rw [dec_int, Bool.beq_eq_decide_eq]
  exact .bl _
theorem do2_neI : Do2 X c ρ rNe (.d (.int i)) (.d (.int j)) (.d (.bool (!decide (i = j)))) := fun O σ H x y E v1 v2 Q k => by
  cases v1
  cases v2
  refine ⟨rfl, k _ H (Same.refl H) ?_⟩
  rw [dec_int, Bool.beq_eq_decide_eq]
  exact .bl _
theorem do2_eqS {s t : Str} : Do2 X c ρ rEq (.d (.str s)) (.d (.str t)) (.d (.bool (decide (s = t)))) := fun O σ H x y E v1 v2 Q k => by
  cases v1
  cases v2
  refine ⟨rfl, k _ H (Same.refl H) ?_⟩
  rw [dec_str, Bool.beq_eq_decide_eq]
  exact .bl _
theorem do2_neS {s t : Str} : Do2 X c ρ rNe (.d (.str s)) (.d (.str t)) (.d (.bool (!decide (s = t)))) := fun O σ H x y E v1 v2 Q k => by
  cases v1
  cases v2
  refine ⟨rfl, k _ H (Same.refl H) ?_⟩
  rw [dec_str, Bool.beq_eq_decide_eq]
  exact .bl _
theorem de_eqI (ha : DE X c ρ a (.d (.int i)) ρ1) (hb : DE X c ρ1 b (.d (.int j)) ρ2) : DE X c ρ (.Compare a [.Eq] [b] pos) (.d (.bool (decide (i = j)))) ρ2 := de_cmp op_eq ha hb (nomark _) do2_eqI
theorem dt_eqI (ha : DE X c ρ a (.d (.int i)) ρ1) (hb : DE X c ρ1 b (.d (.int j)) ρ2) : DT X c ρ (.Compare a [.Eq] [b] pos) (decide (i = j)) ρ2 := dt_cmp op_eq ha hb (nomark _) do2_eqI
theorem de_neI (ha : DE X c ρ a (.d (.int i)) ρ1) (hb : DE X c ρ1 b (.d (.int j)) ρ2) : DE X c ρ (.Compare a [.NotEq] [b] pos) (.d (.bool (!decide (i = j)))) ρ2 := de_cmp op_ne ha hb (nomark _) do2_neI
theorem dt_neI (ha : DE X c ρ a (.d (.int i)) ρ1) (hb : DE X c ρ1 b (.d (.int j)) ρ2) : DT X c ρ (.Compare a [.NotEq] [b] pos) (!decide (i = j)) ρ2 := dt_cmp op_ne ha hb (nomark _) do2_neI
theorem de_eqS {s t : Str} (ha : DE X c ρ a (.d (.str s)) ρ1) (hb : DE X c ρ1 b (.d (.str t)) ρ2) : DE X c ρ (.Compare a [.Eq] [b] pos) (.d (.bool (decide (s = t)))) ρ2 := de_cmp op_eq ha hb (nomark _) do2_eqS
theorem dt_eqS {s t : Str} (ha : DE X c ρ a (.d (.str s)) ρ1) (hb : DE X c ρ1 b (.d (.str t)) ρ2) : DT X c ρ (.Compare a [.Eq] [b] pos) (decide (s = t)) ρ2 := dt_cmp op_eq ha hb (nomark _) do2_eqS
theorem de_neS {s t : Str} (ha : DE X c ρ a (.d (.str s)) ρ1) (hb : DE X c ρ1 b (.d (.str t)) ρ2) : DE X c ρ (.Compare a [.NotEq] [b] pos) (.d (.bool (!decide (s = t)))) ρ2 := de_cmp op_ne ha hb (nomark _) do2_neS
theorem dt_neS {s t : Str} (ha : DE X c ρ a (.d (.str s)) ρ1) (hb : DE X c ρ1 b (.d (.str t)) ρ2) : DT X c ρ (.Compare a [.NotEq] [b] pos) (!decide (s = t)) ρ2 := dt_cmp op_ne ha hb (nomark _) do2_neS
theorem do2_eqD (h1 : Vw ρ W1 y) (h2 : Vw ρ W2 z) (s1 : SeqAt.shaped y = true) (s2 : SeqAt.shaped z = true) : Do2 X c ρ (rEqD X.K) W1 W2 (.d (.bool (PyData.eqv y z))) := fun O σ H x u E v1 v2 Q k =>
  ⟨y, z, Rp.dp y x (SeqAt.canLay_of_shaped s1) (h1.read E v1), Rp.dp z u (SeqAt.canLay_of_shaped s2) (h2.read E v2), s1, s2, k _ H (Same.refl H) (.bl _)⟩
theorem do2_neD (h1 : Vw ρ W1 y) (h2 : Vw ρ W2 z) (s1 : SeqAt.shaped y = true) (s2 : SeqAt.shaped z = true) : Do2 X c ρ (rNeD X.K) W1 W2 (.d (.bool (!PyData.eqv y z))) := fun O σ H x u E v1 v2 Q k =>
  ⟨y, z, Rp.dp y x (SeqAt.canLay_of_shaped s1) (h1.read E v1), Rp.dp z u (SeqAt.canLay_of_shaped s2) (h2.read E v2), s1, s2, k _ H (Same.refl H) (.bl _)⟩
theorem de_eqD (hu : X.A.units + 64 < cLine) (ha : DE X c ρ a W1 ρ1) (hb : DE X c ρ1 b W2 ρ2) (h1 : Vw ρ2 W1 y) (h2 : Vw ρ2 W2 z) (s1 : SeqAt.shaped y = true) (s2 : SeqAt.shaped z = true) : DE X c ρ (.Compare a [.Eq] [b] pos) (.d (.bool (PyData.eqv y z))) ρ2 := de_cmp (op_eqD hu) ha hb (nomark _) (do2_eqD h1 h2 s1 s2)
theorem dt_eqD (hu : X.A.units + 64 < cLine) (ha : DE X c ρ a W1 ρ1) (hb : DE X c ρ1 b W2 ρ2) (h1 : Vw ρ2 W1 y) (h2 : Vw ρ2 W2 z) (s1 : SeqAt.shaped y = true) (s2 : SeqAt.shaped z = true) : DT X c ρ (.Compare a [.Eq] [b] pos) (PyData.eqv y z) ρ2 := dt_cmp (op_eqD hu) ha hb (nomark _) (do2_eqD h1 h2 s1 s2)
theorem de_neD (hu : X.A.units + 64 < cLine) (ha : DE X c ρ a W1 ρ1) (hb : DE X c ρ1 b W2 ρ2) (h1 : Vw ρ2 W1 y) (h2 : Vw ρ2 W2 z) (s1 : SeqAt.shaped y = true) (s2 : SeqAt.shaped z = true) : DE X c ρ (.Compare a [.NotEq] [b] pos) (.d (.bool (!PyData.eqv y z))) ρ2 := de_cmp (op_neD hu) ha hb (nomark _) (do2_neD h1 h2 s1 s2)
theorem dt_neD (hu : X.A.units + 64 < cLine) (ha : DE X c ρ a W1 ρ1) (hb : DE X c ρ1 b W2 ρ2) (h1 : Vw ρ2 W1 y) (h2 : Vw ρ2 W2 z) (s1 : SeqAt.shaped y = true) (s2 : SeqAt.shaped z = true) : DT X c ρ (.Compare a [.NotEq] [b] pos) (!PyData.eqv y z) ρ2 := dt_cmp (op_neD hu) ha hb (nomark _) (do2_neD h1 h2 s1 s2)
/-! is None -/
def isNo : PyData → Bool
  | .none => true
  | _ => false
theorem Rp.isNo {K : PySem.W.Frag} {I : Hp} {v : V} {y : PyData} (h : Rp K I v y) : decide (v = V.non) = isNo y := by
  cases h <;> rfl
theorem do2_isN {r : R2} (hr : ∀ x y H Q, y = V.non → Q (.bl (decide (x = .non))) H → r x y H Q) : Do2 X c ρ r (.d y) (.d .none) (.d (.bool (isNo y))) := fun O σ H x u E v1 v2 Q k => by
  cases v2
  refine hr _ _ _ _ rfl (k _ H (Same.refl H) ?_)
  rw [Rp.isNo v1]
  exact .bl _
theorem do2_notN {r : R2} (hr : ∀ x y H Q, y = V.non → Q (.bl (!decide (x = .non))) H → r x y H Q) : Do2 X c ρ r (.d y) (.d .none) (.d (.bool (!isNo y))) := fun O σ H x u E v1 v2 Q k => by
  cases v2
  refine hr _ _ _ _ rfl (k _ H (Same.refl H) ?_)
  rw [Rp.isNo v1]
  exact .bl _
theorem de_isN {q : Nat} (ha : DE X c ρ a (.d y) ρ1) : DE X c ρ (.Compare a [.Is] [.Constant .none q p] pos) (.d (.bool (isNo y))) ρ1 := de_cmp op_isN ha de_non (nomark _) (do2_isN fun _ _ _ _ h q => ⟨h, q⟩)
theorem dt_isN {q : Nat} (ha : DE X c ρ a (.d y) ρ1) : DT X c ρ (.Compare a [.Is] [.Constant .none q p] pos) (isNo y) ρ1 := dt_cmp op_isN ha de_non (nomark _) (do2_isN fun _ _ _ _ h q => ⟨h, q⟩)
theorem de_notN {q : Nat} (ha : DE X c ρ a (.d y) ρ1) : DE X c ρ (.Compare a [.IsNot] [.Constant .none q p] pos) (.d (.bool (!isNo y))) ρ1 := de_cmp op_notN ha de_non (nomark _) (do2_notN fun _ _ _ _ h q => ⟨h, q⟩)
theorem dt_notN {q : Nat} (ha : DE X c ρ a (.d y) ρ1) : DT X c ρ (.Compare a [.IsNot] [.Constant .none q p] pos) (!isNo y) ρ1 := dt_cmp op_notN ha de_non (nomark _) (do2_notN fun _ _ _ _ h q => ⟨h, q⟩)
/-! chains a op b op' d of ints; d asked where the first holds, nothing changed by it -/
theorem de_chain {op op' : CmpOp} {f g : Int → Int → Bool} {d : Expr} (ho : OpR X (compareOp op) (rI0 fun i j => .bl (f i j))) (ho' : OpR X (compareOp op') (rI0 fun i j => .bl (g i j))) (ha : DE X c ρ a (.d (.int i)) ρ1) (hb : DE X c ρ1 b (.d (.int j)) ρ2) (hd : f i j = true → DE X c ρ2 d (.d (.int k)) ρ2)
    (hm : lastMarks [op, op'] [b, d] = false := by with_unfolding_all rfl) : DE X c ρ (.Compare a [op, op'] [b, d] pos) (.d (.bool (f i j && g j k))) ρ2 :=
  PE.imp (pe_chain ho ho' ha hb uE.ok hm) fun σ H Q ⟨O, E, kk⟩ => ⟨O, E, fun x H1 e1 E1 v1 => ⟨O, E1, fun u H2 e2 E2 v2 => by
    cases v1
    cases v2
    refine ⟨i, j, rfl, rfl, f i j, rfl, ?_⟩
    cases hf : f i j with
    | false =>
      rw [if_neg Bool.false_ne_true]
      exact kk _ H2 (e1.trans e2) E2 (by rw [hf]; exact .bl _)
    | true =>
      rw [if_pos rfl]
      refine ⟨_, hd hf, O, E2, fun w H3 e3 E3 v3 => ?_⟩
      cases v3
      exact ⟨j, k, rfl, rfl, kk _ H3 (e1.trans (e2.trans e3)) E3 (by rw [hf]; exact .bl _)⟩⟩⟩
theorem dt_chain {op op' : CmpOp} {f g : Int → Int → Bool} {d : Expr} (ho : OpR X (compareOp op) (rI0 fun i j => .bl (f i j))) (ho' : OpR X (compareOp op') (rI0 fun i j => .bl (g i j))) (ha : DE X c ρ a (.d (.int i)) ρ1) (hb : DE X c ρ1 b (.d (.int j)) ρ2) (hd : f i j = true → DE X c ρ2 d (.d (.int k)) ρ2)
    (hm : lastMarks [op, op'] [b, d] = false := by with_unfolding_all rfl) : DT X c ρ (.Compare a [op, op'] [b, d] pos) (f i j && g j k) ρ2 :=
  PT.imp (pt_chain ho ho' ha hb uE.ok hm) fun σ H Q ⟨O, E, kk⟩ => ⟨O, E, fun x H1 e1 E1 v1 => ⟨O, E1, fun u H2 e2 E2 v2 => by
    cases v1
    cases v2
    refine ⟨i, j, rfl, rfl, f i j, rfl, ?_⟩
    cases hf : f i j with
    | false =>
      rw [if_neg Bool.false_ne_true]
      exact ⟨_, rfl, by have q := kk H2 (e1.trans e2) E2; rw [hf] at q; exact q⟩
    | true =>
      rw [if_pos rfl]
      refine ⟨_, hd hf, O, E2, fun w H3 e3 E3 v3 => ?_⟩
      cases v3
      exact ⟨j, k, rfl, rfl, _, rfl, by have q := kk H3 (e1.trans (e2.trans e3)) E3; rw [hf] at q; exact q⟩⟩⟩
/-! and, or, if whose parts change nothing -/
theorem dc_andP {k l : Bool} {rest : List Expr} (ha : DT X c ρ a k ρ1) (hb : k = true → DC X c ρ1 (.BoolOp .And (b :: rest) pos) l ρ1) : DC X c ρ (.BoolOp .And (a :: b :: rest) pos) (k && l) ρ1 := (dc_and ha hb).at (ite_self _)
theorem dc_orP {k l : Bool} {rest : List Expr} (ha : DT X c ρ a k ρ1) (hb : k = false → DC X c ρ1 (.BoolOp .Or (b :: rest) pos) l ρ1) : DC X c ρ (.BoolOp .Or (a :: b :: rest) pos) (k || l) ρ1 := (dc_or ha hb).at (ite_self _)
theorem de_andP {k l : Bool} {rest : List Expr} (ha : DE X c ρ a (.d (.bool k)) ρ1) (hb : k = true → DE X c ρ1 (.BoolOp .And (b :: rest) pos) (.d (.bool l)) ρ1) : DE X c ρ (.BoolOp .And (a :: b :: rest) pos) (.d (.bool (k && l))) ρ1 := (de_and ha hb).at (ite_self _)
theorem de_orP {k l : Bool} {rest : List Expr} (ha : DE X c ρ a (.d (.bool k)) ρ1) (hb : k = false → DE X c ρ1 (.BoolOp .Or (b :: rest) pos) (.d (.bool l)) ρ1) : DE X c ρ (.BoolOp .Or (a :: b :: rest) pos) (.d (.bool (k || l))) ρ1 := (de_or ha hb).at (ite_self _)
theorem ite_d {k : Bool} : (if k = true then Wk.d y else Wk.d z) = Wk.d (if k = true then y else z) := by cases k <;> rfl
theorem de_ifP {k : Bool} {t : Expr} (ht : DT X c ρ t k ρ1) (ha : k = true → DE X c ρ1 a (.d y) ρ1) (hb : k = false → DE X c ρ1 b (.d z) ρ1) : DE X c ρ (.IfExp t a b pos) (.d (if k = true then y else z)) ρ1 := ((de_if ht ha hb).at (ite_self _)).is ite_d
/-! tuples, lists, subscripts, slices -/
def dat : List Wk → Option (List PyData)
  | [] => some []
  | .d y :: r => (dat r).map (y :: ·)
  | _ :: _ => none
theorem dat_ok {K : PySem.W.Frag} {O : List Addr} {σ : L2.St} {H : Hp} : ∀ {vs : List V} {Ws : List Wk} {ds : List PyData}, dat Ws = some ds → VsOk K O σ H vs Ws → RpAll K (cut H O) vs ds
  | _, [], _, e, h => by
    cases h
    cases e
    exact .nil
  | _, .d y :: r, ds, e, h => by
    cases h with
    | cons h1 h2 =>
      have e' : (dat r).map (y :: ·) = some ds := e
      cases q : dat r with
      | none => rw [q] at e'; cases e'
      | some l =>
        rw [q] at e'
        cases e'
        exact .cons h1 (dat_ok q h2)
  | _, .n _ :: _, _, e, _ => by cases e
  | _, .v _ :: _, _, e, _ => by cases e
  | _, .l _ :: _, _, e, _ => by cases e
theorem small_sz {n : Nat} (h : n ≤ 100000) : n ≤ sizeLine := Nat.le_trans h (by decide)
theorem de_tup {q : Nat} (h : DA X c ρ es Ws ρ1) (hd : dat Ws = some ds) (hl : ds.length ≤ 100000 := by decide) : DE X c ρ (.Tuple es q pos) (.d (.tuple ds)) ρ1 :=
  PE.imp (pe_tup h) fun σ H Q ⟨O, E, k⟩ => ⟨O, E, fun vs H1 e1 E1 v1 => by
    have r := dat_ok hd v1
    refine ⟨small_sz (by rw [r.length]; exact hl), fun p hp => ?_⟩
    have s := same_new (o := .tup vs) hp
    have hpO := E1.notO hp
    exact k _ _ (e1.trans (Est.of s)) (E1.step s) (.tup (SqT.of (by rw [cut_out hpO]; exact upd_same)) (r.mono (Est.of s).cut))⟩
theorem do_lst (h : DA X c ρ es Ws ρ1) (hd : dat Ws = some ds) (hl : ds.length ≤ 100000 := by decide) : DO X c ρ (.List es pos) (.list ds) ρ1 :=
  PE.imp (pe_lst h) fun σ H Q ⟨O, E, k⟩ => ⟨O, E, fun vs H1 e1 E1 v1 => by
    have r := dat_ok hd v1
    refine ⟨small_sz (by rw [r.length]; exact hl), fun p hp => ?_⟩
    obtain ⟨q1, q2, q3⟩ := E1.made (o := .lst vs) (z := .list ds) hp trivial ⟨vs, upd_same, r⟩
    exact k p _ (e1.trans (Est.of (same_new hp))) (E1.back e1 hp) q1 q2 q3⟩
theorem atI_all {K : PySem.W.Frag} {I : Hp} {xs : List V} {d : PyData} (r : RpAll K I xs ds) (h : atI ds k = some d) : ∃ v, atI xs k = some v ∧ Rp K I v d := by
  unfold atI at h ⊢
  rw [r.length]
  cases q : ixN ds.length k with
  | none => rw [q] at h; cases h
  | some n =>
    rw [q] at h
    exact r.get h
/-- xs[k] -/
theorem de_ix {d : PyData} (ha : DE X c ρ a W1 ρ1) (hb : DE X c ρ1 b (.d (.int k)) ρ2) (hq : Sq ρ2 W1 ds) (h : atI ds k = some d) (hs : PlainIx b := by exact fun _ _ => rfl) : DE X c ρ (.Subscript a b pos) (.d d) ρ2 :=
  PE.imp (pe_ix (ix_list.or ix_tup) ha hb hs) fun σ H Q ⟨O, E, kk⟩ => ⟨O, E, fun x H1 e1 E1 v1 => ⟨O, E1, fun u H2 e2 E2 v2 => by
    cases v2
    obtain ⟨l, xs, rfl, s, r⟩ := hq.read E2 (v1.est e2)
    obtain ⟨v, hv, rv⟩ := atI_all r h
    rcases s with s | s
    · exact .inl ⟨l, xs, k, v, rfl, rfl, s, hv, kk v H2 (e1.trans e2) E2 rv⟩
    · exact .inr ⟨l, xs, k, v, rfl, rfl, s, hv, kk v H2 (e1.trans e2) E2 rv⟩⟩⟩
theorem atN {α : Type} {xs : List α} {n : Nat} {d : α} (h : xs[n]? = some d) (e : k = (n : Int)) : atI xs k = some d := by rw [e]; exact atI_nat h
end
end DL
set_option Elab.async false
set_option linter.all false
set_option maxRecDepth 100000
set_option maxHeartbeats 4000000
namespace DL
open PySem PySem.Spec L2
/-! ### built-ins, by data -/
section
variable {X : Cx}
/-- sum of a tuple of ints -/
def rSumT (K : PySem.W.Frag) : List V → Hp → VK → Prop := fun vs H Q => ∃ (a : Addr) (ns : List Int), vs = [V.ref a] ∧ SqT K H a (ns.map V.int) ∧ Q (.int ns.sum) H
theorem cr_sumT (hc : X.calm = true) : CallR X (.builtin "sum") (rSumT X.K) := by
  intro pins s σ H vs us Q I r h
  obtain ⟨a, ns, rfl, hs, q⟩ := h
  obtain ⟨its, rv, hl, _⟩ := I.tuple hs
  rw [Vals.ref1 r]
  have hi := rv.ints
  obtain ⟨xs, e⟩ := hi.allInts.items
  have hn : numsOf (intItems xs).toList = ns := by rw [← e]; exact hi.numsOf
  rw [nums_intItems] at hn
  rw [e] at hl
  refine PySem.W.ktm_sumG (I.ok.hd hc) hl fun h' tk t' hk => ?_
  refine ⟨.int ns.sum, H, I.kept hk, ⟨t', ?_⟩, q⟩
  rw [preSum_eq, List.take_of_length_le (by simp), hn]
/-- repr of data, where no repr is under way -/
def rRepr (K : PySem.W.Frag) : List V → Hp → VK → Prop := fun vs H Q => ∃ (a : Addr) (d : PyData), vs = [V.ref a] ∧ Dp K H (.ref a) d ∧ d.canLay0 = true ∧ d.showable = true ∧ d.depth ≤ 60 ∧ d.shown.length ≤ sizeLine ∧ Q (.str d.shown) H
theorem cr_repr (hg : X.A.guards = some []) (hu : X.A.units + 64 < cLine) : CallR X (.builtin "repr") (rRepr X.K) := by
  intro pins s σ H vs us Q I r h
  obtain ⟨a, d, rfl, hd, hc, hs, hdep, hl, q⟩ := h
  rw [Vals.ref1 r]
  obtain ⟨as, rd⟩ := Dp.reads I d (.ref a) (.ref a) hd rfl
  exact repr_of_reads' rd hs (PyData.noDict_hsm (PyData.hasDict_of_canLay d hc)) hg (by omega) (fun b o e => e) (fun h' u tk hk => ⟨.str d.shown, H, I.kept hk, ⟨u, rfl⟩, q⟩) hl
end
/-! types -/
def tyN : PyData → String
  | .none => "NoneType"
  | .bool _ => "bool"
  | .int _ => "int"
  | .str _ => "str"
  | .list _ => "list"
  | .tuple _ => "tuple"
  | .dict _ => "dict"
theorem Rp.ty {K : PySem.W.Frag} {H : Hp} {v : V} {y : PyData} (h : Rp K H v y) : TyX K H v (.type (tyN y)) := by
  cases h with
  | non => exact .base .non
  | bl b => exact .base (.bl b)
  | int i => exact .base (.int i)
  | str x => exact .base (.str x)
  | lst s r =>
    rcases s with (s | ⟨o, s⟩) | ⟨o, its, n, e, c, _⟩
    · exact .base (.lst s)
    · exact .base (.frz s)
    · exact .kList e c
  | tup s r =>
    rcases s with (s | ⟨o, s⟩) | ⟨o, its, n, e, c, _⟩
    · exact .base (.tup s)
    · exact .fTuple s
    · exact .kTuple e c
  | dK s r => exact .base (.dK s)
  | dT s r => exact .base (.dT s)
def isIntD : PyData → Bool
  | .bool _ => true
  | .int _ => true
  | _ => false
def isBoolD : PyData → Bool
  | .bool _ => true
  | _ => false
def isTupD : PyData → Bool
  | .tuple _ => true
  | _ => false
def isStrD : PyData → Bool
  | .str _ => true
  | _ => false
def isTy (T : String) (y : PyData) : Option Bool := kitB (tyN y) T
theorem isTy_int : ∀ y : PyData, isTy "int" y = some (isIntD y)
  | .none => show kitB "NoneType" "int" = some false by decide +kernel
  | .bool _ => show kitB "bool" "int" = some true by decide +kernel
  | .int _ => show kitB "int" "int" = some true by decide +kernel
  | .str _ => show kitB "str" "int" = some false by decide +kernel
  | .list _ => show kitB "list" "int" = some false by decide +kernel
  | .tuple _ => show kitB "tuple" "int" = some false by decide +kernel
  | .dict _ => show kitB "dict" "int" = some false by decide +kernel
theorem isTy_bool : ∀ y : PyData, isTy "bool" y = some (isBoolD y)
  | .none => show kitB "NoneType" "bool" = some false by decide +kernel
  | .bool _ => show kitB "bool" "bool" = some true by decide +kernel
  | .int _ => show kitB "int" "bool" = some false by decide +kernel
  | .str _ => show kitB "str" "bool" = some false by decide +kernel
  | .list _ => show kitB "list" "bool" = some false by decide +kernel
  | .tuple _ => show kitB "tuple" "bool" = some false by decide +kernel
  | .dict _ => show kitB "dict" "bool" = some false by decide +kernel
theorem isTy_tup : ∀ y : PyData, isTy "tuple" y = some (isTupD y)
  | .none => show kitB "NoneType" "tuple" = some false by decide +kernel
  | .bool _ => show kitB "bool" "tuple" = some false by decide +kernel
  | .int _ => show kitB "int" "tuple" = some false by decide +kernel
  | .str _ => show kitB "str" "tuple" = some false by decide +kernel
  | .list _ => show kitB "list" "tuple" = some false by decide +kernel
  | .tuple _ => show kitB "tuple" "tuple" = some true by decide +kernel
  | .dict _ => show kitB "dict" "tuple" = some false by decide +kernel
theorem isTy_str : ∀ y : PyData, isTy "str" y = some (isStrD y)
  | .none => show kitB "NoneType" "str" = some false by decide +kernel
  | .bool _ => show kitB "bool" "str" = some false by decide +kernel
  | .int _ => show kitB "int" "str" = some false by decide +kernel
  | .str _ => show kitB "str" "str" = some true by decide +kernel
  | .list _ => show kitB "list" "str" = some false by decide +kernel
  | .tuple _ => show kitB "tuple" "str" = some false by decide +kernel
  | .dict _ => show kitB "dict" "str" = some false by decide +kernel
theorem boot_isinstance : bootBuiltins ("isinstance" : Str) = some (.builtin "isinstance") := by decide +kernel
theorem boot_tyInt : bootBuiltins ("int" : Str) = some (.type "int") := by decide +kernel
theorem boot_tyBool : bootBuiltins ("bool" : Str) = some (.type "bool") := by decide +kernel
theorem boot_tyTuple : bootBuiltins ("tuple" : Str) = some (.type "tuple") := by decide +kernel
theorem boot_tyStr : bootBuiltins ("str" : Str) = some (.type "str") := by decide +kernel
theorem boot_tyList : bootBuiltins ("list" : Str) = some (.type "list") := by decide +kernel
theorem boot_abs_ : bootBuiltins ("abs" : Str) = some (.builtin "abs") := by decide +kernel
theorem boot_divmod_ : bootBuiltins ("divmod" : Str) = some (.builtin "divmod") := by decide +kernel
theorem boot_sum_ : bootBuiltins ("sum" : Str) = some (.builtin "sum") := by decide +kernel
theorem boot_all_ : bootBuiltins ("all" : Str) = some (.builtin "all") := by decide +kernel
theorem boot_any_ : bootBuiltins ("any" : Str) = some (.builtin "any") := by decide +kernel
theorem boot_max_ : bootBuiltins ("max" : Str) = some (.builtin "max") := by decide +kernel
theorem boot_min_ : bootBuiltins ("min" : Str) = some (.builtin "min") := by decide +kernel
theorem boot_repr_ : bootBuiltins ("repr" : Str) = some (.builtin "repr") := by decide +kernel
theorem boot_len_ : bootBuiltins ("len" : Str) = some (.builtin "len") := by decide +kernel
section
variable {X : Cx} {c : Cc} {ρ ρ1 ρ2 ρ3 : List Sl} {W W1 W2 W3 : Wk} {Ws : List Wk} {a b e : Expr} {es : List Expr} {pos p p2 q : Pos} {y z : PyData} {i j k : Int} {ds ds1 ds2 : List PyData}
theorem doC_isi {T : String} {r : Bool} (hy : Vw ρ W y) (hT : isTy T y = some r) : DoC X c ρ (rIsi X.K) [W, .v (.ty T)] (.d (.bool r)) := fun O σ H vs E v Q k => by
  cases v with
  | cons v1 v =>
    cases v with
    | cons v2 v =>
      cases v
      cases v2
      exact ⟨_, _, _, _, r, rfl, .ty T, Rp.ty (hy.read E v1), kit_ty hT, k _ H (Same.refl H) (.bl _)⟩
/-- isinstance(a, T) -/
theorem de_isi {T : String} {r : Bool} (ha : DE X c ρ a W ρ1) (hb : DE X c ρ1 b (.v (.ty T)) ρ1) (hy : Vw ρ1 W y) (hT : isTy T y = some r) (hm : X.mg "isinstance" = none) (hg : Gl X "isinstance" := by rfl)
    (h1 : starEach [a, b] X.env = (false, eval a X.env) :: starEach [b] X.env := by rfl) (h2 : starEach [b] X.env = (false, eval b X.env) :: starEach [] X.env := by rfl) (h3 : (backTo pos (starEach [b] X.env)).any (·.1) = false := by rfl) :
    DE X c ρ (.Call (.Name "isinstance" p) [a, b] [] pos) (.d (.bool r)) ρ1 := de_callB call_isi hg hm boot_isinstance (da_cons ha (da_cons hb da_nil h2) h1) (doC_isi hy hT) (he := h1) (hpl := h3)
/-- a built-in of one argument -/
theorem de_b1 {x : Str} {id : String} {r : List V → Hp → VK → Prop} (hc : CallR X (.builtin id) r) (hm : X.mg x = none) (hv : bootBuiltins x = some (.builtin id)) (ha : DE X c ρ a W1 ρ1) (h : DoC X c ρ1 r [W1] W) (hg : Gl X x := by rfl) (hn : x ≠ "__name__" := by decide)
    (hdb : (x == ("__debug__" : Str)) = false := by decide) (h1 : starEach [a] X.env = (false, eval a X.env) :: starEach [] X.env := by rfl) (h3 : (backTo pos (starEach [] X.env)).any (·.1) = false := by rfl) : DE X c ρ (.Call (.Name x p) [a] [] pos) W ρ1 :=
  de_callB hc hg hm hv (da_cons ha da_nil h1) h hn hdb h1 h3
theorem de_b2 {x : Str} {id : String} {r : List V → Hp → VK → Prop} (hc : CallR X (.builtin id) r) (hm : X.mg x = none) (hv : bootBuiltins x = some (.builtin id)) (ha : DE X c ρ a W1 ρ1) (hb : DE X c ρ1 b W2 ρ2) (h : DoC X c ρ2 r [W1, W2] W) (hg : Gl X x := by rfl) (hn : x ≠ "__name__" := by decide)
    (hdb : (x == ("__debug__" : Str)) = false := by decide) (h1 : starEach [a, b] X.env = (false, eval a X.env) :: starEach [b] X.env := by rfl) (h2 : starEach [b] X.env = (false, eval b X.env) :: starEach [] X.env := by rfl) (h3 : (backTo pos (starEach [b] X.env)).any (·.1) = false := by rfl) : DE X c ρ (.Call (.Name x p) [a, b] [] pos) W ρ2 :=
  de_callB hc hg hm hv (da_cons ha (da_cons hb da_nil h2) h1) h hn hdb h1 h3
theorem de_m2 {x : Str} {id : String} {r : List V → Hp → VK → Prop} (hc : CallR X (.builtin id) r) (hm : X.mg x = some (.builtin id)) (ha : DE X c ρ a W1 ρ1) (hb : DE X c ρ1 b W2 ρ2) (h : DoC X c ρ2 r [W1, W2] W) (hg : Gl X x := by rfl)
    (hdb : (x == ("__debug__" : Str)) = false := by decide) (h1 : starEach [a, b] X.env = (false, eval a X.env) :: starEach [b] X.env := by rfl) (h2 : starEach [b] X.env = (false, eval b X.env) :: starEach [] X.env := by rfl) (h3 : (backTo pos (starEach [b] X.env)).any (·.1) = false := by rfl) : DE X c ρ (.Call (.Name x p) [a, b] [] pos) W ρ2 :=
  de_callM hc hg hm (da_cons ha (da_cons hb da_nil h2) h1) h hdb h1 h3
theorem de_t1 {x : Str} {T : String} {r : List V → Hp → VK → Prop} (hc : CallR X (.type T) r) (hm : X.mg x = none) (hv : bootBuiltins x = some (.type T)) (ha : DE X c ρ a W1 ρ1) (h : DoC X c ρ1 r [W1] W) (hg : Gl X x := by rfl) (hn : x ≠ "__name__" := by decide)
    (hdb : (x == ("__debug__" : Str)) = false := by decide) (h1 : starEach [a] X.env = (false, eval a X.env) :: starEach [] X.env := by rfl) (h3 : (backTo pos (starEach [] X.env)).any (·.1) = false := by rfl) : DE X c ρ (.Call (.Name x p) [a] [] pos) W ρ1 :=
  de_callTy hc hg hm hv (da_cons ha da_nil h1) h hn hdb h1 h3
theorem do_t1 {x : Str} {T : String} {r : List V → Hp → VK → Prop} (hc : CallR X (.type T) r) (hm : X.mg x = none) (hv : bootBuiltins x = some (.type T)) (ha : DE X c ρ a W1 ρ1) (h : DnC X c ρ1 r [W1] z) (hg : Gl X x := by rfl) (hn : x ≠ "__name__" := by decide)
    (hdb : (x == ("__debug__" : Str)) = false := by decide) (h1 : starEach [a] X.env = (false, eval a X.env) :: starEach [] X.env := by rfl) (h3 : (backTo pos (starEach [] X.env)).any (·.1) = false := by rfl) : DO X c ρ (.Call (.Name x p) [a] [] pos) z ρ1 :=
  do_callTy hc hg hm hv (da_cons ha da_nil h1) h hn hdb h1 h3
theorem do_b1 {x : Str} {id : String} {r : List V → Hp → VK → Prop} (hc : CallR X (.builtin id) r) (hm : X.mg x = none) (hv : bootBuiltins x = some (.builtin id)) (ha : DE X c ρ a W1 ρ1) (h : DnC X c ρ1 r [W1] z) (hg : Gl X x := by rfl) (hn : x ≠ "__name__" := by decide)
    (hdb : (x == ("__debug__" : Str)) = false := by decide) (h1 : starEach [a] X.env = (false, eval a X.env) :: starEach [] X.env := by rfl) (h3 : (backTo pos (starEach [] X.env)).any (·.1) = false := by rfl) : DO X c ρ (.Call (.Name x p) [a] [] pos) z ρ1 :=
  do_callB hc hg hm hv (da_cons ha da_nil h1) h hn hdb h1 h3
theorem DoC.one {r : List V → Hp → VK → Prop} (h : ∀ O σ H x, En X.K c O H σ ρ → VOk X.K O σ H x W1 → ∀ Q : VK, (∀ v H', Same H H' → VOk X.K O σ H' v W → Q v H') → r [x] H Q) : DoC X c ρ r [W1] W := fun O σ H vs E v Q k => by
  cases v with
  | cons v1 v =>
    cases v
    exact h O σ H _ E v1 Q k
theorem DoC.two {r : List V → Hp → VK → Prop} (h : ∀ O σ H x u, En X.K c O H σ ρ → VOk X.K O σ H x W1 → VOk X.K O σ H u W2 → ∀ Q : VK, (∀ v H', Same H H' → VOk X.K O σ H' v W → Q v H') → r [x, u] H Q) : DoC X c ρ r [W1, W2] W := fun O σ H vs E v Q k => by
  cases v with
  | cons v1 v =>
    cases v with
    | cons v2 v =>
      cases v
      exact h O σ H _ _ E v1 v2 Q k
theorem DnC.one {r : List V → Hp → VK → Prop} (h : ∀ O σ H x, En X.K c O H σ ρ → VOk X.K O σ H x W1 → ∀ Q : VK, (∀ p o, H p = none → Mu o → Ow X.K (cut H O) (upd H p o) p z → Q (.ref p) (upd H p o)) → r [x] H Q) : DnC X c ρ r [W1] z := fun O σ H vs E v Q k => by
  cases v with
  | cons v1 v =>
    cases v
    exact h O σ H _ E v1 Q k
theorem de_len (hm : X.mg "len" = none) (ha : DE X c ρ a W1 ρ1) (hq : Sq ρ1 W1 ds) (hg : Gl X "len" := by rfl) (h1 : starEach [a] X.env = (false, eval a X.env) :: starEach [] X.env := by rfl) (h3 : (backTo pos (starEach [] X.env)).any (·.1) = false := by rfl) :
    DE X c ρ (.Call (.Name "len" p) [a] [] pos) (.d (.int (ds.length : Int))) ρ1 :=
  de_b1 call_len_seq hm boot_len_ ha (.one fun O σ H x E v Q k => by
    obtain ⟨l, xs, rfl, s, r⟩ := hq.read E v
    exact ⟨l, xs, rfl, s, k _ H (Same.refl H) (by rw [r.length]; exact .int _)⟩) hg (by decide) (by decide) h1 h3
theorem de_intC (hm : X.mg "int" = none) (ha : DE X c ρ a (.d (.int i)) ρ1) (hg : Gl X "int" := by rfl) (h1 : starEach [a] X.env = (false, eval a X.env) :: starEach [] X.env := by rfl) (h3 : (backTo pos (starEach [] X.env)).any (·.1) = false := by rfl) :
    DE X c ρ (.Call (.Name "int" p) [a] [] pos) (.d (.int i)) ρ1 :=
  de_t1 call_int1 hm boot_tyInt ha (.one fun O σ H x E v Q k => by
    cases v
    exact .inl ⟨i, rfl, k _ H (Same.refl H) (.int _)⟩) hg (by decide) (by decide) h1 h3
theorem de_abs (hm : X.mg "abs" = none) (ha : DE X c ρ a (.d (.int i)) ρ1) (hg : Gl X "abs" := by rfl) (h1 : starEach [a] X.env = (false, eval a X.env) :: starEach [] X.env := by rfl) (h3 : (backTo pos (starEach [] X.env)).any (·.1) = false := by rfl) :
    DE X c ρ (.Call (.Name "abs" p) [a] [] pos) (.d (.int (if i < 0 then -i else i))) ρ1 :=
  de_b1 call_abs hm boot_abs_ ha (.one fun O σ H x E v Q k => by
    cases v
    exact ⟨i, rfl, k _ H (Same.refl H) (.int _)⟩) hg (by decide) (by decide) h1 h3
theorem de_max2 (hcl : X.calm = true) (hm : X.mg "max" = none) (ha : DE X c ρ a (.d (.int i)) ρ1) (hb : DE X c ρ1 b (.d (.int j)) ρ2) (hg : Gl X "max" := by rfl) (h1 : starEach [a, b] X.env = (false, eval a X.env) :: starEach [b] X.env := by rfl)
    (h2 : starEach [b] X.env = (false, eval b X.env) :: starEach [] X.env := by rfl) (h3 : (backTo pos (starEach [b] X.env)).any (·.1) = false := by rfl) : DE X c ρ (.Call (.Name "max" p) [a, b] [] pos) (.d (.int (if j > i then j else i))) ρ2 :=
  de_b2 (call_max2 hcl) hm boot_max_ ha hb (.two fun O σ H x u E v1 v2 Q k => by
    cases v1
    cases v2
    exact ⟨i, j, rfl, k _ H (Same.refl H) (.int _)⟩) hg (by decide) (by decide) h1 h2 h3
theorem de_min2 (hcl : X.calm = true) (hm : X.mg "min" = none) (ha : DE X c ρ a (.d (.int i)) ρ1) (hb : DE X c ρ1 b (.d (.int j)) ρ2) (hg : Gl X "min" := by rfl) (h1 : starEach [a, b] X.env = (false, eval a X.env) :: starEach [b] X.env := by rfl)
    (h2 : starEach [b] X.env = (false, eval b X.env) :: starEach [] X.env := by rfl) (h3 : (backTo pos (starEach [b] X.env)).any (·.1) = false := by rfl) : DE X c ρ (.Call (.Name "min" p) [a, b] [] pos) (.d (.int (if j < i then j else i))) ρ2 :=
  de_b2 (call_min2 hcl) hm boot_min_ ha hb (.two fun O σ H x u E v1 v2 Q k => by
    cases v1
    cases v2
    exact ⟨i, j, rfl, k _ H (Same.refl H) (.int _)⟩) hg (by decide) (by decide) h1 h2 h3
theorem de_gcd (hm : X.mg "gcd" = some (.builtin "math.gcd")) (ha : DE X c ρ a (.d (.int i)) ρ1) (hb : DE X c ρ1 b (.d (.int j)) ρ2) (hg : Gl X "gcd" := by rfl) (h1 : starEach [a, b] X.env = (false, eval a X.env) :: starEach [b] X.env := by rfl)
    (h2 : starEach [b] X.env = (false, eval b X.env) :: starEach [] X.env := by rfl) (h3 : (backTo pos (starEach [b] X.env)).any (·.1) = false := by rfl) : DE X c ρ (.Call (.Name "gcd" p) [a, b] [] pos) (.d (.int ((Nat.gcd i.natAbs j.natAbs : Nat) : Int))) ρ2 :=
  de_m2 cr_gcd hm ha hb (.two fun O σ H x u E v1 v2 Q k => by
    cases v1
    cases v2
    exact ⟨i, j, rfl, k _ H (Same.refl H) (.int _)⟩) hg (by decide) h1 h2 h3
/-- divmod: a new pair -/
theorem de_divmod (hm : X.mg "divmod" = none) (ha : DE X c ρ a (.d (.int i)) ρ1) (hb : DE X c ρ1 b (.d (.int j)) ρ2) (hj : 0 < j ∧ j < 1073741824) (hg : Gl X "divmod" := by rfl) (h1 : starEach [a, b] X.env = (false, eval a X.env) :: starEach [b] X.env := by rfl)
    (h2 : starEach [b] X.env = (false, eval b X.env) :: starEach [] X.env := by rfl) (h3 : (backTo pos (starEach [b] X.env)).any (·.1) = false := by rfl) : DE X c ρ (.Call (.Name "divmod" p) [a, b] [] pos) (.d (.tuple [.int (i / j), .int (i % j)])) ρ2 :=
  de_b2 call_divmod hm boot_divmod_ ha hb (.two fun O σ H x u E v1 v2 Q k => by
    cases v1
    cases v2
    refine ⟨i, j, rfl, hj, fun p hp => k _ _ (same_new hp) (.tup (SqT.of ?_) (.cons (.int _) (.cons (.int _) .nil)))⟩
    rw [cut_out (E.notO hp)]
    exact upd_same) hg (by decide) (by decide) h1 h2 h3
theorem de_sum {ns : List Int} (hcl : X.calm = true) (hm : X.mg "sum" = none) (ha : DE X c ρ a W1 ρ1) (hq : Sq ρ1 W1 (ns.map PyData.int)) (hg : Gl X "sum" := by rfl) (h1 : starEach [a] X.env = (false, eval a X.env) :: starEach [] X.env := by rfl)
    (h3 : (backTo pos (starEach [] X.env)).any (·.1) = false := by rfl) : DE X c ρ (.Call (.Name "sum" p) [a] [] pos) (.d (.int ns.sum)) ρ1 :=
  de_b1 ((cr_sum hcl).or (cr_sumT hcl)) hm boot_sum_ ha (.one fun O σ H x E v Q k => by
    obtain ⟨l, xs, rfl, s, r⟩ := hq.read E v
    have e := r.ints
    subst e
    rcases s with s | s
    · exact .inl ⟨l, ns, rfl, s, k _ H (Same.refl H) (.int _)⟩
    · exact .inr ⟨l, ns, rfl, s, k _ H (Same.refl H) (.int _)⟩) hg (by decide) (by decide) h1 h3
/-- all, any of a list of bools -/
theorem rAllD {bs : List Bool} (hq : Sq ρ W1 (bs.map PyData.bool)) (hl : ∀ l, W1 ≠ .d (.tuple l)) : DoC X c ρ (rAll X.K) [W1] (.d (.bool (bs.all id))) := .one fun O σ H x E v Q k => by
  obtain ⟨l, xs, rfl, s, r⟩ := hq.read E v
  have e := r.bools
  subst e
  cases hq' : hq with
  | dt => exact absurd rfl (hl _)
  | dl =>
    cases v with
    | lst s r => exact ⟨l, bs, rfl, by have e := r.bools; subst e; exact sqL_mono cut_le s, k _ H (Same.refl H) (.bl _)⟩
  | n hi =>
    obtain ⟨a, e1, _, _, vs, h4, r⟩ := E.mine hi v
    cases e1
    have e := r.bools
    subst e
    exact ⟨l, bs, rfl, SqL.of h4, k _ H (Same.refl H) (.bl _)⟩
  | l =>
    obtain ⟨a, vs, e1, _, h4, r⟩ := v
    cases e1
    have e := r.bools
    subst e
    exact ⟨l, bs, rfl, SqL.of h4, k _ H (Same.refl H) (.bl _)⟩
theorem rAnyD {bs : List Bool} (hq : Sq ρ W1 (bs.map PyData.bool)) (hl : ∀ l, W1 ≠ .d (.tuple l)) : DoC X c ρ (rAny X.K) [W1] (.d (.bool (bs.any id))) := .one fun O σ H x E v Q k => by
  cases hq' : hq with
  | dt => exact absurd rfl (hl _)
  | dl =>
    cases v with
    | lst s r => exact ⟨_, bs, rfl, by have e := r.bools; subst e; exact sqL_mono cut_le s, k _ H (Same.refl H) (.bl _)⟩
  | n hi =>
    obtain ⟨a, rfl, _, _, vs, h4, r⟩ := E.mine hi v
    have e := r.bools
    subst e
    exact ⟨a, bs, rfl, SqL.of h4, k _ H (Same.refl H) (.bl _)⟩
  | l =>
    obtain ⟨a, vs, rfl, _, h4, r⟩ := v
    have e := r.bools
    subst e
    exact ⟨a, bs, rfl, SqL.of h4, k _ H (Same.refl H) (.bl _)⟩
theorem de_all {bs : List Bool} (hcl : X.calm = true) (hm : X.mg "all" = none) (ha : DE X c ρ a W1 ρ1) (hq : Sq ρ1 W1 (bs.map PyData.bool)) (hl : ∀ l, W1 ≠ .d (.tuple l) := by exact fun _ e => Wk.noConfusion e) (hg : Gl X "all" := by rfl) (h1 : starEach [a] X.env = (false, eval a X.env) :: starEach [] X.env := by rfl)
    (h3 : (backTo pos (starEach [] X.env)).any (·.1) = false := by rfl) : DE X c ρ (.Call (.Name "all" p) [a] [] pos) (.d (.bool (bs.all id))) ρ1 := de_b1 (cr_all hcl) hm boot_all_ ha (rAllD hq hl) hg (by decide) (by decide) h1 h3
theorem de_any {bs : List Bool} (hcl : X.calm = true) (hm : X.mg "any" = none) (ha : DE X c ρ a W1 ρ1) (hq : Sq ρ1 W1 (bs.map PyData.bool)) (hl : ∀ l, W1 ≠ .d (.tuple l) := by exact fun _ e => Wk.noConfusion e) (hg : Gl X "any" := by rfl) (h1 : starEach [a] X.env = (false, eval a X.env) :: starEach [] X.env := by rfl)
    (h3 : (backTo pos (starEach [] X.env)).any (·.1) = false := by rfl) : DE X c ρ (.Call (.Name "any" p) [a] [] pos) (.d (.bool (bs.any id))) ρ1 := de_b1 (cr_any hcl) hm boot_any_ ha (rAnyD hq hl) hg (by decide) (by decide) h1 h3
/-- tuple(xs) -/
theorem de_tupC (hm : X.mg "tuple" = none) (ha : DE X c ρ a W1 ρ1) (hq : Sq ρ1 W1 ds) (hg : Gl X "tuple" := by rfl) (h1 : starEach [a] X.env = (false, eval a X.env) :: starEach [] X.env := by rfl) (h3 : (backTo pos (starEach [] X.env)).any (·.1) = false := by rfl) :
    DE X c ρ (.Call (.Name "tuple" p) [a] [] pos) (.d (.tuple ds)) ρ1 :=
  de_t1 call_tuple_of hm boot_tyTuple ha (.one fun O σ H x E v Q k => by
    have new : ∀ (l : Addr) (xs : List V), x = .ref l → SqL X.K H l xs → RpAll X.K (cut H O) xs ds → ∃ p ys, [x] = [.ref p] ∧ ((SqL X.K H p ys ∧ ∀ l, H l = none → Q (.ref l) (upd H l (.tup ys))) ∨ (SqT X.K H p ys ∧ Q (.ref p) H)) := fun l xs e s r => by
      subst e
      refine ⟨l, xs, rfl, .inl ⟨s, fun p hp => k _ _ (same_new hp) (.tup (SqT.of ?_) (r.mono (Est.of (same_new hp)).cut))⟩⟩
      rw [cut_out (E.notO hp)]
      exact upd_same
    cases hq' : hq with
    | dt =>
      cases v with
      | tup s r => exact ⟨_, _, rfl, .inr ⟨sqT_mono cut_le s, k _ H (Same.refl H) (.tup s r)⟩⟩
    | dl =>
      cases v with
      | lst s r => exact new _ _ rfl (sqL_mono cut_le s) r
    | n hi =>
      obtain ⟨a, e1, _, _, vs, h4, r⟩ := E.mine hi v
      exact new _ _ e1 (SqL.of h4) r
    | l =>
      obtain ⟨a, vs, e1, _, h4, r⟩ := v
      exact new _ _ e1 (SqL.of h4) r) hg (by decide) (by decide) h1 h3
/-- list(xs) -/
theorem do_lstC (hm : X.mg "list" = none) (ha : DE X c ρ a W1 ρ1) (hq : Sq ρ1 W1 ds) (hg : Gl X "list" := by rfl) (h1 : starEach [a] X.env = (false, eval a X.env) :: starEach [] X.env := by rfl) (h3 : (backTo pos (starEach [] X.env)).any (·.1) = false := by rfl) :
    DO X c ρ (.Call (.Name "list" p) [a] [] pos) (.list ds) ρ1 :=
  do_t1 call_list_of hm boot_tyList ha (.one fun O σ H x E v Q k => by
    obtain ⟨l, xs, rfl, s, r⟩ := hq.read E v
    exact ⟨l, xs, rfl, s, fun p hp => k p _ hp trivial ⟨xs, upd_same, r⟩⟩) hg (by decide) (by decide) h1 h3
theorem de_repr (hG : X.A.guards = some []) (hu : X.A.units + 64 < cLine) (hm : X.mg "repr" = none) (ha : DE X c ρ a W1 ρ1) (hq : Vw ρ1 W1 y) (hl : (∃ l, y = .list l) ∨ ∃ l, y = .tuple l) (hcl : y.canLay0 = true) (hs : y.showable = true) (hd : y.depth ≤ 60) (hz : y.shown.length ≤ sizeLine)
    (hg : Gl X "repr" := by rfl) (h1 : starEach [a] X.env = (false, eval a X.env) :: starEach [] X.env := by rfl) (h3 : (backTo pos (starEach [] X.env)).any (·.1) = false := by rfl) :
    DE X c ρ (.Call (.Name "repr" p) [a] [] pos) (.d (.str y.shown)) ρ1 :=
  de_b1 (cr_repr hG hu) hm boot_repr_ ha (.one fun O σ H x E v Q k => by
    have r := Rp.dp y x hcl (hq.read E v)
    have e : ∃ l, x = .ref l := by
      rcases hl with ⟨l, rfl⟩ | ⟨l, rfl⟩
      · cases r; exact ⟨_, rfl⟩
      · cases r; exact ⟨_, rfl⟩
    obtain ⟨l, rfl⟩ := e
    exact ⟨l, y, rfl, r, hcl, hs, hd, hz, k _ H (Same.refl H) (.str _)⟩) hg (by decide) (by decide) h1 h3
/-! slices -/
def cutL {α : Type} (xs : List α) (lo hi : Option Int) : List α := (xs.drop (HT.sIx xs.length 0 lo)).take (HT.sIx xs.length xs.length hi - HT.sIx xs.length 0 lo)
theorem cutL_all {K : PySem.W.Frag} {I : Hp} {xs : List V} {lo hi : Option Int} (r : RpAll K I xs ds) : RpAll K I (cutV xs lo hi) (cutL ds lo hi) := by
  unfold cutV cutL
  rw [r.length]
  exact (r.drop _).take _
theorem cutL_to {α : Type} (xs : List α) (n : Nat) : cutL xs none (some (n : Int)) = xs.take n := by
  unfold cutL
  rw [HT.sIx_none, HT.sIx_nat, List.drop_zero, Nat.sub_zero]
  by_cases h : n ≤ xs.length
  · rw [Nat.min_eq_left h]
  · rw [Nat.min_eq_right (by omega), List.take_of_length_le (by omega), List.take_of_length_le (by omega)]
theorem cutL_from {α : Type} (xs : List α) (n : Nat) : cutL xs (some (n : Int)) none = xs.drop n := by
  unfold cutL
  rw [HT.sIx_none, HT.sIx_nat]
  by_cases h : n ≤ xs.length
  · rw [Nat.min_eq_left h, List.take_of_length_le (by rw [List.length_drop] <;> omega)]
  · rw [Nat.min_eq_right (by omega), List.drop_eq_nil_of_le (Nat.le_refl _), List.drop_eq_nil_of_le (by omega), List.take_nil]
def tP (K : PySem.W.Frag) (c : Cc) (ρ : List Sl) (o : Option Int) (ρ' : List Sl) : TO := fun σ H Q => ∃ O, En K c O H σ ρ ∧ ∀ H', Est O H H' → En K c O H' σ ρ' → Q o H'
def DPo (X : Cx) (c : Cc) (ρ : List Sl) (e : Option Expr) (o : Option Int) (ρ' : List Sl) : Prop := PO X e (tP X.K c ρ o ρ')
theorem PO.imp {e : Option Expr} {t t' : TO} (h : PO X e t) (i : ∀ σ H Q, t' σ H Q → t σ H Q) : PO X e t' := ⟨fun pins s σ H Q I q => h.run pins s σ H Q I (i σ H Q q)⟩
theorem dp_no : DPo X c ρ none none ρ := PO.imp po_none fun σ H Q ⟨O, E, k⟩ => k H Est.refl E
theorem dp_so (h : DE X c ρ e (.d (.int i)) ρ1) : DPo X c ρ (some e) (some i) ρ1 := PO.imp (po_some h) fun σ H Q ⟨O, E, k⟩ => ⟨O, E, fun v H1 e1 E1 v1 => by
  cases v1
  exact ⟨i, rfl, k H1 e1 E1⟩⟩
/-- t[lo:hi] of a tuple -/
theorem de_slT {lo hi : Option Expr} {l h : Option Int} (ha : DE X c ρ a (.d (.tuple ds)) ρ1) (hl : DPo X c ρ1 lo l ρ2) (hh : DPo X c ρ2 hi h ρ3) : DE X c ρ (.Subscript a (.Slice lo hi none p2) pos) (.d (.tuple (cutL ds l h))) ρ3 :=
  PE.imp (pe_slice sl_tupA ha hl hh) fun σ H Q ⟨O, E, k⟩ => ⟨O, E, fun x H1 e1 E1 v1 => ⟨O, E1, fun H2 e2 E2 => ⟨O, E2, fun H3 e3 E3 => by
    have v3 := (VOk.est v1 e2).est e3
    cases v3 with
    | tup s r =>
      refine ⟨_, _, rfl, sqT_mono cut_le s, fun w => k _ H3 (e1.trans (e2.trans e3)) E3 ?_, fun w p hp => k _ _ (e1.trans (e2.trans (e3.trans (Est.of (same_new hp))))) (E3.step (same_new hp)) (.tup (SqT.of ?_) ((cutL_all r).mono (Est.of (same_new hp)).cut))⟩
      · have e : cutL ds l h = ds := by
          unfold cutL
          rw [← r.length, w.1, w.2, List.drop_zero, Nat.sub_zero]
          exact List.take_of_length_le (by rw [r.length]; exact Nat.le_refl _)
        rw [e]
        exact .tup s r
      · rw [cut_out (E3.notO hp)]
        exact upd_same⟩⟩⟩
/-- xs[lo:hi] of a list -/
theorem do_slL {lo hi : Option Expr} {l h : Option Int} (ha : DE X c ρ a W1 ρ1) (hl : DPo X c ρ1 lo l ρ2) (hh : DPo X c ρ2 hi h ρ3) (hq : Sq ρ3 W1 ds) (hn : ∀ l, W1 ≠ .d (.tuple l) := by exact fun _ e => Wk.noConfusion e) : DO X c ρ (.Subscript a (.Slice lo hi none p2) pos) (.list (cutL ds l h)) ρ3 :=
  PE.imp (pe_slice sl_list ha hl hh) fun σ H Q ⟨O, E, k⟩ => ⟨O, E, fun x H1 e1 E1 v1 => ⟨O, E1, fun H2 e2 E2 => ⟨O, E2, fun H3 e3 E3 => by
    have v3 := (VOk.est v1 e2).est e3
    have fin : ∀ (a : Addr) (xs : List V), x = .ref a → SqL X.K H3 a xs → RpAll X.K (cut H3 O) xs ds → rSlL X.K x l h H3 Q := fun a xs e s r => by
      subst e
      refine ⟨a, xs, rfl, s, fun p hp => ?_⟩
      obtain ⟨q1, q2, q3⟩ := E3.made (o := .lst (cutV xs l h)) (z := .list (cutL ds l h)) hp trivial ⟨_, upd_same, cutL_all r⟩
      exact k p _ (e1.trans (e2.trans (e3.trans (Est.of (same_new hp))))) (E1.back e1 (E2.back e2 (E3.back e3 hp))) q1 q2 q3
    cases hq' : hq with
    | dt => exact absurd rfl (hn _)
    | dl =>
      cases v3 with
      | lst s r => exact fin _ _ rfl (sqL_mono cut_le s) r
    | n hi =>
      obtain ⟨a, e1, _, _, vs, h4, r⟩ := E3.mine hi v3
      exact fin a vs e1 (SqL.of h4) r
    | l =>
      obtain ⟨a, vs, e1, _, h4, r⟩ := v3
      exact fin a vs e1 (SqL.of h4) r⟩⟩⟩
/-! t + u, xs + ys -/
theorem de_catT (ha : DE X c ρ a (.d (.tuple ds1)) ρ1) (hb : DE X c ρ1 b (.d (.tuple ds2)) ρ2) (hl : ds1.length + ds2.length ≤ 100000) : DE X c ρ (.BinOp a .Add b pos) (.d (.tuple (ds1 ++ ds2))) ρ2 :=
  de_op op_catA ha hb fun O σ H x u E v1 v2 Q k => by
    cases v1 with
    | tup s1 r1 =>
      cases v2 with
      | tup s2 r2 =>
        refine ⟨_, _, _, _, rfl, rfl, sqT_mono cut_le s1, sqT_mono cut_le s2, small_sz (by rw [r1.length, r2.length]; exact hl), fun z => ?_, fun _ z => ?_, fun _ _ p hp => k _ _ (same_new hp) (.tup (SqT.of ?_) ((r1.append r2).mono (Est.of (same_new hp)).cut))⟩
        · subst z
          cases r1
          exact k _ H (Same.refl H) (.tup s2 r2)
        · subst z
          cases r2
          have k' := k
          rw [List.append_nil] at k'
          exact k' _ H (Same.refl H) (.tup s1 r1)
        · rw [cut_out (E.notO hp)]
          exact upd_same
/-- a list that is tracked -/
inductive Lq (ρ : List Sl) : Wk → List PyData → Prop
  | n {i : Nat} {w : Bool} {ds : List PyData} : ρ[i]? = some (.m w (.list ds)) → Lq ρ (.n i) ds
  | l {ds : List PyData} : Lq ρ (.l ds) ds
theorem Lq.read {K : PySem.W.Frag} {O : List Addr} {H : Hp} {σ : L2.St} {v : V} (h : Lq ρ W ds) (E : En K c O H σ ρ) (hv : VOk K O σ H v W) : ∃ a xs, v = .ref a ∧ H a = some (.lst xs) ∧ RpAll K (cut H O) xs ds := by
  cases h with
  | n hi =>
    obtain ⟨a, rfl, _, _, vs, q, r⟩ := E.mine hi hv
    exact ⟨a, vs, rfl, q, r⟩
  | l =>
    obtain ⟨a, vs, rfl, h2, h3, h4⟩ := hv
    exact ⟨a, vs, rfl, h3, h4⟩
theorem do_cat (ha : DE X c ρ a W1 ρ1) (hb : DE X c ρ1 b W2 ρ2) (h1 : Lq ρ2 W1 ds1) (h2 : Lq ρ2 W2 ds2) (hl : ds1.length + ds2.length ≤ 100000) : DO X c ρ (.BinOp a .Add b pos) (.list (ds1 ++ ds2)) ρ2 :=
  do_op op_cat ha hb fun O σ H x u E v1 v2 Q k => by
    obtain ⟨a1, xs1, rfl, q1, r1⟩ := h1.read E v1
    obtain ⟨a2, xs2, rfl, q2, r2⟩ := h2.read E v2
    exact ⟨a1, a2, xs1, xs2, rfl, rfl, q1, q2, small_sz (by rw [r1.length, r2.length]; exact hl), fun p hp => k p _ hp trivial ⟨_, upd_same, r1.append r2⟩⟩
theorem do_rep (ha : DE X c ρ a W1 ρ1) (hb : DE X c ρ1 b (.d (.int k)) ρ2) (h1 : Lq ρ2 W1 ds1) (hk : k ≤ 100000) (hk2 : -100000 ≤ k) (hl : ds1.length * k.toNat ≤ 100000) : DO X c ρ (.BinOp a .Mult b pos) (.list (List.replicate k.toNat ds1).flatten) ρ2 :=
  do_op op_rep ha hb fun O σ H x u E v1 v2 Q kk => by
    obtain ⟨a1, xs1, rfl, q1, r1⟩ := h1.read E v1
    cases v2
    refine ⟨a1, k, xs1, rfl, rfl, q1, by omega, by omega, small_sz (by rw [r1.length]; exact hl), fun p hp => kk p _ hp trivial ⟨_, upd_same, ?_⟩⟩
    generalize k.toNat = n
    induction n with
    | zero => exact .nil
    | succ n ih => rw [List.replicate_succ, List.flatten_cons, List.replicate_succ, List.flatten_cons]; exact r1.append ih
end
end DL
set_option Elab.async false
set_option linter.all false
set_option maxRecDepth 100000
set_option maxHeartbeats 4000000
namespace DL
open PySem PySem.Spec L2
/-! ### statements, by data -/
/-- what a def gives back: data, or a new list or dict -/
inductive Re where
  | d (y : PyData) | o (y : PyData)
def ROk (K : PySem.W.Frag) (O : List Addr) (H0 H : Hp) (v : V) : Re → Prop
  | .d y => Rp K (cut H O) v y
  | .o y => ∃ p, v = .ref p ∧ H0 p = none ∧ Ow K (cut H (p :: O)) H p y
structure Post where
  nx : List Sl → Prop
  bk : List Sl → Prop
  ct : List Sl → Prop
  rt : Re → List Sl → Prop
abbrev Post.to (P : Post) (ρ : List Sl) : Post := { P with nx := fun ρ' => ρ' = ρ }
abbrev Post.mid (P : Post) (M : List Sl → Prop) : Post := { P with nx := M }
structure Fit (K : PySem.W.Frag) (c : Cc) (P : Post) (D : Ends) : Prop where
  nx : ∀ O σ H ρ, P.nx ρ → En K c O H σ ρ → D.nx σ H
  bk : ∀ O σ H ρ, P.bk ρ → En K c O H σ ρ → D.bk σ H
  ct : ∀ O σ H ρ, P.ct ρ → En K c O H σ ρ → D.ct σ H
  rt : ∀ r O σ H ρ v, P.rt r ρ → En K c O H σ ρ → ROk K c.O0 c.H0 H v r → D.rt v H
def sS (K : PySem.W.Frag) (c : Cc) (ρ : List Sl) (P : Post) : TS := fun D σ H => ∃ O, En K c O H σ ρ ∧ Fit K c P D
def DS (X : Cx) (c : Cc) (ρ : List Sl) (st : Stmt) (P : Post) : Prop := PS X st (sS X.K c ρ P)
def DSs (X : Cx) (c : Cc) (ρ : List Sl) (sts : List Stmt) (P : Post) : Prop := PSs X sts (sS X.K c ρ P)
/-! targets -/
def tG (K : PySem.W.Frag) (c : Cc) (ρ : List Sl) (y : PyData) (ρ' : List Sl) : TG := fun v σ H Q => ∃ O, En K c O H σ ρ ∧ Rp K (cut H O) v y ∧ ∀ O' σ' H', En K c O' H' σ' ρ' → Q σ' H'
def DG (X : Cx) (c : Cc) (ρ : List Sl) (tg : Expr) (y : PyData) (ρ' : List Sl) : Prop := PG X tg (tG X.K c ρ y ρ')
section
variable {X : Cx} {c : Cc} {ρ ρ1 ρ2 ρ3 : List Sl} {W W1 W2 W3 : Wk} {Ws : List Wk} {a b e tg : Expr} {es : List Expr} {pos p p2 q : Pos} {y z : PyData} {i j k : Int} {ds ds1 ds2 : List PyData} {st : Stmt} {rest sts : List Stmt} {P : Post}
theorem Fit.seq {K : PySem.W.Frag} {M : List Sl → Prop} {D : Ends} {t : TS} (f : Fit K c P D) (h : ∀ O σ H ρ, M ρ → En K c O H σ ρ → t D σ H) : Fit K c (P.mid M) { D with nx := t D } := ⟨fun O σ H ρ m E => h O σ H ρ m E, f.bk, f.ct, f.rt⟩
theorem dss_nil (h : P.nx ρ) : DSs X c ρ [] P := PSs.imp pss_nil fun D σ H ⟨O, E, f⟩ => f.nx O σ H ρ h E
theorem dss_cons (M : List Sl → Prop) (h1 : DS X c ρ st (P.mid M)) (h2 : ∀ ρ', M ρ' → DSs X c ρ' rest P) : DSs X c ρ (st :: rest) P :=
  PSs.imp (pss_cons h1 uSs.ok) fun D σ H ⟨O, E, f⟩ => ⟨O, E, f.seq fun O' σ' H' ρ' m E' => ⟨_, h2 ρ' m, O', E', f⟩⟩
/-- one statement, which goes to ρ1; then the rest -/
theorem dss (h1 : DS X c ρ st (P.to ρ1)) (h2 : DSs X c ρ1 rest P) : DSs X c ρ (st :: rest) P := dss_cons _ h1 fun ρ' e => by
  subst e
  exact h2
theorem dss_one (h : DS X c ρ st P) : DSs X c ρ [st] P := pss_one h
/-- less is known -/
theorem dss_weak (hl : ρ1.length = ρ.length) (h : ∀ (i : Nat) (s : Sl), ρ1[i]? = some s → ρ[i]? = some s ∨ s = .un) (hs : DSs X c ρ1 sts P) : DSs X c ρ sts P := PSs.imp hs fun D σ H ⟨O, E, f⟩ => ⟨O, E.weak hl h, f⟩
/-- slot n's own list or dict is not changed any more: data -/
theorem dss_fz (n : Nat) (h : ρ[n]? = some (.m false y)) (hs : DSs X c (ρ.set n (.d y)) sts P) : DSs X c ρ sts P := PSs.imp hs fun D σ H ⟨O, E, f⟩ => let ⟨O', E'⟩ := E.freeze h; ⟨O', E', f⟩
theorem dss_never (h : False) : DSs X c ρ sts P := h.elim
theorem ds_never (h : False) : DS X c ρ st P := h.elim
theorem ds_pass (h : P.nx ρ) : DS X c ρ (.Pass pos) P := PS.imp ps_pass fun D σ H ⟨O, E, f⟩ => f.nx O σ H ρ h E
theorem ds_break (h : P.bk ρ) : DS X c ρ (.Break pos) P := PS.imp ps_break fun D σ H ⟨O, E, f⟩ => f.bk O σ H ρ h E
theorem ds_continue (h : P.ct ρ) : DS X c ρ (.Continue pos) P := PS.imp ps_continue fun D σ H ⟨O, E, f⟩ => f.ct O σ H ρ h E
theorem ds_expr (he : DE X c ρ e W ρ1) (h : P.nx ρ1) (hs : swapsWith e none pos.line X.env = pure false := by rfl) : DS X c ρ (.Expr e pos) P :=
  PS.imp (ps_expr he hs) fun D σ H ⟨O, E, f⟩ => ⟨O, E, fun v H' e1 E1 v1 => f.nx O σ H' ρ1 h E1⟩
/-- name = data -/
theorem ds_set (n : Nat) {x : Str} {p' : Pos} (hN : X.N.Nodup) (he : DE X c ρ e (.d y) ρ1) (h : P.nx (ρ1.set n (.d y))) (hi : X.N[n]? = some x := by rfl) (hx : Loc X.env.scope x := by first | exact Or.inl rfl | exact Or.inr rfl) (hs : swapsWith e (some (.Name x p')) pos.line X.env = pure false := by rfl)
    (hf : X.fn x = true ∨ X.env.scope.names.lookup x = some .local := by first | exact .inl rfl | exact .inr rfl) : DS X c ρ (.Assign [.Name x p'] e pos) P :=
  PS.imp (ps_set hN hi hx he hs hf) fun D σ H ⟨O, E, f⟩ => ⟨O, E, fun v H' e1 E1 v1 => f.nx O _ H' _ h (E1.set1 ⟨v, rfl, v1⟩ fun _ _ z => Sl.noConfusion z)⟩
/-- name = a value known -/
theorem ds_setV (n : Nat) {x : Str} {p' : Pos} {u : V} (hN : X.N.Nodup) (he : DE X c ρ e (.v u) ρ1) (h : P.nx (ρ1.set n (.v u))) (hi : X.N[n]? = some x := by rfl) (hx : Loc X.env.scope x := by first | exact Or.inl rfl | exact Or.inr rfl) (hs : swapsWith e (some (.Name x p')) pos.line X.env = pure false := by rfl)
    (hf : X.fn x = true ∨ X.env.scope.names.lookup x = some .local := by first | exact .inl rfl | exact .inr rfl) : DS X c ρ (.Assign [.Name x p'] e pos) P :=
  PS.imp (ps_set hN hi hx he hs hf) fun D σ H ⟨O, E, f⟩ => ⟨O, E, fun v H' e1 E1 v1 => f.nx O _ H' _ h (E1.set1 (s := .v u) (by cases v1; rfl) fun _ _ z => Sl.noConfusion z)⟩
/-- name = a new list or dict, owned -/
theorem ds_setO (n : Nat) {x : Str} {p' : Pos} (hN : X.N.Nodup) (he : DO X c ρ e y ρ1) (h : P.nx (ρ1.set n (.m false y))) (hi : X.N[n]? = some x := by rfl) (hx : Loc X.env.scope x := by first | exact Or.inl rfl | exact Or.inr rfl) (hs : swapsWith e (some (.Name x p')) pos.line X.env = pure false := by rfl)
    (hf : X.fn x = true ∨ X.env.scope.names.lookup x = some .local := by first | exact .inl rfl | exact .inr rfl) : DS X c ρ (.Assign [.Name x p'] e pos) P :=
  PS.imp (ps_set hN hi hx he hs hf) fun D σ H ⟨O, E, f⟩ => ⟨O, E, fun p H' e1 hp E1 ho hno =>
    f.nx _ _ H' _ h (E1.setS (s := .m false y) ⟨p, rfl, List.mem_cons_self .., E.fr0 hp, ho⟩ (fun w y' q' _ hq e => E.notO hp (by cases e; exact (E.fl q' hq).1)) fun w z y' q' j e2 hj h2 h3 => hno j z q' h2 h3)⟩
/-- x = z, the thing that z owns: it is x's now -/
theorem ds_move (n m : Nat) {x : Str} {p' : Pos} {w : Bool} (hN : X.N.Nodup) (he : DE X c ρ e (.n m) ρ1) (hm : ρ1[m]? = some (.m w y)) (h : P.nx ((ρ1.set m .un).set n (.m w y))) (hi : X.N[n]? = some x := by rfl) (hx : Loc X.env.scope x := by first | exact Or.inl rfl | exact Or.inr rfl) (hs : swapsWith e (some (.Name x p')) pos.line X.env = pure false := by rfl)
    (hf : X.fn x = true ∨ X.env.scope.names.lookup x = some .local := by first | exact .inl rfl | exact .inr rfl) : DS X c ρ (.Assign [.Name x p'] e pos) P :=
  PS.imp (ps_set hN hi hx he hs hf) fun D σ H ⟨O, E, f⟩ => ⟨O, E, fun v H' e1 E1 v1 => by
    have v1' : σ[m]? = some (some v) := v1
    obtain ⟨a, rfl, q2, q3, q4⟩ := E1.mine hm v1'
    have E2 : En X.K c O H' σ (ρ1.set m .un) := E1.weak (by rw [List.length_set]) fun j s hs => by
      rcases get_set hs with ⟨_, e, _⟩ | ⟨_, h⟩
      · exact .inr e
      · exact .inl h
    refine f.nx O _ H' _ h (E2.setS (s := .m w y) ⟨a, rfl, q2, q3, q4⟩ (fun w' y' q' _ hq e => (E1.fl q' hq).2.2.2 m _ _ hm (by cases e; exact v1')) fun w1 z1 y1 q1 j e2 hj h2 h3 => ?_)
    rcases get_set h2 with ⟨_, e3, _⟩ | ⟨n3, h2⟩
    · cases e3
    · exact n3 (E1.sep m j _ _ _ _ a hm h2 v1' h3)⟩
/-! return -/
theorem ds_ret (he : DE X c ρ e (.d y) ρ1) (h : P.rt (.d y) ρ1) : DS X c ρ (.Return (some e) pos) P :=
  PS.imp (ps_ret he) fun D σ H ⟨O, E, f⟩ => ⟨O, E, fun v H' e1 E1 v1 => f.rt _ O σ H' ρ1 v h E1 (Rp.mono (cut_sub fun b hb => (E1.sub b hb).1) v1)⟩
theorem ds_retO (he : DO X c ρ e y ρ1) (h : P.rt (.o y) ρ1) : DS X c ρ (.Return (some e) pos) P :=
  PS.imp (ps_ret he) fun D σ H ⟨O, E, f⟩ => ⟨O, E, fun p H' e1 hp E1 ho hno => f.rt _ _ σ H' ρ1 _ h E1 ⟨p, rfl, E.fr0 hp, ho.mono (cut_sub fun b hb => by
    rcases List.mem_cons.mp hb with z | z
    · subst z; exact List.mem_cons_self ..
    · exact (E1.sub b z).1) fun o q _ => q⟩⟩
theorem ds_retN (n : Nat) (he : DE X c ρ e (.n n) ρ1) (hn : ρ1[n]? = some (.m false y)) (h : P.rt (.o y) ρ1) : DS X c ρ (.Return (some e) pos) P :=
  PS.imp (ps_ret he) fun D σ H ⟨O, E, f⟩ => ⟨O, E, fun v H' e1 E1 v1 => by
    obtain ⟨a, rfl, q2, q3, q4⟩ := E1.mine hn v1
    exact f.rt _ O σ H' ρ1 _ h E1 ⟨a, rfl, q3, q4.mono (cut_sub fun b hb => by
      rcases List.mem_cons.mp hb with z | z
      · subst z; exact q2
      · exact (E1.sub b z).1) fun o q _ => q⟩⟩
theorem ds_ret0 (h : P.rt (.d .none) ρ) : DS X c ρ (.Return none pos) P := PS.imp ps_retN fun D σ H ⟨O, E, f⟩ => f.rt _ O σ H ρ _ h E .non
/-! if -/
theorem ds_if {k : Bool} {t : Expr} {body els : List Stmt} (ht : DT X c ρ t k ρ1) (h1 : k = true → DSs X c ρ1 body P) (h2 : k = false → DSs X c ρ1 els P) : DS X c ρ (.If t body els pos) P :=
  PS.imp (ps_if ht uSs.ok uSs.ok) fun D σ H ⟨O, E, f⟩ => ⟨O, E, fun H1 e1 E1 => by
    cases k with
    | true =>
      rw [if_pos rfl]
      exact ⟨_, h1 rfl, O, E1, f⟩
    | false =>
      rw [if_neg Bool.false_ne_true]
      exact ⟨_, h2 rfl, O, E1, f⟩⟩
/-- an if whose branch leaves, then the rest -/
theorem dss_if {k : Bool} {t : Expr} {body : List Stmt} (ht : DT X c ρ t k ρ1) (h1 : k = true → DSs X c ρ1 body (P.mid fun _ => False)) (h2 : k = false → DSs X c ρ1 rest P) : DSs X c ρ (.If t body [] pos :: rest) P :=
  dss_cons (fun ρ' => ρ' = ρ1 ∧ k = false) (ds_if ht (fun hk => PSs.imp (h1 hk) fun D σ H ⟨O, E, f⟩ => ⟨O, E, fun _ _ _ _ z _ => z.elim, f.bk, f.ct, f.rt⟩) fun hk => dss_nil ⟨rfl, hk⟩) fun ρ' ⟨e, hk⟩ => by
    subst e
    exact h2 hk
/-- the test's answer is known: false -/
theorem dss_ifF {t : Expr} {body : List Stmt} (ht : DT X c ρ t false ρ1) (h2 : DSs X c ρ1 rest P) : DSs X c ρ (.If t body [] pos :: rest) P := dss_if ht (fun hk => Bool.noConfusion hk) fun _ => h2
theorem dss_ifT {t : Expr} {body els : List Stmt} (ht : DT X c ρ t true ρ1) (h1 : DSs X c ρ1 body P) : DS X c ρ (.If t body els pos) P := ds_if ht (fun _ => h1) fun hk => Bool.noConfusion hk
/-! targets -/
theorem dg_name (n : Nat) {x : Str} (hN : X.N.Nodup) (hi : X.N[n]? = some x := by rfl) (hx : Loc X.env.scope x := by first | exact Or.inl rfl | exact Or.inr rfl) (hf : X.fn x = true ∨ X.env.scope.names.lookup x = some .local := by first | exact .inl rfl | exact .inr rfl) : DG X c ρ (.Name x pos) y (ρ.set n (.d y)) :=
  PG.imp (pg_name hN hi hx hf) fun v σ H Q ⟨O, E, r, k⟩ => k O _ H (E.set1 ⟨v, rfl, r⟩ fun _ _ z => Sl.noConfusion z)
def tGs (K : PySem.W.Frag) (c : Cc) (ρ : List Sl) (ys : List PyData) (ρ' : List Sl) : TGs := fun vs σ H Q => ∃ O, En K c O H σ ρ ∧ RpAll K (cut H O) vs ys ∧ ∀ O' σ' H', En K c O' H' σ' ρ' → Q σ' H'
def DGs (X : Cx) (c : Cc) (ρ : List Sl) (ts : List Expr) (ys : List PyData) (ρ' : List Sl) : Prop := PGs X ts (tGs X.K c ρ ys ρ')
theorem PGs.imp {ts : List Expr} {t t' : TGs} (h : PGs X ts t) (i : ∀ vs σ H Q, t' vs σ H Q → t vs σ H Q) : PGs X ts t' := ⟨fun pins s σ H v u Q I r q => h.run pins s σ H v u Q I r (i v σ H Q q)⟩
theorem dgs_nil : DGs X c ρ [] [] ρ := PGs.imp pgs_nil fun vs σ H Q ⟨O, E, r, k⟩ => by
  cases r
  exact ⟨rfl, k O σ H E⟩
/-- the values behind are kept by ghosts -/
theorem dgs_cons {ts : List Expr} {ys : List PyData} (h1 : ∀ c', Le c c' → DG X c' ρ e y ρ1) (h2 : DGs X c ρ1 ts ys ρ2) (hs : (assignEach (e :: ts) X.env).map (·.2) = assign e X.env :: (assignEach ts X.env).map (·.2) := by rfl) : DGs X c ρ (e :: ts) (y :: ys) ρ2 :=
  PGs.imp (pgs_cons uG.ok h2 hs) fun vs σ H Q ⟨O, E, r, k⟩ => by
    cases r with
    | @cons v us _ _ r1 r2 =>
      refine ⟨v, us, rfl, ?_⟩
      have ghs : ∀ {vs : List V} {ys : List PyData}, RpAll X.K (cut H O) vs ys → ∃ c' : Cc, Le c c' ∧ En X.K c' O H σ ρ ∧ ∀ O' σ' H' ρ', En X.K c' O' H' σ' ρ' → En X.K c O' H' σ' ρ' ∧ RpAll X.K (cut H' O') vs ys := by
        intro vs ys r
        induction vs generalizing ys with
        | nil =>
          cases r
          exact ⟨c, .refl c, E, fun O' σ' H' ρ' E' => ⟨E', .nil⟩⟩
        | cons v vs ih =>
          cases r with
          | cons a b =>
            obtain ⟨c', e1, E', k'⟩ := ih b
            refine ⟨c'.with v _, e1.trans (.wth ..), E'.ghost a, fun O' σ' H' ρ' E'' => ?_⟩
            obtain ⟨g1, g2⟩ := E''.unghost
            obtain ⟨g3, g4⟩ := k' _ _ _ _ g1
            exact ⟨g3, .cons g2 g4⟩
      obtain ⟨c', e1, E', k'⟩ := ghs r2
      refine ⟨_, h1 c' e1, O, E', r1, fun O' σ' H' E'' => ?_⟩
      obtain ⟨g1, g2⟩ := k' _ _ _ _ E''
      exact ⟨O', g1, g2, k⟩
/-- (a, b, ..) = a tuple -/
theorem dg_tup {ts : List Expr} {q : Nat} {ys : List PyData} (hc : X.calm = true) (h : DGs X c ρ ts ys ρ1) (hl : (assignEach ts X.env).length = ys.length := by rfl) (hst : (assignEach ts X.env).findIdx? (·.1) = none := by rfl) : DG X c ρ (.Tuple ts q pos) (.tuple ys) ρ1 :=
  PG.imp (pg_tup hc h hl hst) fun v σ H Q ⟨O, E, r, k⟩ => by
    cases r with
    | tup s r => exact ⟨_, _, rfl, sqT_mono cut_le s, r.length, O, E, r, k⟩
/-- two names -/
theorem dg_two (n m : Nat) {x u : Str} {p1 p2 : Pos} {q : Nat} (hc : X.calm = true) (hN : X.N.Nodup) (hi : X.N[n]? = some x := by rfl) (hx : Loc X.env.scope x := by first | exact Or.inl rfl | exact Or.inr rfl) (hf : X.fn x = true ∨ X.env.scope.names.lookup x = some .local := by first | exact .inl rfl | exact .inr rfl)
    (hj : X.N[m]? = some u := by rfl) (hu : Loc X.env.scope u := by first | exact Or.inl rfl | exact Or.inr rfl) (hg : X.fn u = true ∨ X.env.scope.names.lookup u = some .local := by first | exact .inl rfl | exact .inr rfl) (hs : (assignEach (.Name x p1 :: [.Name u p2]) X.env).map (·.2) = assign (.Name x p1) X.env :: (assignEach [.Name u p2] X.env).map (·.2) := by rfl)
    (hs2 : (assignEach (.Name u p2 :: []) X.env).map (·.2) = assign (.Name u p2) X.env :: (assignEach [] X.env).map (·.2) := by rfl)
    (hl : (assignEach [.Name x p1, .Name u p2] X.env).length = 2 := by rfl) (hst : (assignEach [.Name x p1, .Name u p2] X.env).findIdx? (·.1) = none := by rfl) :
    DG X c ρ (.Tuple [.Name x p1, .Name u p2] q pos) (.tuple [y, z]) ((ρ.set n (.d y)).set m (.d z)) :=
  dg_tup hc (dgs_cons (fun c' _ => dg_name n hN hi hx hf) (dgs_cons (fun c' _ => dg_name m hN hj hu hg) dgs_nil hs2) hs) hl hst
/-- xs[k] = .., xs the list in slot n -/
theorem dg_sub (n : Nat) {o ix : Expr} {w : Bool} {jn : Nat} (ho : DE X c ρ o (.n n) ρ1) (hi : ∀ c', Le c c' → DE X c' ρ1 ix (.d (.int k)) ρ2) (hn : ρ2[n]? = some (.m w (.list ds))) (hk : ixN ds.length k = some jn)
    (ha : ∀ v, assign (.Subscript o ix pos) X.env v = (do
      let ov ← holding [v] (eval o X.env)
      let iv ← holding [v, ov] (eval ix X.env)
      standAt pos
      holding [v, ov, iv] (setItem ov iv v)
      release [v, ov, iv] []) := by intro _; rfl) : DG X c ρ (.Subscript o ix pos) y (ρ2.set n (.m w (.list (ds.set jn y)))) :=
  PG.imp (pg_sub ho uE.ok set_list ha) fun v σ H Q ⟨O, E, r, kk⟩ => ⟨O, E, fun ov H1 e1 E1 v1 => by
    refine ⟨_, hi (c.with v y) (.wth ..), O, E1.ghost (r.mono e1.cut), fun iv H2 e2 E2 v2 => ?_⟩
    obtain ⟨E3, r3⟩ := E2.unghost
    have v1' : σ[n]? = some (some ov) := v1
    obtain ⟨a, rfl, q2, q3, vs, q4, q5⟩ := E3.mine hn v1'
    cases v2
    refine ⟨a, vs, k, jn, rfl, rfl, q4, by rw [q5.length]; exact hk, kk O σ _ (E3.change hn v1' ⟨_, upd_same, q5.set jn r3⟩)⟩⟩
/-- target = data -/
theorem ds_asg (he : DE X c ρ e (.d y) ρ1) (hg : DG X c ρ1 tg y ρ2) (h : P.nx ρ2) (hs : swapsWithSole [tg] e pos.line X.env = pure false := by rfl) (hw : swappedStores [tg] e X.env = pure none := by rfl)
    (h1 : (assignEach [tg] X.env).map (·.2) = [assign tg X.env] := by rfl) : DS X c ρ (.Assign [tg] e pos) P :=
  PS.imp (ps_asg he hg hs hw h1) fun D σ H ⟨O, E, f⟩ => ⟨O, E, fun v H' e1 E1 v1 => ⟨O, E1, v1, fun O' σ' H' E' => f.nx O' σ' H' ρ2 h E'⟩⟩
/-- a, b = e1, e2, both data -/
theorem ds_par (n m : Nat) {x u : Str} {px py pt : Pos} {kt k2 : Nat} {pt2 : Pos} (hc : X.calm = true) (hN : X.N.Nodup) (ha : DE X c ρ a (.d y) ρ1) (hb : DE X c ρ1 b (.d z) ρ2) (h : P.nx ((ρ2.set n (.d y)).set m (.d z))) (hij : n ≠ m := by decide) (hi : X.N[n]? = some x := by rfl) (hj : X.N[m]? = some u := by rfl)
    (hx : X.env.scope.names.lookup x = some .local := by rfl) (hu : X.env.scope.names.lookup u = some .local := by rfl) (h1 : starEach [a, b] X.env = (false, eval a X.env) :: starEach [b] X.env := by rfl) (h2 : starEach [b] X.env = (false, eval b X.env) :: starEach [] X.env := by rfl)
    (hw : swappedStores [.Tuple [.Name x px, .Name u py] kt pt] (.Tuple [a, b] k2 pt2) X.env = pure (some [x, u]) := by rfl) (hs : swapsWithSole [.Tuple [.Name x px, .Name u py] kt pt] (.Tuple [a, b] k2 pt2) pos.line X.env = pure false := by rfl) :
    DS X c ρ (.Assign [.Tuple [.Name x px, .Name u py] kt pt] (.Tuple [a, b] k2 pt2) pos) P :=
  PS.imp (ps_par hc hN hi hj hij hx hu (da_cons ha (da_cons hb da_nil h2) h1) hw hs) fun D σ H ⟨O, E, f⟩ => ⟨O, E, fun vs H' e1 E1 v1 => by
    cases v1 with
    | cons a1 b1 =>
      cases b1 with
      | cons a2 b2 =>
        cases b2
        exact ⟨_, _, rfl, f.nx O _ H' _ h ((E1.set1 (s := .d y) ⟨_, rfl, a1⟩ fun _ _ z => Sl.noConfusion z).set1 (s := .d z) ⟨_, rfl, a2⟩ fun _ _ z => Sl.noConfusion z)⟩⟩
/-- a, b = e1, e2, the second a new list -/
theorem ds_parO (n m : Nat) {x u : Str} {px py pt : Pos} {kt k2 : Nat} {pt2 : Pos} (hc : X.calm = true) (hN : X.N.Nodup) (ha : ∀ c', Le c c' → DE X c' ρ a (.d y) ρ1) (hb : ∀ c', Le c c' → DO X c' ρ1 b z ρ2) (h : P.nx ((ρ2.set n (.d y)).set m (.m false z))) (hij : n ≠ m := by decide) (hi : X.N[n]? = some x := by rfl) (hj : X.N[m]? = some u := by rfl)
    (hx : X.env.scope.names.lookup x = some .local := by rfl) (hu : X.env.scope.names.lookup u = some .local := by rfl) (h1 : starEach [a, b] X.env = (false, eval a X.env) :: starEach [b] X.env := by rfl) (h2 : starEach [b] X.env = (false, eval b X.env) :: starEach [] X.env := by rfl)
    (hw : swappedStores [.Tuple [.Name x px, .Name u py] kt pt] (.Tuple [a, b] k2 pt2) X.env = pure (some [x, u]) := by rfl) (hs : swapsWithSole [.Tuple [.Name x px, .Name u py] kt pt] (.Tuple [a, b] k2 pt2) pos.line X.env = pure false := by rfl) :
    DS X c ρ (.Assign [.Tuple [.Name x px, .Name u py] kt pt] (.Tuple [a, b] k2 pt2) pos) P :=
  PS.imp (ps_par hc hN hi hj hij hx hu (pa_cons (uE.ok (e := a)) (pa_cons (uE.ok (e := b)) pa_nil h2) h1) hw hs) fun D σ H ⟨O, E, f⟩ => ⟨_, ha c (.refl c), O, E, fun v H1 e1 E1 v1 => ⟨_, hb (c.with v y) (.wth ..), O, E1.ghost v1, fun p H2 e2 hp E2 ho hno => by
    obtain ⟨E3, r3⟩ := E2.unghost
    refine ⟨v, .ref p, rfl, f.nx _ _ H2 _ h ((E3.set1 (i := n) (s := .d y) ⟨v, rfl, r3⟩ fun _ _ z => Sl.noConfusion z).setS (s := .m false z) ⟨p, rfl, List.mem_cons_self .., E1.fr0 hp, ho⟩ (fun w' y' q' _ hq e => E1.notO hp (by cases e; exact (E1.fl q' hq).1)) fun w1 z1 y1 q1 j e4 hj4 h4 h5 => ?_)⟩
    rcases get_set h4 with ⟨_, e6, _⟩ | ⟨n6, h6⟩
    · cases e6
    · rw [List.getElem?_set_ne n6] at h5
      exact hno j z1 q1 h6 h5⟩⟩
/-- xs.append(e) -/
theorem ds_append (n : Nat) {o : Expr} {apos cpos : Pos} {w : Bool} (ho : DE X c ρ o (.n n) ρ) (hn0 : ρ[n]? = some (.m w (.list ds1))) (he : DE X c ρ e (.d y) ρ1) (hn : ρ1[n]? = some (.m w (.list ds))) (hl : ds.length < 100000) (h : P.nx (ρ1.set n (.m w (.list (ds ++ [y]))))) (hsw : swapsWith (.Call (.Attribute o "append" apos) [e] [] cpos) none pos.line X.env = pure false := by rfl)
    (hbase : attributeBase o "append" X.env (eval o X.env) = eval o X.env := by rfl) (hfew : ((backTo cpos (starEach (e :: []) X.env)).all (fun x => !x.1) && (backToKw cpos (keywordEach [] X.env)).all (fun x => x.1.isSome) && decide ((e :: []).length + ([] : List Keyword).length + (if ([] : List Keyword).isEmpty then 0 else 1) < 30)) = true := by rfl)
    (hline : (apos.endLine == cpos.line) = true := by rfl) (hs : starEach (e :: []) X.env = (false, eval e X.env) :: starEach [] X.env := by rfl) (hplain : (backTo cpos (starEach [] X.env)).any (·.1) = false := by rfl) : DS X c ρ (.Expr (.Call (.Attribute o "append" apos) [e] [] cpos) pos) P :=
  PS.imp (ps_expr (pe_bm PySem.F.plainAttrs_list PySem.F.slot_list_append PySem.F.type_list_append mt_append ho (da_cons he da_nil hs) hbase hfew hline hs hplain) hsw) fun D σ H ⟨O, E, f⟩ => ⟨O, E, fun ov H1 e1 E1 v1 => by
    have v1' : σ[n]? = some (some ov) := v1
    obtain ⟨a, rfl, _, _, vs0, q4, _⟩ := E1.mine hn0 v1'
    refine ⟨Or.inl ⟨rfl, vs0, SqL.of q4⟩, O, E1, fun us H2 e2 E2 v2 => ?_⟩
    obtain ⟨a2, ea, _, _, vs, q6, q7⟩ := E2.mine hn v1'
    cases ea
    cases v2 with
    | cons b1 b2 =>
      cases b2
      refine ⟨a, vs, _, rfl, rfl, q6, by rw [q7.length]; exact Nat.lt_of_lt_of_le hl (by decide), ?_⟩
      exact f.nx O σ _ _ h (E2.change hn v1' ⟨_, upd_same, q7.append (.cons b1 .nil)⟩)⟩
/-! while -/
theorem ds_while (Iv : Nat → List Sl → Prop) {t : Expr} {body : List Stmt} (hp : PassesOwn (model X.prog X.w) X.A X.env X.xe) (h0 : ∃ m, Iv m ρ)
    (hs : ∀ m ρ', Iv m ρ' → ∃ k ρ2, DT X c ρ' t k ρ2 ∧ (k = true → DSs X c ρ2 body ⟨fun ρ3 => ∃ m', m' < m ∧ Iv m' ρ3, P.nx, fun ρ3 => ∃ m', m' < m ∧ Iv m' ρ3, P.rt⟩) ∧ (k = false → P.nx ρ2)) : DS X c ρ (.While t body [] pos) P :=
  PS.imp (ps_while hp uT.ok uSs.ok) fun D σ H ⟨O, E, f⟩ => by
    refine ⟨fun m σ H => ∃ O ρ', Iv m ρ' ∧ En X.K c O H σ ρ', ?_, ?_⟩
    · obtain ⟨m, hm⟩ := h0
      exact ⟨m, O, ρ, hm, E⟩
    · rintro m σ' H' ⟨O', ρ', hm, E'⟩
      obtain ⟨k, ρ2, ht, hT, hF⟩ := hs m ρ' hm
      refine ⟨_, ht, O', E', fun H1 e1 E1 => ?_⟩
      cases k with
      | true => exact ⟨fun σ'' H'' => ∃ m', m' < m ∧ ∃ O ρ', Iv m' ρ' ∧ En X.K c O H'' σ'' ρ', fun _ _ z => z, _, hT rfl, O', E1, fun O σ H ρ ⟨m', l, i⟩ E => ⟨m', l, O, ρ, i, E⟩, fun O σ H ρ n E => f.nx O σ H ρ n E, fun O σ H ρ ⟨m', l, i⟩ E => ⟨m', l, O, ρ, i, E⟩, f.rt⟩
      | false => exact f.nx _ _ _ _ (hF rfl) E1
end
end DL
set_option Elab.async false
set_option linter.all false
set_option maxRecDepth 100000
set_option maxHeartbeats 4000000
namespace DL
open PySem PySem.Spec L2
/-! ### loops and comprehensions, by data -/
/-- more ghosts -/
structure Sub (c c' : Cc) : Prop where
  B : c'.B = c.B
  O0 : c'.O0 = c.O0
  H0 : c'.H0 = c.H0
  L : c'.L = c.L
  T : c'.T = c.T
  G : ∀ q ∈ c.G, q ∈ c'.G
  en : ∀ {K : PySem.W.Frag} {O : List Addr} {H : Hp} {σ : L2.St} {ρ : List Sl}, En K c' O H σ ρ → En K c O H σ ρ
theorem Sub.le {c c' : Cc} (s : Sub c c') : Le c c' := ⟨s.B, s.O0, s.H0, s.T, s.G⟩
theorem Sub.refl (c : Cc) : Sub c c := ⟨rfl, rfl, rfl, rfl, rfl, fun _ h => h, fun E => E⟩
theorem Sub.ghost (c : Cc) (v : V) (y : PyData) : Sub c (c.with v y) := ⟨rfl, rfl, rfl, rfl, rfl, fun _ h => List.mem_cons_of_mem _ h, fun E => E.unghost.1⟩
theorem Sub.trans {c c1 c2 : Cc} (a : Sub c c1) (b : Sub c1 c2) : Sub c c2 := ⟨b.B.trans a.B, b.O0.trans a.O0, b.H0.trans a.H0, b.L.trans a.L, b.T.trans a.T, fun q h => b.G q (a.G q h), fun E => a.en (b.en E)⟩
theorem Fit.sub {K : PySem.W.Frag} {c c' : Cc} {P : Post} {D : Ends} (f : Fit K c P D) (s : Sub c c') : Fit K c' P D :=
  ⟨fun O σ H ρ n E => f.nx O σ H ρ n (s.en E), fun O σ H ρ n E => f.bk O σ H ρ n (s.en E), fun O σ H ρ n E => f.ct O σ H ρ n (s.en E), fun r O σ H ρ v n E q => f.rt r O σ H ρ v n (s.en E) (by rw [s.O0, s.H0] at q; exact q)⟩
structure WalkD (K : PySem.W.Frag) (c : Cc) (J : It) (ys : List PyData) : Prop where
  goes : ∀ (i : Nat) O H σ ρ, i < ys.length → En K c O H σ ρ → J.go i H
  stops : ∀ O H σ ρ, En K c O H σ ρ → J.stop ys.length H
  yields : ∀ (i : Nat) O H σ ρ x H', i < ys.length → En K c O H σ ρ → J.yld i H x H' → Same H H' ∧ ∃ y, ys[i]? = some y ∧ Rp K (cut H' O) x y
def tI (K : PySem.W.Frag) (c : Cc) (ρ : List Sl) (ys : List PyData) (ρ' : List Sl) : TI := fun σ H R => ∃ O, En K c O H σ ρ ∧ ∀ J H' c', Sub c c' → Est O H H' → En K c' O H' σ ρ' → WalkD K c' J ys → R J H'
def DI (X : Cx) (c : Cc) (ρ : List Sl) (tg it : Expr) (ys : List PyData) (ρ' : List Sl) : Prop := PI X tg it (tI X.K c ρ ys ρ')
theorem PI.imp {X : Cx} {tg it : Expr} {t t' : TI} (h : PI X tg it t) (i : ∀ σ H R, t' σ H R → t σ H R) : PI X tg it t' := ⟨fun pins s σ H R I q => h.run pins s σ H R I (i σ H R q)⟩
/-- lo, lo + 1, .. n of them -/
def rangeD (lo : Int) (n : Nat) : List PyData := (List.range n).map fun k => .int (lo + (k : Nat))
theorem rangeD_len (lo : Int) (n : Nat) : (rangeD lo n).length = n := by unfold rangeD; simp
theorem rangeD_get {lo : Int} {n i : Nat} {y : PyData} (h : (rangeD lo n)[i]? = some y) : i < n ∧ y = .int (lo + (i : Nat)) := by
  have hi : i < n := by
    have := lt_of_get h
    rwa [rangeD_len] at this
  unfold rangeD at h
  rw [List.getElem?_map, List.getElem?_range hi] at h
  exact ⟨hi, (Option.some.inj h).symm⟩
theorem rangeD_at {lo : Int} {n i : Nat} (h : i < n) : (rangeD lo n)[i]? = some (.int (lo + (i : Nat))) := by
  unfold rangeD
  rw [List.getElem?_map, List.getElem?_range h]
  rfl
section
variable {X : Cx} {c : Cc} {ρ ρ1 ρ2 ρ3 : List Sl} {W W1 W2 W3 : Wk} {Ws : List Wk} {a b e tg it : Expr} {es : List Expr} {pos p p2 q : Pos} {y z : PyData} {i j k : Int} {ds ds1 ds2 ys : List PyData} {st : Stmt} {rest sts body : List Stmt} {P : Post}
theorem ds_for (Iv : Nat → List Sl → Prop) (hp : PassesOwn (model X.prog X.w) X.A X.env X.xe) (hc : X.calm = true) (hi : DI X c ρ tg it ys ρ1) (h0 : Iv 0 ρ1)
    (hs : ∀ c', Le c c' → ∀ (i : Nat) y ρ', Iv i ρ' → ys[i]? = some y → ∃ ρ2, DG X c' ρ' tg y ρ2 ∧ DSs X c' ρ2 body ⟨Iv (i + 1), P.nx, Iv (i + 1), P.rt⟩) (hd : ∀ ρ', Iv ys.length ρ' → P.nx ρ') (hf : ∀ x, foldedSetIterable it X.env x = pure x := by intro _; rfl) :
    DS X c ρ (.For tg it body [] pos) P :=
  PS.imp (ps_for hp hc hi uG.ok uSs.ok hf) fun D σ H ⟨O, E, f⟩ => ⟨O, E, fun J H1 c' s e1 E1 wd => by
    refine ⟨fun i m σ H => m = ys.length - i ∧ i ≤ ys.length ∧ ∃ O ρ', Iv i ρ' ∧ En X.K c' O H σ ρ', ⟨ys.length, by simp, Nat.zero_le _, O, ρ1, h0, E1⟩, ?_⟩
    rintro i m σ' H' ⟨rfl, hi, O', ρ', iv, E'⟩
    by_cases hlt : i < ys.length
    · refine .inr ⟨wd.goes i O' H' σ' ρ' hlt E', fun σ H => i + 1 ≤ ys.length ∧ ∃ O ρ', Iv (i + 1) ρ' ∧ En X.K c' O H σ ρ', fun σ'' H'' ⟨l, q⟩ => ⟨_, by omega, rfl, l, q⟩, fun x H2 yl => ?_⟩
      obtain ⟨s2, y, hy, r⟩ := wd.yields i O' H' σ' ρ' x H2 hlt E' yl
      obtain ⟨ρ2, hg, hb⟩ := hs c' s.le i y ρ' iv hy
      refine ⟨_, hg, O', E'.step s2, r, fun O3 σ3 H3 E3 => ⟨_, hb, O3, E3, ?_⟩⟩
      exact ⟨fun O σ H ρ n E => ⟨hlt, O, ρ, n, E⟩, fun O σ H ρ n E => f.nx O σ H ρ n (s.en E), fun O σ H ρ n E => ⟨hlt, O, ρ, n, E⟩, (f.sub s).rt⟩
    · have e : i = ys.length := by omega
      subst e
      exact .inl ⟨wd.stops O' H' σ' ρ' E', f.nx _ _ _ _ (hd _ iv) (s.en E')⟩⟩
/-! what is walked -/
theorem di_list (h : DE X c ρ it (.d (.list ds)) ρ1) : DI X c ρ tg it ds ρ1 :=
  PI.imp (pi_list h) fun σ H R ⟨O, E, k⟩ => ⟨O, E, fun v H1 e1 E1 v1 => by
    cases v1 with
    | @lst a xs _ s r =>
      refine ⟨a, rfl, ⟨xs, sqL_mono cut_le s⟩, k _ H1 (c.with (.ref a) (.list ds)) (Sub.ghost ..) e1 (E1.ghost (.lst s r)) ⟨fun i O H σ ρ hi E => ?_, fun O H σ ρ E => ?_, fun i O H σ ρ x H' hi E yl => ?_⟩⟩
      · obtain ⟨_, r⟩ := E.unghost
        cases r with
        | @lst _ xs _ s r =>
          obtain ⟨v, hv, _⟩ := r.get (List.getElem?_eq_getElem hi)
          exact ⟨xs, v, sqL_mono cut_le s, hv⟩
      · obtain ⟨_, r⟩ := E.unghost
        cases r with
        | @lst _ xs _ s r => exact ⟨xs, sqL_mono cut_le s, by rw [r.length]; exact Nat.le_refl _⟩
      · obtain ⟨_, r⟩ := E.unghost
        cases r with
        | @lst _ xs _ s r =>
          obtain ⟨rfl, yl⟩ := yl
          refine ⟨Same.refl _, ?_⟩
          exact r.getV (yl xs (sqL_mono cut_le s))⟩
theorem di_tup (h : DE X c ρ it (.d (.tuple ds)) ρ1) : DI X c ρ tg it ds ρ1 :=
  PI.imp (pi_tup h) fun σ H R ⟨O, E, k⟩ => ⟨O, E, fun v H1 e1 E1 v1 => by
    cases v1 with
    | @tup a xs _ s r =>
      refine ⟨a, rfl, ⟨xs, sqT_mono cut_le s⟩, k _ H1 (c.with (.ref a) (.tuple ds)) (Sub.ghost ..) e1 (E1.ghost (.tup s r)) ⟨fun i O H σ ρ hi E => ?_, fun O H σ ρ E => ?_, fun i O H σ ρ x H' hi E yl => ?_⟩⟩
      · obtain ⟨_, r⟩ := E.unghost
        cases r with
        | @tup _ xs _ s r =>
          obtain ⟨v, hv, _⟩ := r.get (List.getElem?_eq_getElem hi)
          exact ⟨xs, v, sqT_mono cut_le s, hv⟩
      · obtain ⟨_, r⟩ := E.unghost
        cases r with
        | @tup _ xs _ s r => exact ⟨xs, sqT_mono cut_le s, by rw [r.length]; exact Nat.le_refl _⟩
      · obtain ⟨_, r⟩ := E.unghost
        cases r with
        | @tup _ xs _ s r =>
          obtain ⟨rfl, yl⟩ := yl
          refine ⟨Same.refl _, ?_⟩
          exact r.getV (yl xs (sqT_mono cut_le s))⟩
theorem walkD_range {K : PySem.W.Frag} {c : Cc} (lo : Int) (n : Nat) : WalkD K c (Itr lo n) (rangeD lo n) :=
  ⟨fun i O H σ ρ hi E => by rw [rangeD_len] at hi; exact hi, fun O H σ ρ E => by show n ≤ _; rw [rangeD_len]; exact Nat.le_refl _, fun i O H σ ρ x H' hi E yl => by
    obtain ⟨rfl, rfl⟩ := yl
    rw [rangeD_len] at hi
    exact ⟨Same.refl _, _, rangeD_at hi, .int _⟩⟩
theorem di_range (hm : X.mg "range" = none) (h : DE X c ρ a (.d (.int j)) ρ1) (hj : -(2 ^ 62) ≤ j ∧ j < 2 ^ 62) (hg : Gl X "range" := by rfl) (hs : starEach [a] X.env = [(false, eval a X.env)] := by rfl) (h1 : starEach [a] X.env = (false, eval a X.env) :: starEach [] X.env := by rfl) :
    DI X c ρ tg (.Call (.Name "range" p) [a] [] pos) (rangeD 0 j.toNat) ρ1 :=
  PI.imp (pi_range1 hg hm (da_cons h da_nil h1) hs) fun σ H R ⟨O, E, k⟩ => ⟨O, E, fun vs H1 e1 E1 v1 => by
    cases v1 with
    | cons a1 b1 =>
      cases b1
      cases a1
      exact ⟨j, rfl, hj.1, hj.2, k _ H1 c (Sub.refl c) e1 E1 (walkD_range 0 _)⟩⟩
theorem di_range2 (hm : X.mg "range" = none) (h : DE X c ρ a (.d (.int i)) ρ1) (h' : DE X c ρ1 b (.d (.int j)) ρ2) (hj : -(2 ^ 62) ≤ i ∧ i < 2 ^ 62 ∧ -(2 ^ 62) ≤ j ∧ j < 2 ^ 62) (hg : Gl X "range" := by rfl) (hs : starEach [a, b] X.env = [(false, eval a X.env), (false, eval b X.env)] := by rfl) (hs2 : starEach [b] X.env = [(false, eval b X.env)] := by rfl)
    (h1 : starEach [a, b] X.env = (false, eval a X.env) :: starEach [b] X.env := by rfl) (h2 : starEach [b] X.env = (false, eval b X.env) :: starEach [] X.env := by rfl) : DI X c ρ tg (.Call (.Name "range" p) [a, b] [] pos) (rangeD i (j - i).toNat) ρ2 :=
  PI.imp (pi_range2 hg hm (da_cons h (da_cons h' da_nil h2) h1) hs hs2) fun σ H R ⟨O, E, k⟩ => ⟨O, E, fun vs H1 e1 E1 v1 => by
    cases v1 with
    | cons a1 b1 =>
      cases b1 with
      | cons a2 b2 =>
        cases b2
        cases a1
        cases a2
        exact ⟨i, j, rfl, hj, k _ H1 c (Sub.refl c) e1 E1 (walkD_range i _)⟩⟩
end
end DL
set_option Elab.async false
set_option linter.all false
set_option maxRecDepth 100000
set_option maxHeartbeats 4000000
namespace DL
open PySem PySem.Spec L2
/-! ### list comprehensions, by data -/
def wipeS (ρ : List Sl) : List Nat → List Sl
  | [] => ρ
  | v :: vs => (wipeS ρ vs).set v .un
theorem wipeS_len (ρ : List Sl) : ∀ vs : List Nat, (wipeS ρ vs).length = ρ.length
  | [] => rfl
  | v :: vs => by unfold wipeS; rw [List.length_set, wipeS_len ρ vs]
theorem wipeS_get {ρ : List Sl} {i : Nat} {s : Sl} : ∀ {vs : List Nat}, (wipeS ρ vs)[i]? = some s → s = .un ∨ (i ∉ vs ∧ ρ[i]? = some s)
  | [], h => .inr ⟨by simp, h⟩
  | v :: vs, h => by
    unfold wipeS at h
    rcases get_set h with ⟨_, e, _⟩ | ⟨n, h⟩
    · exact .inl e
    · rcases wipeS_get h with e | ⟨m, e⟩
      · exact .inl e
      · exact .inr ⟨by simp only [List.mem_cons, not_or]; exact ⟨Ne.symm n, m⟩, e⟩
theorem wipe_out {σ : L2.St} {i : Nat} : ∀ {vs : List Nat}, i ∉ vs → (wipe σ vs)[i]? = σ[i]?
  | [], _ => rfl
  | v :: vs, h => by
    unfold wipe
    have h' : ¬ i = v ∧ i ∉ vs := by simpa using h
    rw [List.getElem?_set_ne (Ne.symm h'.1)]
    exact wipe_out h'.2
theorem En.wiped {K : PySem.W.Frag} {c : Cc} {O : List Addr} {H : Hp} {σ σ' : L2.St} {ρ : List Sl} {vs : List Nat} (E : En K c O H σ ρ) (h : wipe σ' vs = wipe σ vs) : En K c O H σ' (wipeS ρ vs) := by
  have E1 : En K c O H σ (wipeS ρ vs) := E.weak (wipeS_len ρ vs) fun i s hs => by
    rcases wipeS_get hs with e | ⟨_, e⟩
    · exact .inr e
    · exact .inl e
  refine E1.re (by rw [← wipe_length σ' vs, h, wipe_length]) fun i s hs => ?_
  rcases wipeS_get hs with e | ⟨m, e⟩
  · exact .inl e
  · refine .inr ?_
    rw [← wipe_out (σ := σ') m, h, wipe_out m]
theorem wipe_wipe (σ : L2.St) (vs : List Nat) : wipe (wipe σ vs) vs = wipe σ vs := by
  apply List.ext_getElem?
  intro i
  by_cases m : i ∈ vs
  · have a : ∀ (τ : L2.St) (vs : List Nat), i ∈ vs → (wipe τ vs)[i]? = if i < τ.length then some none else none := by
      intro τ vs
      induction vs with
      | nil => intro h; cases h
      | cons v vs ih =>
        intro h
        unfold wipe
        by_cases e : v = i
        · subst e
          by_cases hl : v < τ.length
          · rw [List.getElem?_set_self (by rw [wipe_length]; exact hl), if_pos hl]
          · rw [List.getElem?_eq_none (by rw [List.length_set, wipe_length]; omega), if_neg hl]
        · rw [List.getElem?_set_ne e]
          exact ih (by
            rcases List.mem_cons.mp h with z | z
            · exact absurd z.symm e
            · exact z)
    rw [a _ _ m, a _ _ m, wipe_length]
  · rw [wipe_out m]
/-- a comprehension's target: the slots vs alone are set -/
structure TgOk (K : PySem.W.Frag) (g : TG) (vs : List Nat) (bind : List Sl → PyData → List Sl) (ok : PyData → Prop) : Prop where
  run : ∀ {c : Cc} {O : List Addr} {H : Hp} {σ : L2.St} {ρ : List Sl} {x : V} {y : PyData} {Q : L2.St → Hp → Prop}, En K c O H σ ρ → Rp K (cut H O) x y → ok y → (∀ σ2, wipe σ2 vs = wipe σ vs → En K c O H σ2 (bind ρ y) → Q σ2 H) → g x σ H Q
theorem wipe1 {σ : L2.St} {j : Nat} {x : Option V} : wipe (σ.set j x) [j] = wipe σ [j] := by
  unfold wipe wipe
  rw [List.set_set]
theorem tg_name (K : PySem.W.Frag) (j : Nat) : TgOk K (gName j) [j] (fun ρ y => ρ.set j (.d y)) (fun _ => True) :=
  ⟨fun {c O H σ ρ x y Q} E r _ k => k _ wipe1 (E.set1 (s := .d y) ⟨x, rfl, r⟩ fun _ _ z => Sl.noConfusion z)⟩
theorem tg_pair (K : PySem.W.Frag) (j l : Nat) (hjl : j ≠ l) : TgOk K (gTup K 2 (gCons (gName j) (gCons (gName l) gNil))) [j, l] (fun ρ y => match y with
    | .tuple [a, b] => (ρ.set j (.d a)).set l (.d b)
    | _ => ρ) (fun y => ∃ a b, y = .tuple [a, b]) :=
  ⟨fun {c O H σ ρ x y Q} E r ok k => by
    obtain ⟨a, b, rfl⟩ := ok
    cases r with
    | @tup p xs _ s r =>
      cases r with
      | cons r1 r =>
        cases r with
        | cons r2 r =>
          cases r
          refine ⟨p, _, rfl, sqT_mono cut_le s, rfl, _, _, rfl, _, _, rfl, rfl, k _ ?_ ((E.set1 (s := .d a) ⟨_, rfl, r1⟩ fun _ _ z => Sl.noConfusion z).set1 (s := .d b) ⟨_, rfl, r2⟩ fun _ _ z => Sl.noConfusion z)⟩
          unfold wipe wipe wipe
          rw [List.set_set, List.set_comm _ _ hjl, List.set_set, List.set_comm _ _ (Ne.symm hjl)]⟩
def DTs (X : Cx) (c : Cc) (ρ : List Sl) (ifs : List Expr) (b : Bool) (ρ' : List Sl) : Prop := PTs X ifs (tT X.K c ρ b ρ')
theorem PTs.imp {X : Cx} {ifs : List Expr} {t t' : TT} (h : PTs X ifs t) (i : ∀ σ H R, t' σ H R → t σ H R) : PTs X ifs t' := ⟨fun pins s σ H R I q => h.run pins s σ H R I (i σ H R q)⟩
section
variable {X : Cx} {c : Cc} {ρ ρ1 ρ2 ρ3 : List Sl} {W W1 W2 W3 : Wk} {Ws : List Wk} {a b e tg it elt : Expr} {es ifs : List Expr} {pos p p2 q : Pos} {y z : PyData} {i j k : Int} {ds ds1 ds2 ys out : List PyData} {st : Stmt} {rest sts body : List Stmt} {P : Post}
theorem dts_nil : DTs X c ρ [] true ρ := PTs.imp pts_nil fun σ H Q ⟨O, E, k⟩ => k H Est.refl E
theorem dts_one {b : Bool} (h : DT X c ρ e b ρ1) : DTs X c ρ [e] b ρ1 := pts_one h
/-- in the block -/
abbrev InB (X : Cx) (scope : Scope) (F : Cx → Prop) : Prop := ∀ (s : Shared) (H : Hp) (C : Addr) (cl : List (Str × Addr)) (fp : List Addr), F (X.blk s H scope (compEnvC scope cl C X.env) fp)
def uEb (X : Cx) (scope : Scope) (e : Expr) : TE := fun σ H Q => ∃ t, InB X scope (fun X' => PE X' e t) ∧ t σ H Q
def uTb (X : Cx) (scope : Scope) (ifs : List Expr) : TT := fun σ H Q => ∃ t, InB X scope (fun X' => PTs X' ifs t) ∧ t σ H Q
theorem lc_run {scope : Scope} {g : TG} {vs : List Nat} {bind : List Sl → PyData → List Sl} {ok : PyData → Prop} (T : TgOk X.K g vs bind ok) (Iv : Nat → List PyData → List Sl → Prop) {wi : TI} (hwi : ∀ σ H R, tI X.K c ρ ys ρ1 σ H R → wi σ H R)
    (h0 : Iv 0 [] (wipeS ρ1 vs)) (hs : ∀ c', Le c c' → ∀ (i : Nat) y acc ρ', Iv i acc ρ' → ys[i]? = some y → ok y ∧ ∃ b ρ2, InB X scope (fun X' => DTs X' c' (bind ρ' y) ifs b ρ2) ∧
      (b = true → ∃ z ρ3, InB X scope (fun X' => DE X' c' ρ2 elt (.d z) ρ3) ∧ acc.length < 100000 ∧ Iv (i + 1) (acc ++ [z]) (wipeS ρ3 vs)) ∧ (b = false → Iv (i + 1) acc (wipeS ρ2 vs)))
    (hd : ∀ acc ρ', Iv ys.length acc ρ' → acc = out ∧ wipeS ρ' vs = ρ2) (σ : L2.St) (H : Hp) (Q : VK) (h : tO X.K c ρ (.list out) ρ2 σ H Q) : tLc wi g (uTb X scope ifs) (uEb X scope elt) vs σ H Q := by
  obtain ⟨O, E, k⟩ := h
  refine hwi σ H _ ⟨O, E, fun J H1 c1 sb e1 E1 wd D hD => ?_⟩
  have hDO : D ∉ O := E1.notO hD
  have hL : ∀ q ∈ c1.L, q.1 ≠ D := fun q hq z => hDO (by rw [← z]; exact (E1.fl q hq).1)
  have hD0 : c1.H0 D = none := E1.fr0 hD
  have start : En X.K (c1.air D (.list [])) (D :: O) (upd H1 D (.lst [])) (wipe σ vs) (wipeS ρ1 vs) := by
    obtain ⟨q1, q2, q3⟩ := E1.made (o := .lst []) (z := .list []) hD trivial ⟨[], upd_same, .nil⟩
    refine (q1.wiped (wipe_wipe σ vs)).inAir (List.mem_cons_self ..) hD0 q2 fun j w z h1 h2 => ?_
    rcases wipeS_get h1 with e | ⟨m, e⟩
    · cases e
    · rw [wipe_out m] at h2
      exact q3 j w z e h2
  refine ⟨fun i m H' => m = ys.length - i ∧ i ≤ ys.length ∧ Est (D :: O) (upd H1 D (.lst [])) H' ∧ ∃ acc ρ', Iv i acc ρ' ∧ En X.K (c1.air D (.list acc)) (D :: O) H' (wipe σ vs) ρ', ⟨ys.length, by simp, Nat.zero_le _, Est.refl, [], _, h0, start⟩, ?_⟩
  rintro i m H' ⟨rfl, hi, es, acc, ρ', iv, E'⟩
  by_cases hlt : i < ys.length
  · refine .inr ⟨wd.goes i _ H' _ ρ' hlt E'.down.1, fun H'' => i + 1 ≤ ys.length ∧ Est (D :: O) (upd H1 D (.lst [])) H'' ∧ ∃ acc ρ', Iv (i + 1) acc ρ' ∧ En X.K (c1.air D (.list acc)) (D :: O) H'' (wipe σ vs) ρ', fun H'' ⟨l, q⟩ => ⟨_, by omega, rfl, l, q⟩, fun x H2 yl => ?_⟩
    obtain ⟨s2, y, hy, r⟩ := wd.yields i _ H' _ ρ' x H2 hlt E'.down.1 yl
    obtain ⟨oky, b, ρt, hT, h1, h2⟩ := hs (c1.air D (.list acc)) (sb.le.trans (.air ..)) i y acc ρ' iv hy
    refine T.run (E'.step s2) r oky fun σ2 w2 E2 => ?_
    rw [wipe_wipe] at w2
    refine ⟨w2, tT X.K (c1.air D (.list acc)) (bind ρ' y) b ρt, hT, D :: O, E2, fun H3 e3 E3 => ?_⟩
    have es3 : Est (D :: O) (upd H1 D (.lst [])) H3 := es.trans ((Est.of s2).trans e3)
    cases b with
    | false =>
      refine L2.iteF ?_
      exact ⟨hlt, es3, acc, _, h2 rfl, E3.wiped (by rw [w2, wipe_wipe])⟩
    | true =>
      refine L2.iteT ?_
      obtain ⟨z, ρ3, hE, hl, iv2⟩ := h1 rfl
      refine ⟨tW X.K (c1.air D (.list acc)) ρt (.d z) ρ3, hE, D :: O, E3, fun v H4 e4 E4 v4 => ?_⟩
      obtain ⟨E5, d1, d2, ⟨xs, d3, d4⟩, d5⟩ := E4.down
      refine ⟨xs, d3, by rw [d4.length]; exact Nat.lt_of_lt_of_le hl (by decide), hlt, es3.trans (e4.trans (est_upd d1 d3 trivial)), acc ++ [z], _, iv2, ?_⟩
      have E6 := E5.wiped (vs := vs) (σ' := wipe σ vs) (by rw [w2, wipe_wipe])
      have d6 : ∀ (j : Nat) (w : Bool) (z : PyData), (wipeS ρ3 vs)[j]? = some (.m w z) → (wipe σ vs)[j]? ≠ some (some (.ref D)) := fun j w z g1 g2 => by
        rcases wipeS_get g1 with e | ⟨m, e⟩
        · cases e
        · rw [← w2, wipe_out m] at g2
          exact d5 j w z e g2
      exact (E6.write d1 d2 (o := .lst (xs ++ [v])) trivial hL d6).inAir d1 d2 ⟨_, upd_same, (d4.append (.cons v4 .nil)).mono (est_upd d1 d3 trivial).cut⟩ d6
  · have e : i = ys.length := by omega
    subst e
    refine .inl ⟨wd.stops _ H' _ ρ' E'.down.1, ?_⟩
    obtain ⟨E5, d1, d2, d3, d5⟩ := E'.down
    obtain ⟨rfl, rfl⟩ := hd acc ρ' iv
    have E6 := (sb.en E5).wiped (vs := vs) (σ' := σ) (wipe_wipe σ vs).symm
    refine k D H' ⟨fun b o m h n => ?_, fun b ps h => let ⟨qs, h1⟩ := e1.tb b ps h; es.tb b qs (by rw [upd_ne (ne_of_none h1 hD)]; exact h1)⟩ (E1.back e1 hD) E6 d3 fun j w z g1 g2 => ?_
    · have hb : H1 b = some o := e1.ex b o m h n
      have hbD : b ≠ D := ne_of_none hb hD
      exact es.ex b o (by simp [hbD, m]) (by rw [upd_ne hbD]; exact hb) n
    · rcases wipeS_get g1 with e | ⟨m, e⟩
      · cases e
      · exact d5 j w z e (by rw [wipe_out m]; exact g2)
/-- [elt for x in it], [elt for x in it if t], [elt for a, b in it] -/
theorem do_lc {scope : Scope} {own : List (Str × Nat)} {g : TG} {bind : List Sl → PyData → List Sl} {ok : PyData → Prop} (T : TgOk X.K g (own.map (·.2)) bind ok) (hg : InB X scope (fun X' => PG X' tg g)) (hc : X.calm = true) (hN : X.N.Nodup) (okb : BlkOk X.N X.env.scope scope own) (hi : DI X c ρ tg it ys ρ1)
    (Iv : Nat → List PyData → List Sl → Prop) (h0 : Iv 0 [] (wipeS ρ1 (own.map (·.2)))) (hs : ∀ c', Le c c' → ∀ (i : Nat) y acc ρ', Iv i acc ρ' → ys[i]? = some y → ok y ∧ ∃ b ρ2, InB X scope (fun X' => DTs X' c' (bind ρ' y) ifs b ρ2) ∧
      (b = true → ∃ z ρ3, InB X scope (fun X' => DE X' c' ρ2 elt (.d z) ρ3) ∧ acc.length < 100000 ∧ Iv (i + 1) (acc ++ [z]) (wipeS ρ3 (own.map (·.2)))) ∧ (b = false → Iv (i + 1) acc (wipeS ρ2 (own.map (·.2)))))
    (hd : ∀ acc ρ', Iv ys.length acc ρ' → acc = out ∧ wipeS ρ' (own.map (·.2)) = ρ2) (hf : ∀ x, foldedSetIterable it X.env x = pure x := by intro _; rfl) : DO X c ρ (.ListComp elt [⟨tg, it, ifs, 0⟩] scope pos) (.list out) ρ2 :=
  PE.imp (pe_lc (tt := uTb X scope ifs) (te := uEb X scope elt) hc hN hi okb hg (fun s H C cl fp => ⟨fun pins s' σ H' Q I ⟨_, h, q⟩ => (h s H C cl fp).run pins s' σ H' Q I q⟩) (fun s H C cl fp => ⟨fun pins s' σ H' Q I ⟨_, h, q⟩ => (h s H C cl fp).run pins s' σ H' Q I q⟩) hf)
    fun σ H Q h => lc_run T Iv (fun _ _ _ q => q) h0 hs hd σ H Q h
/-- name = [..] on one line -/
theorem ds_setLc (n : Nat) {x : Str} {py : Pos} {spos : Pos} {scope : Scope} {own : List (Str × Nat)} {g : TG} {bind : List Sl → PyData → List Sl} {ok : PyData → Prop} (T : TgOk X.K g (own.map (·.2)) bind ok) (hg : InB X scope (fun X' => PG X' tg g)) (hc : X.calm = true) (hN : X.N.Nodup) (okb : BlkOk X.N X.env.scope scope own) (hi : DI X c ρ tg it ys ρ1)
    (Iv : Nat → List PyData → List Sl → Prop) (h0 : Iv 0 [] (wipeS ρ1 (own.map (·.2)))) (hs : ∀ c', Le c c' → ∀ (i : Nat) y acc ρ', Iv i acc ρ' → ys[i]? = some y → ok y ∧ ∃ b ρ2, InB X scope (fun X' => DTs X' c' (bind ρ' y) ifs b ρ2) ∧
      (b = true → ∃ z ρ3, InB X scope (fun X' => DE X' c' ρ2 elt (.d z) ρ3) ∧ acc.length < 100000 ∧ Iv (i + 1) (acc ++ [z]) (wipeS ρ3 (own.map (·.2)))) ∧ (b = false → Iv (i + 1) acc (wipeS ρ2 (own.map (·.2)))))
    (hd : ∀ acc ρ', Iv ys.length acc ρ' → acc = out ∧ wipeS ρ' (own.map (·.2)) = ρ2) (h : P.nx (ρ2.set n (.m false (.list out)))) (hsw : swapsWith (.ListComp elt [⟨tg, it, ifs, 0⟩] scope pos) (some (.Name x py)) spos.line X.env = pure true)
    (hy : X.N[n]? = some x := by rfl) (hyl : X.env.scope.names.lookup x = some .local := by rfl) (hf : ∀ x, foldedSetIterable it X.env x = pure x := by intro _; rfl) : DS X c ρ (.Assign [.Name x py] (.ListComp elt [⟨tg, it, ifs, 0⟩] scope pos) spos) P :=
  PS.imp (ps_setLc (tt := uTb X scope ifs) (te := uEb X scope elt) hc hN hy hyl hsw hi okb hg (fun s H C cl fp => ⟨fun pins s' σ H' Q I ⟨_, h, q⟩ => (h s H C cl fp).run pins s' σ H' Q I q⟩) (fun s H C cl fp => ⟨fun pins s' σ H' Q I ⟨_, h, q⟩ => (h s H C cl fp).run pins s' σ H' Q I q⟩) hf)
    fun D σ H ⟨O, E, f⟩ => lc_run T Iv (fun _ _ _ q => q) h0 hs hd σ H _ ⟨O, E, fun p H' e1 hp E1 ho hno =>
      f.nx _ _ H' _ h (E1.setS (s := .m false (.list out)) ⟨p, rfl, List.mem_cons_self .., E.fr0 hp, ho⟩ (fun w y' q' _ hq e => E.notO hp (by cases e; exact (E.fl q' hq).1)) fun w z y' q' j e2 hj h2 h3 => hno j z q' h2 h3)⟩
end
end DL
set_option Elab.async false
set_option linter.all false
set_option maxRecDepth 100000
set_option maxHeartbeats 4000000
namespace DL
open PySem PySem.Spec L2
/-! ### defs and their calls, by data -/
/-- room, and no repr under way -/
structure RoomG (k : Nat) (A : Around) : Prop where
  r : Room k A
  g : A.guards = some []
theorem RoomG.mono {j k : Nat} {A : Around} (r : RoomG k A) (h : j ≤ k) : RoomG j A := ⟨r.r.mono h, r.g⟩
theorem RoomG.deeper {k : Nat} {A : Around} (r : RoomG (k + 1) A) (env : Env) : RoomG k (A.deeper env) := ⟨r.r.deeper env, r.g⟩
theorem RoomG.u {k : Nat} {A : Around} (r : RoomG k A) : A.units + 64 < cLine := r.r.units
/-- as FnOk, where no repr is under way -/
structure FnG (P : Program) (w : World) (K : PySem.W.Frag) (mg : Str → Option Value) (base : Heap) (k : Nat) (f : Addr) (fd : FuncData) (ps : List Str) (sp : Sp) : Prop where
  len : ∀ vs H Q E, sp vs H Q E → vs.length = ps.length
  run : ∀ (A : Around) (outer : List Env) (s : Shared) (H : Hp) (args : Args) (us : List Value) (vs : List V) (Q : VK) (E : XK), RoomG k A → Env0 P w K mg base A outer s H → BindsTo s fd args (ps.zip us) → Vals vs us → sp vs H Q E →
    codeAny (model P w) A (.call (.ref f) args) (CR (L2.CX P w) outer P w H s Q E) s
theorem FnG.mono {P : Program} {w : World} {K : PySem.W.Frag} {mg : Str → Option Value} {base : Heap} {j k : Nat} {f : Addr} {fd : FuncData} {ps : List Str} {sp : Sp} (F : FnG P w K mg base j f fd ps sp) (h : j ≤ k) : FnG P w K mg base k f fd ps sp :=
  ⟨F.len, fun A outer s H args us vs Q E hr => F.run A outer s H args us vs Q E (hr.mono h)⟩
/-- what a body's context hangs on -/
structure Bd where
  f : Addr
  cd : Value
  A : Around
  outer : List Env
  s : Shared
  H : Hp
  E : XK
abbrev Bd.X (B : Bd) (P : Program) (w : World) (K : PySem.W.Frag) (mg : Str → Option Value) (base : Heap) (N : List Str) (qual : Str) (scope : Scope) : Cx := (cxOf (L2.CX P w) P w K mg base N qual scope B.f B.cd B.A B.outer B.s B.H B.E).nox
section
variable {P : Program} {w : World} {K : PySem.W.Frag} {mg : Str → Option Value} {base : Heap} {N ps : List Str} {k : Nat} {f : Addr} {fd : FuncData} {x qual : Str} {params : Arguments} {body : List Stmt} {scope : Scope} {dvs : List V} {kws : List (Str × V)} {sp : Sp}
/-- a def by its body -/
theorem FnG.of (F : FunD K x qual params body scope dvs kws f fd) (S : FnScope N ps scope) (len : ∀ vs H Q E, sp vs H Q E → vs.length = ps.length)
    (hb : ∀ (B : Bd) (vs : List V) (Q : VK), B.cd = fd.code → RoomG k (B.X P w K mg base N qual scope).A → sp vs B.H Q B.E → ∃ t, PSs (B.X P w K mg base N qual scope) body t ∧ t { nx := fun _ H' => Q .non H', rt := Q } (L2.start N vs) B.H) : FnG P w K mg base (k + 1) f fd ps sp := by
  obtain ⟨oc, od, dV, kV, doc, pm, an, cdv, ct, osl, rfl, lk, hcd, _, _⟩ := F.ex
  refine ⟨len, fun A outer s H args us vs Q E hr e0 hbd r hsp => ?_⟩
  have lenV := len vs H Q E hsp
  have KX : K.In s.heap := e0.mod.kin.keeps fun b o e => (e0.bs b o e).1
  have lim : s.heap.NoLimit := e0.mod.nolimit.keeps fun b o e => (e0.bs b o e).1
  refine codeAny_call_function hr.r.depth (KX f _ lk) rfl S.co S.gen rfl (PySem.W.codeRec_of KX hcd) (hbd _ _ _ _ ?_)
  refine wpAny_newFunctionEnv_cells S.kind (fun q hq => ?_) fun env he s1 ic => ?_
  · obtain ⟨n, v⟩ := q
    exact (S.par n (List.of_mem_zip hq).1).elim .inl fun z => .inr ⟨z, PySem.W.cellsFrom_some _ _ _ (.inl z)⟩
  subst he
  refine ⟨lim.keeps ic.toInCall.keep, codeAny_func ?_⟩
  obtain ⟨t, ht, hq⟩ := hb ⟨f, cdv, A, outer, s, H, E⟩ vs Q rfl (hr.deeper _) hsp
  have I := inv_start (CX := L2.CX P w) (E := E) (qual := qual) (f := f) (cd := cdv) S hr.r.hd e0 lenV r ic
  refine wpAny_mono (ht.nox.run [] s1 (L2.start N vs) H _ I hq) (fun fl s' hs => ?_) fun e s' hs => hs
  cases fl with
  | ret u =>
    obtain ⟨v, σ', H', J, rv, q⟩ := hs
    exact ⟨v, H', J.os, J.bare, J.base, J.hok, rv, q⟩
  | next =>
    obtain ⟨σ', H', J, q⟩ := hs
    exact ⟨V.non, H', J.os, J.bare, J.base, J.hok, rfl, q⟩
  | brk => exact (hs.choose_spec.choose_spec.2).elim
  | cont => exact (hs.choose_spec.choose_spec.2).elim
end
/-! promises -/
inductive Ar where
  | d (y : PyData) | v (x : V)
abbrev Ar.sl : Ar → Sl
  | .d y => .d y
  | .v x => .v x
def AOk (K : PySem.W.Frag) (O : List Addr) (H : Hp) (v : V) : Ar → Prop
  | .d y => Rp K (cut H O) v y
  | .v x => v = x
def spF (T : List (Addr × Str)) (K : PySem.W.Frag) (R : List Ar → Re → Prop) : Sp := fun vs H Q _ => ∃ O as r, (∀ b ∈ O, ∃ o, H b = some o ∧ Mu o) ∧ LamX.Tabs T H ∧ Paired (fun v a => AOk K O H v a) vs as ∧ R as r ∧ ∀ v H', Kq H H' → LamX.Tabs T H' → ROk K O H H' v r → Q v H'
def spB (T : List (Addr × Str)) (K : PySem.W.Frag) (R : PyData → List Ar → Re → PyData → Prop) : Sp := fun vs H Q _ => ∃ O a us z as r z', vs = .ref a :: us ∧ a ∈ O ∧ (∀ b ∈ O, ∃ o, H b = some o ∧ Mu o) ∧ LamX.Tabs T H ∧ Ow K (cut H O) H a z ∧
  Paired (fun v a => AOk K O H v a) us as ∧ R z as r z' ∧ ∀ v H', (∀ b o, b ≠ a → H b = some o → Nt o → H' b = some o) → (∀ b ps, H b = some (.tbl ps) → ∃ qs, H' b = some (.tbl qs)) → LamX.Tabs T H' → Ow K (cut H' O) H' a z' → ROk K O H H' v r → Q v H'
abbrev startS (N : List Str) (as : List Sl) : List Sl := as ++ List.replicate (N.length - as.length) .un
def retP (r : Re) : Post := ⟨fun _ => r = .d .none, fun _ => False, fun _ => False, fun r' _ => r' = r⟩
def retB (r : Re) (z : PyData) : Post := ⟨fun ρ => r = .d .none ∧ ρ[0]? = some (.m true z), fun _ => False, fun _ => False, fun r' ρ => r' = r ∧ ρ[0]? = some (.m true z)⟩
theorem pair_get {α β : Type} {F : α → β → Prop} : ∀ {l₁ : List α} {l₂ : List β} {i : Nat} {b : β}, Paired F l₁ l₂ → l₂[i]? = some b → ∃ a, l₁[i]? = some a ∧ F a b
  | _, _, _, _, .nil, h => by simp at h
  | _, _, 0, _, .cons r _, h => by
    simp at h
    subst h
    exact ⟨_, rfl, r⟩
  | _, _, i + 1, _, .cons _ t, h => by
    obtain ⟨a, h1, h2⟩ := pair_get (i := i) t (by simpa using h)
    exact ⟨a, by simpa using h1, h2⟩
theorem en_start {K : PySem.W.Frag} {c : Cc} {O : List Addr} {H : Hp} {N : List Str} {vs : List V} {ss : List Sl} (h0 : c.H0 = H) (hO : c.O0 = O) (hG : c.G = []) (hL : c.L = []) (hB : ∀ b, c.B = some b → b ∈ O) (mu : ∀ b ∈ O, ∃ o, H b = some o ∧ Mu o) (t : LamX.Tabs c.T H)
    (hl : Paired (fun v s => SlOk K c O H (some v) s) vs ss) (one : ∀ (i j : Nat) (w z : Bool) (p q : PyData), ss[i]? = some (.m w p) → ss[j]? = some (.m z q) → i = j) : En K c O H (L2.start N vs) (startS N ss) := by
  have len := Paired.length hl
  have inS : ∀ {i : Nat} {s : Sl}, (startS N ss)[i]? = some s → (ss[i]? = some s) ∨ (s = .un ∧ vs.length ≤ i) := fun {i s} h => by
    by_cases hi : i < ss.length
    · rw [List.getElem?_append_left hi] at h
      exact .inl h
    · rw [List.getElem?_append_right (by omega), List.getElem?_replicate] at h
      split at h
      · exact .inr ⟨(Option.some.inj h).symm, by omega⟩
      · cases h
  have ll : (L2.start N vs).length = (startS N ss).length := by
    unfold L2.start
    rw [List.length_append, List.length_append, List.length_map, List.length_replicate, List.length_replicate, len]
  refine ⟨(fun b o _ h _ => by rw [← h0]; exact h), (fun b ps h => ⟨ps, by rw [← h0]; exact h⟩), t, fun b h => ⟨hB b h, ?_⟩, fun b h => ?_, (fun q h => by rw [hG] at h; cases h), (fun q h => by rw [hL] at h; cases h), mu, ll, fun i s h => ?_, fun i j w z p q a h1 h2 _ _ => ?_⟩
  · obtain ⟨o, e, _⟩ := mu b (hB b h)
    rw [h0, e]
    simp
  · rw [hO] at h
    obtain ⟨o, e, _⟩ := mu b h
    rw [h0, e]
    exact ⟨h, by simp⟩
  · rcases inS h with g | ⟨rfl, g⟩
    · obtain ⟨v, g1, g2⟩ := pair_get hl g
      refine ⟨some v, ?_, g2⟩
      unfold L2.start
      rw [List.getElem?_append_left (by rw [List.length_map]; exact lt_of_get g1), List.getElem?_map, g1]
      rfl
    · have hi : i < (L2.start N vs).length := by rw [ll]; exact lt_of_get h
      exact ⟨(L2.start N vs)[i], List.getElem?_eq_getElem hi, trivial⟩
  · rcases inS h1 with g1 | ⟨g1, _⟩
    · rcases inS h2 with g2 | ⟨g2, _⟩
      · exact one i j w z p q g1 g2
      · cases g2
    · cases g1
theorem ars_map {K : PySem.W.Frag} {c : Cc} {O : List Addr} {H : Hp} : ∀ {vs : List V} {as : List Ar}, Paired (fun v a => AOk K O H v a) vs as → Paired (fun v s => SlOk K c O H (some v) s) vs (as.map Ar.sl)
  | _, _, .nil => .nil
  | _, _, .cons (b := .d y) r t => .cons ⟨_, rfl, r⟩ (ars_map t)
  | _, _, .cons (b := .v x) r t => .cons (by cases r; rfl) (ars_map t)
theorem sl_none : ∀ {as : List Ar} {i : Nat} {w : Bool} {p : PyData}, (as.map Ar.sl)[i]? = some (.m w p) → False := fun {as i w p} h => by
  rw [List.getElem?_map] at h
  cases e : as[i]? with
  | none => rw [e] at h; cases h
  | some a => rw [e] at h; cases a <;> cases h
section
variable {P : Program} {w : World} {K : PySem.W.Frag} {mg : Str → Option Value} {base : Heap} {N ps : List Str} {k : Nat} {f : Addr} {fd : FuncData} {x qual : Str} {params : Arguments} {body : List Stmt} {scope : Scope} {dvs : List V} {kws : List (Str × V)} {T : List (Addr × Str)}
theorem FnG.mkFc {R : List Ar → Re → Prop} (F : FunD K x qual params body scope dvs kws f fd) (S : FnScope N ps scope) (hl : ∀ as r, R as r → as.length = ps.length)
    (hb : ∀ (B : Bd) (c : Cc) as r, B.cd = fd.code → c.T = T → RoomG k (B.X P w K mg base N qual scope).A → R as r → DSs (B.X P w K mg base N qual scope) c (startS N (as.map Ar.sl)) body (retP r)) : FnG P w K mg base (k + 1) f fd ps (spF T K R) := by
  refine FnG.of F S (fun vs H Q E ⟨O, as, r, _, _, h, hR, _⟩ => (Paired.length h).trans (hl as r hR)) fun B vs Q hcd hr ⟨O, as, r, mu, t, ha, hR, q⟩ => ?_
  refine ⟨_, hb B ⟨none, O, B.H, [], [], T⟩ as r hcd rfl hr hR, O, en_start rfl rfl rfl rfl (fun _ z => by cases z) mu t (ars_map ha) fun i j w z p q h1 _ => (sl_none h1).elim, ?_⟩
  have fin : ∀ O' (σ : L2.St) H' ρ, En K ⟨none, O, B.H, [], [], T⟩ O' H' σ ρ → Kq B.H H' := fun O' σ H' ρ E => ⟨fun b o h n => E.fm b o (fun z => by cases z) h n, E.tk⟩
  exact ⟨fun O' σ H' ρ e E => q .non H' (fin _ _ _ _ E) E.tb (by subst e; exact Rp.non), fun _ _ _ _ z => z.elim, fun _ _ _ _ z => z.elim, fun r' O' σ H' ρ v e E rk => q v H' (fin _ _ _ _ E) E.tb (by subst e; exact rk)⟩
theorem FnG.mkF {R : List Ar → Re → Prop} (F : FunD K x qual params body scope dvs kws f fd) (S : FnScope N ps scope) (hl : ∀ as r, R as r → as.length = ps.length)
    (hb : ∀ (B : Bd) (c : Cc) as r, c.T = T → RoomG k (B.X P w K mg base N qual scope).A → R as r → DSs (B.X P w K mg base N qual scope) c (startS N (as.map Ar.sl)) body (retP r)) : FnG P w K mg base (k + 1) f fd ps (spF T K R) :=
  FnG.mkFc F S hl fun B c as r _ => hb B c as r
theorem FnG.mkB {R : PyData → List Ar → Re → PyData → Prop} (F : FunD K x qual params body scope dvs kws f fd) (S : FnScope N ps scope) (hl : ∀ z as r z', R z as r z' → as.length + 1 = ps.length)
    (hb : ∀ (B : Bd) (c : Cc) z as r z', c.T = T → RoomG k (B.X P w K mg base N qual scope).A → R z as r z' → DSs (B.X P w K mg base N qual scope) c (startS N (.m true z :: as.map Ar.sl)) body (retB r z')) : FnG P w K mg base (k + 1) f fd ps (spB T K R) := by
  refine FnG.of F S (fun vs H Q E ⟨O, a, us, z, as, r, z', e, _, _, _, _, h, hR, _⟩ => by rw [e, List.length_cons, Paired.length h]; exact hl z as r z' hR) fun B vs Q _ hr ⟨O, a, us, z, as, r, z', e, haO, mu, t, ho, ha, hR, q⟩ => ?_
  subst e
  refine ⟨_, hb B ⟨some a, O, B.H, [], [], T⟩ z as r z' rfl hr hR, O, en_start rfl rfl rfl rfl (fun b z => by cases z; exact haO) mu t (.cons ⟨a, rfl, haO, rfl, ho⟩ (ars_map ha)) (fun i j w z p q h1 h2 => ?_), ?_⟩
  · cases i with
    | succ i => exact (sl_none (as := as) (i := i) (by simpa using h1)).elim
    | zero =>
      cases j with
      | zero => rfl
      | succ j => exact (sl_none (as := as) (i := j) (by simpa using h2)).elim
  have fin : ∀ O' (σ : L2.St) H' ρ (v : V), En K ⟨some a, O, B.H, [], [], T⟩ O' H' σ ρ → ρ[0]? = some (.m true z') → ROk K O B.H H' v r → Q v H' := fun O' σ H' ρ v E h0 rk => by
    obtain ⟨x, h1, a', h2, h3, h4, h5⟩ := E.sl 0 _ h0
    cases h4
    exact q v H' (fun b o hb h n => E.fm b o (fun z => hb (by cases z; rfl)) h n) E.tk E.tb (h5.mono (cut_sub fun b hb => (E.sub b hb).1) fun o q _ => q) rk
  exact ⟨fun O' σ H' ρ e E => fin _ _ _ _ _ E e.2 (by rw [e.1]; exact Rp.non), fun _ _ _ _ z => z.elim, fun _ _ _ _ z => z.elim, fun r' O' σ H' ρ v e E rk => fin _ _ _ _ _ E e.2 (by rw [← e.1]; exact rk)⟩
end
/-! calls -/
section
variable {X : Cx} {k : Nat} {f : Addr} {fd : FuncData} {ps : List Str} {sp : Sp} {dvs : List V} {dsv : List Value} {x : Str} {p pos : Pos} {e : Expr} {es : List Expr} {t : TA}
theorem FnG.ends {pins : List (Addr × Obj)} {σ : L2.St} {H : Hp} {s s' : Shared} {Q : VK} {r : Result} (I : Inv X pins σ H s) (h : CR (L2.CX X.prog X.w) X.stack X.prog X.w H s Q E0 r s') :
    match r with
    | .ok (.ret u) => EP X pins σ Q u s'
    | .ok _ => False
    | .error e => X.xe e s' := by
  cases r with
  | error u => exact passL pins σ H s u s' I h
  | ok fl =>
    cases fl with
    | ret u => exact I.after h
    | next => exact h
    | brk => exact h
    | cont => exact h
theorem run_G {pins : List (Addr × Obj)} {σ : L2.St} {H : Hp} {s : Shared} {Q : VK} {us : List Value} {vs : List V} {args : Args} (F : FnG X.prog X.w X.K X.mg X.base k f fd ps sp) (hr : RoomG k X.A) (I : Inv X pins σ H s) (hb : BindsTo s fd args (ps.zip us)) (r : Vals vs us) (h : sp vs H Q E0) :
    wpAny (model X.prog X.w) X.A (call (.ref f) args.pos args.kw) (EP X pins σ Q) X.xe s := by
  refine wpAny_call (codeAny_mono (F.run X.A X.stack s H args us vs Q E0 hr I.env0 hb r h) fun r s' hq => ?_)
  have q := FnG.ends I hq
  cases r with
  | error u => exact q
  | ok fl => cases fl <;> exact q
theorem pe_callG (F : FnG X.prog X.w X.K X.mg X.base k f fd ps sp) (hr : RoomG k X.A) (hg : Gl X x) (hm : X.mg x = some (.ref f)) (hk : PySem.W.keepIn X.K (.ref f) = true) (hb : Binds X.K fd ps dsv) (hd : Vals dvs dsv) (ha : PA X (e :: es) t) (hdb : (x == ("__debug__" : Str)) = false := by decide)
    (he : starEach (e :: es) X.env = (false, eval e X.env) :: starEach es X.env := by rfl) (hpl : (backTo pos (starEach es X.env)).any (·.1) = false := by rfl) : PE X (.Call (.Name x p) (e :: es) [] pos) (tCall sp dvs E0 t) := ⟨fun pins s σ H Q I h =>
  wpAny_Call_Name_kw (ld_glob I hg hm (PySem.W.callWith_K (h₀ := X.base) I.ok.mod.kin hk (thn (ha.run pos pins s σ H _ I h) fun us s1 ⟨vs, H1, I1, r, q⟩ => ⟨I1.kIn, by
    have r2 : Vals (vs ++ dvs) (us ++ dsv) := r.append hd
    exact run_G (args := ⟨us, []⟩) F hr I1 (hb s1 us I1.kIn (by rw [← r2.length]; exact F.len _ _ _ _ q)) r2 q⟩) he hpl) hdb)⟩
end
def ars : List Wk → Option (List Ar)
  | [] => some []
  | .d y :: r => (ars r).map (.d y :: ·)
  | .l ds :: r => (ars r).map (.d (.list ds) :: ·)
  | .v x :: r => (ars r).map (.v x :: ·)
  | .n _ :: _ => none
theorem ars_ok {K : PySem.W.Frag} {O : List Addr} {σ : L2.St} {H : Hp} : ∀ {vs : List V} {Ws : List Wk} {as : List Ar}, ars Ws = some as → VsOk K O σ H vs Ws → Paired (fun v a => AOk K O H v a) vs as
  | _, [], _, e, h => by
    cases h
    cases e
    exact .nil
  | _, .d y :: r, as, e, h => by
    cases h with
    | cons h1 h2 =>
      have e' : (ars r).map (.d y :: ·) = some as := e
      cases q : ars r with
      | none => rw [q] at e'; cases e'
      | some l =>
        rw [q] at e'
        cases e'
        exact .cons h1 (ars_ok q h2)
  | _, .v y :: r, as, e, h => by
    cases h with
    | cons h1 h2 =>
      have e' : (ars r).map (.v y :: ·) = some as := e
      cases q : ars r with
      | none => rw [q] at e'; cases e'
      | some l =>
        rw [q] at e'
        cases e'
        exact .cons h1 (ars_ok q h2)
  | _, .l y :: r, as, e, h => by
    cases h with
    | cons h1 h2 =>
      have e' : (ars r).map (.d (.list y) :: ·) = some as := e
      cases q : ars r with
      | none => rw [q] at e'; cases e'
      | some l =>
        rw [q] at e'
        cases e'
        obtain ⟨a, xs, rfl, g2, g3, g4⟩ := h1
        exact .cons (.lst (SqL.of (by rw [cut_out g2]; exact g3)) g4) (ars_ok q h2)
  | _, .n _ :: _, _, e, _ => by cases e
theorem pair_app {α β : Type} {F : α → β → Prop} : ∀ {l₁ l₃ : List α} {l₂ l₄ : List β}, Paired F l₁ l₂ → Paired F l₃ l₄ → Paired F (l₁ ++ l₃) (l₂ ++ l₄)
  | _, _, _, _, .nil, s => s
  | _, _, _, _, .cons r t, s => .cons r (pair_app t s)
section
variable {X : Cx} {c : Cc} {ρ ρ1 ρ2 ρ3 : List Sl} {Ws : List Wk} {as das : List Ar} {k : Nat} {f : Addr} {fd : FuncData} {ps : List Str} {dvs : List V} {dsv : List Value} {x : Str} {p pos : Pos} {e : Expr} {es : List Expr} {y z z' : PyData} {T : List (Addr × Str)}
/-- f(e, ..), defaults behind: data -/
theorem de_callD {R : List Ar → Re → Prop} (F : FnG X.prog X.w X.K X.mg X.base k f fd ps (spF T X.K R)) (hr : RoomG k X.A) (hm : X.mg x = some (.ref f)) (hk : PySem.W.keepIn X.K (.ref f) = true) (hb : Binds X.K fd ps dsv) (hd : Vals dvs dsv) (hdd : ∀ O H, Paired (fun v a => AOk X.K O H v a) dvs das)
    (hT : c.T = T) (ha : DA X c ρ (e :: es) Ws ρ1) (hw : ars Ws = some as) (hR : R (as ++ das) (.d y)) (hg : Gl X x := by rfl) (hdb : (x == ("__debug__" : Str)) = false := by decide) (he : starEach (e :: es) X.env = (false, eval e X.env) :: starEach es X.env := by rfl) (hpl : (backTo pos (starEach es X.env)).any (·.1) = false := by rfl) :
    DE X c ρ (.Call (.Name x p) (e :: es) [] pos) (.d y) ρ1 :=
  PE.imp (pe_callG F hr hg hm hk hb hd ha hdb he hpl) fun σ H Q ⟨O, E, kk⟩ => ⟨O, E, fun vs H1 e1 E1 v1 => ⟨O, _, _, E1.mu, by rw [← hT]; exact E1.tb, pair_app (ars_ok hw v1) (hdd O H1), hR, fun v H2 q t rk => kk v H2 (e1.trans (Est.ofQ q)) (E1.stepQ q (by rw [hT]; exact t)) rk⟩⟩
theorem de_call {R : List Ar → Re → Prop} (F : FnG X.prog X.w X.K X.mg X.base k f fd ps (spF T X.K R)) (hr : RoomG k X.A) (hm : X.mg x = some (.ref f)) (hk : PySem.W.keepIn X.K (.ref f) = true) (hb : Binds X.K fd ps []) (hT : c.T = T) (ha : DA X c ρ (e :: es) Ws ρ1) (hw : ars Ws = some as) (hR : R as (.d y))
    (hg : Gl X x := by rfl) (hdb : (x == ("__debug__" : Str)) = false := by decide) (he : starEach (e :: es) X.env = (false, eval e X.env) :: starEach es X.env := by rfl) (hpl : (backTo pos (starEach es X.env)).any (·.1) = false := by rfl) :
    DE X c ρ (.Call (.Name x p) (e :: es) [] pos) (.d y) ρ1 := de_callD (das := []) F hr hm hk hb .nil (fun _ _ => .nil) hT ha hw (by rw [List.append_nil]; exact hR) hg hdb he hpl
/-- a new list -/
theorem do_call {R : List Ar → Re → Prop} (F : FnG X.prog X.w X.K X.mg X.base k f fd ps (spF T X.K R)) (hr : RoomG k X.A) (hm : X.mg x = some (.ref f)) (hk : PySem.W.keepIn X.K (.ref f) = true) (hb : Binds X.K fd ps []) (hT : c.T = T) (ha : DA X c ρ (e :: es) Ws ρ1) (hw : ars Ws = some as) (hR : R as (.o y))
    (hg : Gl X x := by rfl) (hdb : (x == ("__debug__" : Str)) = false := by decide) (he : starEach (e :: es) X.env = (false, eval e X.env) :: starEach es X.env := by rfl) (hpl : (backTo pos (starEach es X.env)).any (·.1) = false := by rfl) :
    DO X c ρ (.Call (.Name x p) (e :: es) [] pos) y ρ1 :=
  PE.imp (pe_callG F hr hg hm hk hb .nil ha hdb he hpl) fun σ H Q ⟨O, E, kk⟩ => ⟨O, E, fun vs H1 e1 E1 v1 => ⟨O, _, _, E1.mu, by rw [← hT]; exact E1.tb, by rw [List.append_nil]; exact ars_ok hw v1, hR, fun v H2 q t rk => by
    obtain ⟨a, rfl, hp, ho⟩ := rk
    refine kk a H2 (e1.trans (Est.ofQ q)) (E1.back e1 hp) (E1.ownQ q (by rw [hT]; exact t) hp ho.there) ho fun j w z h1 h2 => ?_
    obtain ⟨b, e4, h5, _⟩ := E1.mine h1 h2
    cases e4
    exact E1.notO hp h5⟩⟩
/-- f(xs, e, ..): xs the list in slot n, which f changes -/
theorem de_callB' {R : PyData → List Ar → Re → PyData → Prop} (n : Nat) {w : Bool} (F : FnG X.prog X.w X.K X.mg X.base k f fd ps (spB T X.K R)) (hr : RoomG k X.A) (hm : X.mg x = some (.ref f)) (hk : PySem.W.keepIn X.K (.ref f) = true) (hb : Binds X.K fd ps []) (hT : c.T = T) (ha : DA X c ρ (e :: es) (.n n :: Ws) ρ1) (hn : ρ1[n]? = some (.m w z)) (hw : ars Ws = some as) (hR : R z as (.d y) z')
    (hg : Gl X x := by rfl) (hdb : (x == ("__debug__" : Str)) = false := by decide) (he : starEach (e :: es) X.env = (false, eval e X.env) :: starEach es X.env := by rfl) (hpl : (backTo pos (starEach es X.env)).any (·.1) = false := by rfl) :
    DE X c ρ (.Call (.Name x p) (e :: es) [] pos) (.d y) (ρ1.set n (.m w z')) :=
  PE.imp (pe_callG F hr hg hm hk hb .nil ha hdb he hpl) fun σ H Q ⟨O, E, kk⟩ => ⟨O, E, fun vs H1 e1 E1 v1 => by
    cases v1 with
    | cons a1 a2 =>
      obtain ⟨a, rfl, q2, q3, q4⟩ := E1.mine hn a1
      refine ⟨O, a, _, z, as, _, z', by rw [List.append_nil], q2, E1.mu, by rw [← hT]; exact E1.tb, q4, ars_ok hw a2, hR, fun v H2 h1 h2 t ho rk => ?_⟩
      exact kk v H2 (e1.trans ⟨fun b o m h n => h1 b o (fun z => m (by rw [z]; exact q2)) h n, h2⟩) (E1.changeQ hn a1 h1 h2 (by rw [hT]; exact t) ho) rk⟩
end
end DL
set_option Elab.async false
set_option linter.all false
set_option maxRecDepth 100000
set_option maxHeartbeats 4000000
namespace DL
open PySem PySem.Spec L2 PyProof.Rows
/-! ### enumerate over a tuple -/
set_option maxHeartbeats 4000000 in
theorem meets_enum1 {v : Value} {o : Obj} {H : Heap → Prop} (B : Begins v o H) :
    Meets (Builtin.«enumerate.__new__» ⟨[.type "enumerate", v], []⟩) (fun _ R s => H s.heap ∧
      R (.ok (.ret (.ref (s.heap.push o).objs.size))) { s with heap := (s.heap.push o).push { cls := .type "enumerate", data := .fields #[.none, .bool false, .ref s.heap.objs.size, rawInt 0, .none, .none] } }) :=
  .of_wp fun prog w A R s h => by
    obtain ⟨hp, g, d, tk, os⟩ := s
    obtain ⟨h1, h⟩ := h
    have hsub := sub_enumerate
    have q1 : ∀ {A' : Around} {E : Value → Shared → Prop} {Q : Value → Shared → Prop}, Q (.ref hp.objs.size) ⟨hp.push o, g, d, tk, os⟩ → wpAny (model prog w) A' (pyIter v) Q E ⟨hp, g, d, tk, os⟩ :=
      fun q => B.iter prog w _ _ ⟨hp, g, d, tk, os⟩ _ h1 q
    wp_walk using q1
    refine wpAny_stack_any fun st => wpAny_pure ?_
    split
    · rename_i c _ _ _ _ _
      cases (c == Value.type "enumerate")
      · wp_walk using q1
        exact ⟨_, rfl, h⟩
      · wp_walk using q1
        exact ⟨_, rfl, h⟩
    · wp_walk using q1
      exact ⟨_, rfl, h⟩
theorem call_enumT {prog : Program} {w : World} {A : Around} {E : Value → Shared → Prop} {s : Shared} {l : Addr} {items : Array Value} {Q : Value → Shared → Prop} (hL : s.heap.IsTuple l items)
    (h : ∀ h', IsEnum h' (s.heap.objs.size + 1) s.heap.objs.size 0 .none → h'.IsTupleIter s.heap.objs.size l 0 → h'.objs.size = s.heap.objs.size + 2 →
      (∀ b o, s.heap.get? b = some o → h'.get? b = some o) → Q (.ref (s.heap.objs.size + 1)) { s with heap := h' }) :
    wpAny (model prog w) A (call (.type "enumerate") [.ref l]) Q E s := by
  refine callType_new F.called_enumerate (by decide) (F.typeCall_enumerate_1 _) (F.newCall_enumerate_1 _) (fun obj => F.args_object_init_2 obj _) F.entry_enumerate_new
    (meets_enum1 (begins_tuple l items)) ⟨hL, ?_⟩
  have hz : (s.heap.push { cls := .type "tuple_iterator", data := .fields #[.ref l, .int 0 0] }).objs.size = s.heap.objs.size + 1 := Heap.size_push ..
  show _ ∧ _
  rw [hz]
  have he : IsEnum ((s.heap.push { cls := .type "tuple_iterator", data := .fields #[.ref l, .int 0 0] }).push
      { cls := .type "enumerate", data := .fields #[.none, .bool false, .ref s.heap.objs.size, rawInt 0, .none, .none] }) (s.heap.objs.size + 1) s.heap.objs.size 0 .none := by
    have := Heap.get?_push_size (s.heap.push { cls := .type "tuple_iterator", data := .fields #[.ref l, .int 0 0] })
      (o := { cls := .type "enumerate", data := .fields #[.none, .bool false, .ref s.heap.objs.size, rawInt 0, .none, .none] }) rfl
    rw [hz] at this; exact this
  refine ⟨⟨_, he, rfl⟩, h _ he ⟨_, Heap.get?_push_of_some _ (Heap.get?_push_size _ rfl), rfl, rfl⟩ (by rw [Heap.size_push, hz]) fun b o x => Heap.get?_push_of_some _ (Heap.get?_push_of_some _ x)⟩
theorem pyNext_enumT_end {prog : Program} {w : World} {A : Around} {E : Value → Shared → Prop} {s : Shared} {e it l : Addr} {i : Nat} {items : Array Value} {old : Value} {Q : Option Value → Shared → Prop} (hh : A.handled = none)
    (he : IsEnum s.heap e it i old) (hit : s.heap.IsTupleIter it l i) (hl : s.heap.IsTuple l items) (hx : items[i]? = none)
    (hQ : ∀ h', Heap.ExtBut it s.heap h' → Q none { s with heap := h' }) : wpAny (model prog w) A (pyNext (.ref e)) Q E s := by
  have hT : s.TypeIs (.ref e) "enumerate" := ⟨_, he, rfl⟩
  unfold pyNext
  refine wpAny_bind (wpAny_attempt (wpAny_callSpecial?_slot (name := Str.ofString "__next__") hT F.slot_enumerate_next
    (wpAny_call_entry F.slot_enumerate_next hT F.entry_enumerate_next ?_ (F.args_enumerate_next_1 _))))
  show wpAny _ _ (field (.ref e) 2 >>= _) _ _ _
  refine wpAny_bind (wpAny_field he rfl (x := .ref it) rfl ?_)
  refine wpAny_bind (wpAny_nextOf_tuple_end hh hit hl hx fun h' x he' hx' => ?_)
  obtain ⟨o, ho, hc⟩ := hx'
  refine wpAny_bind (wpAny_isInstance (T := "StopIteration") (b := true) ⟨o, ho, hc⟩ isSubtype_stop ?_)
  exact wpAny_pure (hQ _ he')
/-- the tuple at a as it stands at each turn, each item in a new pair -/
def IteT (K : PySem.W.Frag) (a : Addr) : It :=
  ⟨fun i H => ∃ (xs : List V) (x : V), SqT K H a xs ∧ xs[i]? = some x, fun i H v H' => ∃ T x, v = .ref T ∧ H T = none ∧ H' = upd H T (.tup [.int (i : Nat), x]) ∧ ∀ xs, SqT K H a xs → xs[i]? = some x, fun i H => ∃ xs : List V, SqT K H a xs ∧ xs.length ≤ i⟩
theorem tupIter_lt {h : Heap} {it a : Addr} {i : Nat} (q : h.IsTupleIter it a i) : it < h.objs.size := by
  obtain ⟨_, q, _⟩ := q
  exact Heap.lt_size q
theorem turn_enumT {P : Program} {w : World} {K : PySem.W.Frag} {elts : List Expr} {kk : Nat} {tpos : Pos} (a e it : Addr) :
    Turn P w K (.Tuple elts kk tpos) (IteT K a) [e, it] e (fun i h => (∃ old, IsEnum h e it ((i : Nat) : Int) old) ∧ h.IsTupleIter it a i ∧ e ≠ it ∧ a ≠ it ∧ e ≠ a) where
  mem := by simp
  obj := fun i h st b hb => by
    obtain ⟨⟨old, he⟩, ⟨o, ho, hc, hd⟩, _⟩ := st
    have e' : b = e ∨ b = it := by simpa using hb
    rcases e' with z | z
    · rw [z]; exact ⟨_, he, fun v q => nomatch q⟩
    · rw [z]; exact ⟨o, ho, fun v q => by rw [hd] at q; cases q⟩
  keep := fun i h h' st k => let ⟨⟨old, he⟩, hi, hne⟩ := st; ⟨⟨old, k e (by simp) _ he⟩, hi.at fun o q => k it (by simp) o q, hne⟩
  item := by
    intro X hP hw hK hc i pins s σ H E I hf st hg
    subst hP hw hK
    obtain ⟨⟨old, he⟩, hit, hne, hai, hea⟩ := st
    obtain ⟨xs, x, hq, hx⟩ := hg
    obtain ⟨its, rv, p, hz⟩ := I.tuple hq
    obtain ⟨u, hu, ru⟩ := rv.get hx
    have hel : e < s.heap.objs.size := Heap.lt_size he
    have hil : it < s.heap.objs.size := tupIter_lt hit
    have hlt : i < its.toArray.size := by
      have := lt_of_get hu
      simpa using this
    refine wpAny_pyNext_enum_itemC (Draws.tuple (A := X.A.in1) (I.ok.hd hc) it a hai its.toArray) he ⟨hit, p⟩ hlt hne (by simp [hne, hea]) fun x' h' tk hP ho hst' hT hsz hk => ?_
    obtain rfl : u = x' := by
      have e1 : its.toArray[i]? = some x' := hP
      rw [List.getElem?_toArray, hu] at e1
      exact Option.some.inj e1
    refine ⟨_, rfl, wpAny_letOwnedTupleGo_enum (s := { s with heap := h', toks := tk + 1 }) ho fun h'' he' sb => ?_⟩
    have hT2 : h''.get? s.heap.objs.size = some { cls := .type "tuple", data := .seq #[.int i tk, u] } := (sb.2 _ (Nat.ne_of_gt hel)).trans hT
    have new : ObjOk X.prog X.w (upd H s.heap.objs.size (.tup [.int (i : Nat), x])) h'' s.heap.objs.size (.tup [.int (i : Nat), x]) :=
      ⟨by show 2 ≤ sizeLine; decide, [.int i tk, u], .cons ⟨_, rfl⟩ (.cons ru .nil), ⟨_, hT2, rfl, _, rfl⟩⟩
    have I1 : Inv X pins σ (upd H s.heap.objs.size (.tup [.int (i : Nat), x])) { s with heap := h'', toks := tk + 1 } :=
      I.turnedNew (ch := [e, it]) (fun b ob hb q => (sb.2 b (fun z => hb (by simp [z]))).trans (hk b ob (fun z => hb (by simp [z])) (fun z => hb (by simp [z])) q)) hf (Nat.le_refl _) new
    refine ⟨.ref s.heap.objs.size, _, I1, rfl, ⟨_, x, rfl, I.hok.fresh (Nat.le_refl _), rfl, fun ys hy => by rw [I.tuple_inj hy hq]; exact hx⟩, ⟨⟨u, ?_⟩, hst'.1.at fun o q => (sb.2 it (Ne.symm hne)).trans q, hne, hai, hea⟩, fun b hb => ?_⟩
    · have e1 : ((i + 1 : Nat) : Int) = (i : Int) + 1 := by omega
      rw [e1]; exact he'
    · have hb' : b < s.heap.objs.size := by
        have e' : b = e ∨ b = it := by simpa using hb
        rcases e' with z | z
        · rw [z]; exact hel
        · rw [z]; exact hil
      rw [upd_ne (Nat.ne_of_lt hb')]
      exact (hf b hb).1
  done := by
    intro X hP hw hK hc i pins s σ H E I hf st hg
    subst hP hw hK
    obtain ⟨⟨old, he⟩, hit, hne, hai, hea⟩ := st
    obtain ⟨xs, hq, hx⟩ := hg
    obtain ⟨its, rv, p, hz⟩ := I.tuple hq
    obtain ⟨f0, f1, f2, f3, f4, f5⟩ := hf it (by simp)
    have hl := rv.length
    exact pyNext_enumT_end (I.ok.hd hc) he hit p (by simp; omega) fun h' eb => ⟨rfl, I.turned (t' := s.toks) (fun b o hb q => eb b o hb q) f0 f1 f3 f4 f5⟩
  self := fun A i s Q E st h => let ⟨⟨_, he⟩, _⟩ := st; wpAny_pyIter_enum he h
def iEnumT (K : PySem.W.Frag) (ta : TA) : TI := fun σ H R => ta σ H fun vs H1 => ∃ a xs, vs = [.ref a] ∧ SqT K H1 a xs ∧ R (IteT K a) H1
theorem pi_enumT {X : Cx} {e : Expr} {ta : TA} {p pos tpos : Pos} {elts : List Expr} {kk : Nat} (hg : Gl X "enumerate") (hm : X.mg "enumerate" = none) (ha : PA X [e] ta) (hs : starEach [e] X.env = [(false, eval e X.env)] := by rfl) :
    PI X (.Tuple elts kk tpos) (.Call (.Name "enumerate" p) [e] [] pos) (iEnumT X.K ta) := by
  refine ⟨fun pins s σ H R I h => ?_⟩
  refine Call_ (ld_blt I hg hm boot_enumerate (PyProof.Rows.callWith_type1 (thn (ha.run pos pins s σ H _ I h) fun us s1 ⟨vs, H1, I1, r1, q1⟩ => ?_) hs rfl))
  obtain ⟨a, xs, ex, hq, q⟩ := q1
  subst ex
  cases r1 with
  | cons r rr =>
    cases rr
    cases r
    obtain ⟨its, rv, p', hz⟩ := I1.tuple hq
    have p2 : s1.heap.IsTuple a its.toArray := p'
    obtain ⟨o1, ho1, _⟩ := id p2
    have hal : a < s1.heap.objs.size := Heap.lt_size ho1
    refine call_enumT p2 fun h' he hit hsz hk => wpAny_pyIter_enum he ?_
    have I2 : Inv X pins σ H1 { s1 with heap := h' } := I1.kept (t' := s1.toks) hk
    refine ⟨s1.heap.objs.size + 1, [s1.heap.objs.size + 1, s1.heap.objs.size], _, _, H1, rfl, I2, turn_enumT a (s1.heap.objs.size + 1) s1.heap.objs.size, ⟨⟨.none, he⟩, hit, Nat.succ_ne_self _, Nat.ne_of_lt hal, Nat.ne_of_gt (Nat.lt_succ_of_lt hal)⟩, fun b hb => ?_, q⟩
    have e' : b = s1.heap.objs.size + 1 ∨ b = s1.heap.objs.size := by simpa using hb
    have hle : s1.heap.objs.size ≤ b := by
      rcases e' with z | z
      · rw [z]; exact Nat.le_add_right _ _
      · rw [z]; exact Nat.le_refl _
    exact I1.fpOk hle (I1.hok.fresh hle)
def enumD (ds : List PyData) : List PyData := ds.mapIdx fun i d => .tuple [.int (i : Nat), d]
theorem enumD_len (ds : List PyData) : (enumD ds).length = ds.length := by unfold enumD; simp
theorem enumD_at {ds : List PyData} {i : Nat} {y : PyData} (h : ds[i]? = some y) : (enumD ds)[i]? = some (.tuple [.int (i : Nat), y]) := by
  unfold enumD
  rw [List.getElem?_mapIdx, h]
  rfl
theorem enumD_get {ds : List PyData} {i : Nat} {z : PyData} (h : (enumD ds)[i]? = some z) : ∃ y, ds[i]? = some y ∧ z = .tuple [.int (i : Nat), y] := by
  unfold enumD at h
  rw [List.getElem?_mapIdx] at h
  cases e : ds[i]? with
  | none => rw [e] at h; cases h
  | some y => rw [e] at h; exact ⟨y, rfl, (Option.some.inj h).symm⟩
section
variable {X : Cx} {c : Cc} {ρ ρ1 : List Sl} {e : Expr} {p pos tpos : Pos} {elts : List Expr} {kk : Nat} {ds : List PyData}
theorem di_enum (hm : X.mg "enumerate" = none) (h : DE X c ρ e (.d (.tuple ds)) ρ1) (hg : Gl X "enumerate" := by rfl) (hs : starEach [e] X.env = [(false, eval e X.env)] := by rfl) (h1 : starEach [e] X.env = (false, eval e X.env) :: starEach [] X.env := by rfl) :
    DI X c ρ (.Tuple elts kk tpos) (.Call (.Name "enumerate" p) [e] [] pos) (enumD ds) ρ1 :=
  PI.imp (pi_enumT hg hm (da_cons h da_nil h1) hs) fun σ H R ⟨O, E, k⟩ => ⟨O, E, fun vs H1 e1 E1 v1 => by
    cases v1 with
    | cons v1 v2 =>
      cases v2
      cases v1 with
      | @tup a xs _ s r =>
        refine ⟨a, xs, rfl, sqT_mono cut_le s, k _ H1 (c.with (.ref a) (.tuple ds)) (Sub.ghost ..) e1 (E1.ghost (.tup s r)) ⟨fun i O H σ ρ hi E => ?_, fun O H σ ρ E => ?_, fun i O H σ ρ x H' hi E yl => ?_⟩⟩
        · obtain ⟨_, r⟩ := E.unghost
          rw [enumD_len] at hi
          cases r with
          | @tup _ xs _ s r =>
            obtain ⟨v, hv, _⟩ := r.get (List.getElem?_eq_getElem hi)
            exact ⟨xs, v, sqT_mono cut_le s, hv⟩
        · obtain ⟨_, r⟩ := E.unghost
          cases r with
          | @tup _ xs _ s r => exact ⟨xs, sqT_mono cut_le s, by rw [r.length, enumD_len]; exact Nat.le_refl _⟩
        · obtain ⟨_, r⟩ := E.unghost
          cases r with
          | @tup _ xs _ s r =>
            obtain ⟨T, x, rfl, hT, rfl, q⟩ := yl
            obtain ⟨y, hy, ry⟩ := r.getV (q xs (sqT_mono cut_le s))
            have hpO := E.unghost.1.notO hT
            refine ⟨same_new hT, _, enumD_at hy, ?_⟩
            exact .tup (SqT.of (by rw [cut_out hpO]; exact upd_same)) ((RpAll.cons (Rp.int _) (.cons ry .nil)).mono (Est.of (O := O) (same_new hT)).cut)⟩
end
/-! ### calls with keywords alone -/
abbrev perm {α : Type} (is : List Nat) (l : List α) : List α := is.filterMap fun i => l[i]?
theorem pair_perm {α β : Type} {F : α → β → Prop} {l₁ : List α} {l₂ : List β} (h : Paired F l₁ l₂) : ∀ {is : List Nat}, Paired F (perm is l₁) (perm is l₂)
  | [] => .nil
  | i :: is => by
    unfold perm
    rw [List.filterMap_cons, List.filterMap_cons]
    cases q : l₂[i]? with
    | none =>
      have : l₁[i]? = none := by
        rw [List.getElem?_eq_none_iff] at q ⊢
        rw [h.length]
        exact q
      rw [this]
      exact pair_perm h
    | some b =>
      obtain ⟨a, h1, h2⟩ := pair_get h q
      rw [h1]
      exact .cons h2 (pair_perm h)
/-- every parameter is written by its name, in an order of its own -/
structure KB (K : PySem.W.Frag) (fd : FuncData) (ps ks : List Str) (is : List Nat) : Prop where
  to : ∀ (s : Shared) (ws : List Value), ws.length = ks.length → BindsTo s fd ⟨[], ks.zip ws⟩ (ps.zip (perm is ws))
theorem FunD.kb {K : PySem.W.Frag} {x qual : Str} {params : Arguments} {body : List Stmt} {scope : Scope} {kws : List (Str × V)} {f : Addr} {fd : FuncData} {ps ks : List Str} {is : List Nat} (F : FunD K x qual params body scope [] kws f fd)
    (h : ∀ (kV doc pm : Value) (an : Option Addr) (cdv ct : Value) (ws : List Value), ws.length = ks.length → bindArgs (PySem.W.fnOf x qual params body scope .none kV doc pm an cdv ct) ⟨[], ks.zip ws⟩ = pure (ps.zip (perm is ws))) : KB K fd ps ks is := by
  obtain ⟨oc, od, dV, kV, doc, pm, an, cdv, ct, osl, rfl, lk, hcd, hD, hK⟩ := F.ex
  rcases hD with ⟨_, rfl⟩ | ⟨e, _⟩
  · exact ⟨fun s ws hl => .of_eq (h kV doc pm an cdv ct ws hl)⟩
  · exact absurd rfl e
def tCallKW (sp : Sp) (is : List Nat) (E : XK) (n : Nat) (t : TA) : TE := fun σ H Q => t σ H fun vs H1 => vs.length = n ∧ sp (perm is vs) H1 Q E
/-- the keywords' values, by data -/
def DK (X : Cx) (c : Cc) (ρ : List Sl) (kws : List Keyword) (Ws : List Wk) (ρ' : List Sl) : Prop := PK X kws (tA X.K c ρ Ws ρ')
section
variable {X : Cx} {c : Cc} {ρ ρ1 ρ2 : List Sl} {k : Nat} {f : Addr} {fd : FuncData} {ps ks : List Str} {sp : Sp} {x : Str} {p pos kpos : Pos} {nm : Option Str} {e : Expr} {kws : List Keyword} {tk t t' : TA} {is : List Nat} {W : Wk} {Ws : List Wk} {as : List Ar} {y : PyData} {T : List (Addr × Str)}
theorem PK.imp (h : PK X kws t) (i : ∀ σ H Q, t' σ H Q → t σ H Q) : PK X kws t' := ⟨fun pos pins s σ H Q I q => h.run pos pins s σ H Q I (i σ H Q q)⟩
theorem dk_nil : DK X c ρ [] [] ρ := PK.imp pk_nil fun σ H Q ⟨O, E, k⟩ => k [] H Est.refl E .nil
theorem dk_cons (ha : DE X c ρ e W ρ1) (hr : DK X c ρ1 kws Ws ρ2) : DK X c ρ (⟨nm, e, kpos⟩ :: kws) (W :: Ws) ρ2 :=
  PK.imp (pk_cons ha hr) fun σ H Q ⟨O, E, k⟩ => ⟨O, E, fun v H1 e1 E1 v1 => ⟨O, E1, fun vs H2 e2 E2 v2 => k (v :: vs) H2 (e1.trans e2) E2 (.cons (v1.est e2) v2)⟩⟩
theorem pe_callKW (F : FnG X.prog X.w X.K X.mg X.base k f fd ps sp) (hr : RoomG k X.A) (hg : Gl X x) (hm : X.mg x = some (.ref f)) (hk : PySem.W.keepIn X.K (.ref f) = true) (hb : KB X.K fd ps ks is)
    (hkw : PK X kws tk) (hall : (backToKw pos (keywordEach kws X.env)).all (·.1.isSome) = true := by rfl) (hks : (backToKw pos (keywordEach kws X.env)).filterMap (·.1) = ks := by rfl)
    (hdb : (x == ("__debug__" : Str)) = false := by decide) (hpl : ((backTo pos (starEach [] X.env)).any (·.1) || (backToKw pos (keywordEach kws X.env)).any (·.1.isNone)) = false := by rfl) :
    PE X (.Call (.Name x p) [] kws pos) (tCallKW sp is E0 ks.length tk) := by
  refine ⟨fun pins s σ H Q I h => ?_⟩
  refine wpAny_Call_Name_kw (ld_glob I hg hm ?_ hdb)
  refine PySem.W.callWith_KW0 (h₀ := X.base) I.ok.mod.kin hk hall (thn (hkw.run pos pins s σ H _ I h) fun ws s2 ⟨zs, H2, I2, rz, hl, q2⟩ => ⟨I2.kIn, ?_⟩) hpl
  rw [hks]
  exact run_G (args := ⟨[], ks.zip ws⟩) F hr I2 (hb.to s2 ws (rz.length.symm.trans hl)) (pair_perm rz) q2
theorem de_callKW {R : List Ar → Re → Prop} (F : FnG X.prog X.w X.K X.mg X.base k f fd ps (spF T X.K R)) (hr : RoomG k X.A) (hm : X.mg x = some (.ref f)) (hk : PySem.W.keepIn X.K (.ref f) = true) (hb : KB X.K fd ps ks is)
    (hT : c.T = T) (ha : DK X c ρ kws Ws ρ1) (hw : ars Ws = some as) (hR : R (perm is as) (.d y)) (hl : Ws.length = ks.length := by rfl) (hg : Gl X x := by rfl) (hall : (backToKw pos (keywordEach kws X.env)).all (·.1.isSome) = true := by rfl) (hks : (backToKw pos (keywordEach kws X.env)).filterMap (·.1) = ks := by rfl)
    (hdb : (x == ("__debug__" : Str)) = false := by decide) (hpl : ((backTo pos (starEach [] X.env)).any (·.1) || (backToKw pos (keywordEach kws X.env)).any (·.1.isNone)) = false := by rfl) :
    DE X c ρ (.Call (.Name x p) [] kws pos) (.d y) ρ1 :=
  PE.imp (pe_callKW F hr hg hm hk hb ha hall hks hdb hpl) fun σ H Q ⟨O, E, kk⟩ => ⟨O, E, fun vs H1 e1 E1 v1 => ⟨v1.length.trans hl, O, _, _, E1.mu, by rw [← hT]; exact E1.tb, pair_perm (ars_ok hw v1), hR, fun v H2 q t rk => kk v H2 (e1.trans (Est.ofQ q)) (E1.stepQ q (by rw [hT]; exact t)) rk⟩⟩
end
end DL
set_option Elab.async false
set_option linter.all false
set_option maxRecDepth 100000
set_option maxHeartbeats 4000000
namespace DL
open PySem PySem.Spec L2 LamX NdefX
/-! ### a callable value, and a lambda handed to a def -/
/-- what the callable at f gives, in the context Z, from c0 on -/
structure CallR (Z : Cx) (c0 : Cc) (f : Addr) (R : List Ar → Re → Prop) : Prop where
  fn : ∀ {pins σ H s}, Inv Z pins σ H s → PySem.W.FnAt f s.heap
  run : ∀ {c O σ H ρ pins s us vs as y} {Q : VK}, Le c0 c → En Z.K c O H σ ρ → Inv Z pins σ H s → Vals vs us → Paired (fun v a => AOk Z.K O H v a) vs as → R as (.d y) →
    (∀ v H', Kq H H' → LamX.Tabs c.T H' → Rp Z.K (cut H' O) v y → Q v H') → wpAny (model Z.prog Z.w) Z.A (call (.ref f) us []) (EP Z pins σ Q) Z.xe s
section
variable {X : Cx} {c c0 : Cc} {ρ ρ1 : List Sl} {Ws : List Wk} {as : List Ar} {k : Nat} {f : Addr} {fd : FuncData} {ps : List Str} {x a : Str} {p pos : Pos} {e : Expr} {es : List Expr} {y : PyData} {T : List (Addr × Str)} {R : List Ar → Re → Prop}
/-- a def's name handed on -/
theorem CallR.of_fn (F : FnG X.prog X.w X.K X.mg X.base k f fd ps (spF T X.K R)) (hr : RoomG k X.A) (hb : Binds X.K fd ps []) (hT : c0.T = T) (hK : ∀ {pins σ H s}, Inv X pins σ H s → PySem.W.FnAt f s.heap) : CallR X c0 f R :=
  ⟨fun I => hK I, fun {c O σ H ρ pins s us vs as y Q} l E I r ha hR kk => by
    have r2 : Vals (vs ++ []) (us ++ []) := r.append .nil
    have h : spF T X.K R (vs ++ []) H Q E0 := ⟨O, as, _, E.mu, by rw [← hT, ← l.T]; exact E.tb, by rw [List.append_nil]; exact ha, hR, fun v H' q t rk => kk v H' q (by rw [l.T, hT]; exact t) rk⟩
    exact run_G (args := ⟨us, []⟩) F hr I (hb s us I.kIn (by rw [← r2.length]; exact F.len _ _ _ _ h)) r2 h⟩
/-- a(e, ..), a a local name that holds the callable -/
theorem de_callR (i : Nat) (C : CallR X c0 f R) (hl : Le c0 c) (hs : ρ[i]? = some (.v (.ref f))) (ha : DA X c ρ (e :: es) Ws ρ1) (hw : ars Ws = some as) (hR : R as (.d y)) (hN : X.N[i]? = some a := by rfl) (hv : Vis X.env.scope a := by first | exact Or.inl rfl | exact Or.inr (Or.inl rfl) | exact Or.inr (Or.inr rfl))
    (hd : (a == ("__debug__" : Str)) = false := by decide) (hcd : (a == ("__classdict__" : Str)) = false := by decide) (he : starEach (e :: es) X.env = (false, eval e X.env) :: starEach es X.env := by rfl) (hpl : (backTo pos (starEach es X.env)).any (·.1) = false := by rfl) :
    DE X c ρ (.Call (.Name a p) (e :: es) [] pos) (.d y) ρ1 := by
  refine ⟨fun pins s σ H Q I ⟨O, E, kk⟩ => ?_⟩
  obtain ⟨v0, g1, g2⟩ := E.sl i _ hs
  have g3 : σ[i]? = some (some (V.ref f)) := by
    rw [g1]
    have : v0 = some (.ref f) := g2
    rw [this]
  refine wpAny_Call_Name_kw (thn ((pe_var (pos := p) hN hv hd hcd).run pins s σ H (fun v H1 => v = .ref f ∧ H1 = H) I ⟨.ref f, g3, rfl, rfl⟩) fun u s1 ⟨v, H1, I1, r1, q1⟩ => ?_)
  obtain ⟨ev, eH⟩ := q1
  subst ev eH
  cases r1
  refine PySem.W.callWith_F (first := []) (C.fn I1) (thn (ha.run pos pins s1 σ H1 (fun vs H2 => Est O H1 H2 ∧ En X.K c O H2 σ ρ1 ∧ VsOk X.K O σ H2 vs Ws) I1 ⟨O, E, fun vs H2 e1 E1 v1 => ⟨e1, E1, v1⟩⟩) fun us s2 ⟨vs, H2, I2, r, e1, E1, v1⟩ => ⟨C.fn I2, ?_⟩) he hpl
  exact C.run hl E1 I2 r (ars_ok hw v1) hR fun v H3 q t rk => kk v H3 (e1.trans (Est.ofQ q)) (E1.stepQ q t) rk
end
/-! the lambda is made -/
section
variable {X : Cx} {pins : List (Addr × Obj)} {σ : L2.St} {H : Hp} {s : Shared}
theorem lam_make3 {T : List (Addr × Str)} {co tb : Addr} {prm : Arguments} {bdy : Expr} {sco : Scope} {ps0 : Pos} {EE QQ : Value → Shared → Prop} (I : Inv X pins σ H s) (tabB : TabB X.base X.mg co tb) (hcd : X.env.code = .ref co)
    (hin : (tb, X.env.qual ++ "<lambda>") ∈ T) (hone : ∀ p ∈ T, p.1 = tb → p.2 = X.env.qual ++ "<lambda>") (hTT : Tabs T H) (hdf : defaultsOf prm X.env = ([], [])) (hfr : ∀ y ∈ sco.names, y.2 = .free → ∃ c, X.env.cells.lookup y.1 = some c)
    (go : ∀ (f c' : Addr) (pm ctv : Value) (H1 : Hp) (s' : Shared), Inv X pins σ H1 s' → Kq H H1 → Tabs T H1 →
      s'.heap.get? f = some (PySem.W.kla_obj "<lambda>" (X.env.qual ++ "<lambda>") prm bdy sco (cloFrom X.env.cells sco.names []) pm c' ctv) → H1 f = none → f ∉ frs X.stack → H1 c' = some (CodeO c' (X.env.qual ++ "<lambda>")) → QQ (.ref f) s') :
    wpAny (model X.prog X.w) X.A (eval (.Lambda prm bdy sco ps0) X.env) QQ EE s := by
  obtain ⟨cells, hcs, htr, htold⟩ := hTT _ hin
  refine PySem.W.kla_eval hdf ?_
  have bltP : s.heap.BuiltinsAt X.mg tb := tabB.bm.keeps I.bk
  have rawP : s.heap.get? tb = some { cls := .none, data := .fields cells } := I.hok tb _ hcs
  have outF : ∀ f, s.heap.objs.size ≤ f → f ∉ frs X.stack := fun f hf z => by
    cases List.mem_cons.mp (I.stkSub _ z) with
    | inl e => exact Nat.lt_irrefl _ (Nat.lt_of_lt_of_le (show f < s.heap.objs.size by rw [e]; exact I.lt) hf)
    | inr e => exact I.nofs hf e
  cases hc : codeAmong ps0 cells.toList with
  | some cv =>
    obtain ⟨c', e, hco⟩ := htold ps0 cv hc
    subst e
    refine PySem.W.kla_makeFunctionHit (mg := X.mg) (c := co) (P := tb) (ps := cells) (closure_ok hfr) I.ok.glob (I.mod.glob.keeps I.bk) hcd (tabB.code.keeps I.bk) rawP htr hc bltP fun ctv h' tk hx hsz => ?_
    exact go h'.objs.size c' ((X.mg "__name__").getD .none) ctv H _ (I.kept fun b o e => Heap.get?_push_of_some _ (hx b o e)) ⟨fun _ _ h _ => h, fun _ ps h => ⟨ps, h⟩⟩ hTT (Heap.get?_push_size _ rfl) (I.hok.fresh hsz) (outF _ hsz) hco
  | none =>
    refine PySem.W.kla_makeFunction (mg := X.mg) (c := co) (P := tb) (ps := cells) (closure_ok hfr) I.ok.glob (I.mod.glob.keeps I.bk) hcd (tabB.code.keeps I.bk) rawP htr hc tabB.gP bltP fun c' ctv h' tk hx hge hlt hrec htb => ?_
    obtain ⟨c2, oc, vs, t, e2, hoc, hd, hv⟩ := hrec
    cases e2
    have newC : H c' = none := I.hok.fresh hge
    have hsz : s.heap.objs.size ≤ h'.objs.size := Nat.le_trans hge (Nat.le_of_lt hlt)
    let H1 : Hp := upd (upd H tb (.tbl (cells ++ #[rawInt ps0.line, rawInt ps0.col, .ref c']))) c' (CodeO c' (X.env.qual ++ "<lambda>"))
    have I1 := inv_table (t' := tk) (more := #[rawInt ps0.line, rawInt ps0.col, .ref c']) (h' := h'.push (PySem.W.kla_obj "<lambda>" (X.env.qual ++ "<lambda>") prm bdy sco (cloFrom X.env.cells sco.names []) ((X.mg "__name__").getD .none) c' ctv)) I hcs
      (fun b o hb e => Heap.get?_push_of_some _ (hx b o hb e)) (Heap.get?_push_of_some _ htb) hge ⟨oc, vs, t, Heap.get?_push_of_some _ hoc, hd, hv⟩
    have keep1 : ∀ b o, H b = some o → (∀ ps, o ≠ .tbl ps) → H1 b = some o := fun b o e n => by
      show upd _ c' _ b = _
      rw [upd_ne (ne_of_none e newC), upd_ne (fun z => n cells (Option.some.inj (e.symm.trans (by rw [z]; exact hcs))))]
      exact e
    have keepT : ∀ b ps, b ≠ tb → H b = some (.tbl ps) → H1 b = some (.tbl ps) := fun b ps n e => by
      show upd _ c' _ b = _
      rw [upd_ne (ne_of_none e newC), upd_ne n]
      exact e
    have atTb : H1 tb = some (.tbl (cells ++ #[rawInt ps0.line, rawInt ps0.col, .ref c'])) := by
      show upd _ c' _ tb = _
      rw [upd_ne (ne_of_none hcs newC), upd_same]
    have kq : Kq H H1 := ⟨fun b o e n => keep1 b o e n, fun b ps e => by
      by_cases hb : b = tb
      · subst hb
        exact ⟨_, atTb⟩
      · exact ⟨ps, keepT b ps hb e⟩⟩
    have eL : (cells ++ #[rawInt ps0.line, rawInt ps0.col, .ref c']).toList = cells.toList ++ [rawInt ps0.line, rawInt ps0.col, .ref c'] := by simp
    refine go h'.objs.size c' ((X.mg "__name__").getD .none) ctv H1 _ I1 kq (fun p hp => ?_) (Heap.get?_push_size _ rfl) ?_ (outF _ hsz) upd_same
    · by_cases hb : p.1 = tb
      · rw [hone p hp hb, hb]
        refine ⟨_, atTb, by rw [eL]; exact PySem.TriplesOk_snoc _ _ _ _ htr, fun p' cv hcv => ?_⟩
        rw [eL] at hcv
        cases among_app _ htr hcv with
        | inl z =>
          obtain ⟨c1, z1, z2⟩ := htold p' cv z
          exact ⟨c1, z1, keep1 _ _ z2 codeO_ne⟩
        | inr z => exact ⟨c', z, upd_same⟩
      · obtain ⟨ps', a1, a2, a3⟩ := hTT p hp
        refine ⟨ps', keepT _ _ hb a1, a2, fun p' cv hcv => ?_⟩
        obtain ⟨c1, z1, z2⟩ := a3 p' cv hcv
        exact ⟨c1, z1, keep1 _ _ z2 codeO_ne⟩
    · show upd _ c' _ _ = _
      rw [upd_ne (Nat.ne_of_gt hlt), upd_ne (Nat.ne_of_gt (Nat.lt_of_lt_of_le (Heap.lt_size rawP) hsz))]
      exact I.hok.fresh hsz
end
theorem startF_eq {N : List Str} {vs ws : List V} : startF N vs (ws.map some) = L2.start N (vs ++ ws) := by
  unfold startF L2.start
  rw [List.map_append, List.append_assoc, List.length_append, List.length_map, Nat.sub_sub]
/-- what the text of a lambda tells -/
structure LamF (env : Env) (params : Arguments) (scope : Scope) (N ps fr : List Str) : Prop where
  S : NScope N ps fr scope
  df : defaultsOf params env = ([], [])
  bind : ∀ (q : Str) (body : Expr) (cl : List (Str × Addr)) (pm cv ctv : Value) (us : List Value), us.length = ps.length → bindArgs (PySem.W.kla_fn "<lambda>" q params body scope cl pm cv ctv) ⟨us, []⟩ = pure (ps.zip us)
  free : ∀ y ∈ scope.names, y.2 = .free → env.scope.names.lookup y.1 = some .cell ∨ env.scope.names.lookup y.1 = some .free
  all : ∀ y ∈ fr, (y, NameKind.free) ∈ scope.names
/-- a lambda's body's context -/
abbrev lamX (X : Cx) (N : List Str) (params : Arguments) (scope : Scope) (cl : List (Str × Addr)) (c' f : Addr) (A : Around) (outer : List Env) (s : Shared) (H : Hp) (E : XK) : Cx :=
  ncx (L2.CX X.prog X.w) X.prog X.w X.K X.mg X.base N ⟨"<lambda>", X.env.qual ++ "<lambda>", params, [], scope, cl, c'⟩ f A outer s H E
theorem kq_refl (H : Hp) : Kq H H := ⟨fun _ _ h _ => h, fun _ ps h => ⟨ps, h⟩⟩
theorem cells_later {X : Cx} {pins : List (Addr × Obj)} {σ : L2.St} {H : Hp} {s : Shared} {cl : List (Str × Addr)} {fr : List Str} {ws : List (Option V)} (C : CellsAt cl fr ws X.s_0.heap X.H_0) (hx : X.ex = []) (I : Inv X pins σ H s) : CellsAt cl fr ws s.heap H := by
  have kp : ∀ y c, cl.lookup y = some c → ∀ v, X.s_0.heap.IsCell c v → s.heap.IsCell c v := fun y c e v ⟨o, ho, hd⟩ => by
    obtain ⟨sl, q⟩ := I.base.any ho (C.all y c e).1 (by rw [hx]; simp)
    exact ⟨_, q, hd⟩
  refine ⟨C.len, fun y c e => ?_, C.inj, fun i y e => ?_⟩
  · obtain ⟨n, v, z⟩ := C.all y c e
    have z2 := kp y c e v z
    obtain ⟨o, ho, _⟩ := z
    exact ⟨I.base.free c o ho n (by rw [hx]; simp), v, z2⟩
  · obtain ⟨c, hc, hv⟩ := C.has i y e
    refine ⟨c, hc, fun v ev => ?_⟩
    obtain ⟨u, r, z⟩ := hv v ev
    exact ⟨u, r, kp y c hc _ z⟩
theorem zip_pair {F : V → Sl → Prop} : ∀ {ws : List V} {ds : List PyData}, ws.length = ds.length → (∀ q ∈ ws.zip ds, F q.1 (.d q.2)) → Paired F ws (ds.map .d)
  | [], [], _, _ => .nil
  | [], _ :: _, h, _ => by cases h
  | _ :: _, [], h, _ => by cases h
  | v :: ws, d :: ds, h, q => .cons (q (v, d) (by simp)) (zip_pair (by simpa using h) fun q' hq => q q' (by rw [List.zip_cons_cons]; exact List.mem_cons_of_mem _ hq))
/-- the lambda in the def that got it: Z that def's context, entered at s -/
theorem lam_callR {X : Cx} {pins : List (Addr × Obj)} {σ : L2.St} {H : Hp} {s : Shared} {f c' : Addr} {pm ctv : Value} {params : Arguments} {body : Expr} {scope : Scope} {N ps fr : List Str} {js : List Nat} {ws : List V} {dsl : List PyData} {O : List Addr} {T : List (Addr × Str)} {R : List Ar → Re → Prop}
    {Ng : List Str} {qg : Str} {sg : Scope} {g : Addr} {cdg : Value} {k : Nat} {Z : Cx}
    (hZ : Z = (cxOf (L2.CX X.prog X.w) X.prog X.w X.K X.mg X.base Ng qg sg g cdg X.A X.stack s H E0).nox) (I : Inv X pins σ H s) (L : LamF X.env params scope N ps fr)
    (hf : s.heap.get? f = some (PySem.W.kla_obj "<lambda>" (X.env.qual ++ "<lambda>") params body scope (cloFrom X.env.cells scope.names []) pm c' ctv)) (hfn : H f = none) (hfr : f ∉ frs X.stack) (hco : H c' = some (CodeO c' (X.env.qual ++ "<lambda>")))
    (hjs : js.map (fun j => X.N[j]?) = fr.map some) (hws : js.map (slotAt σ) = ws.map some) (hr : RoomG (k + 1) Z.A) (hR : ∀ as r, R as r → as.length = ps.length) (hlw : ws.length = dsl.length)
    (hbody : ∀ (A : Around) (outer : List Env) (s : Shared) (H : Hp) (f : Addr) (E : XK) (cl : List (Str × Addr)) (c' : Addr) (c : Cc) (as : List Ar) (y : PyData), c.T = T → RoomG k (lamX X N params scope cl c' f A outer s H E).A → R as (.d y) → ∃ ρ', DE (lamX X N params scope cl c' f A outer s H E) c (startS N (as.map Ar.sl ++ dsl.map .d)) body (.d y) ρ') :
    CallR Z ⟨none, O, H, ws.zip dsl, [], T⟩ f R := by
  subst hZ
  have of1 : ∀ {pinsZ σZ HZ s1}, Inv (cxOf (L2.CX X.prog X.w) X.prog X.w X.K X.mg X.base Ng qg sg g cdg X.A X.stack s H E0).nox pinsZ σZ HZ s1 → s1.heap.get? f = some (PySem.W.kla_obj "<lambda>" (X.env.qual ++ "<lambda>") params body scope (cloFrom X.env.cells scope.names []) pm c' ctv) :=
    fun I1 => I1.base.keep f _ hf hfn hfr (fun z => nomatch (show f ∈ ([] : List Addr) from z))
  refine ⟨fun I1 => ⟨_, _, _, _, of1 I1⟩, fun {c O1 σZ HZ ρ pinsZ s1 us vs as y Q} l E I1 r ha hRy kk => ?_⟩
  have hcZ : HZ c' = some (CodeO c' (X.env.qual ++ "<lambda>")) := E.fm c' _ (by rw [l.B]; simp) (by rw [l.H0]; exact hco) codeO_ne
  let F : NF := ⟨"<lambda>", X.env.qual ++ "<lambda>", params, [], scope, cloFrom X.env.cells scope.names [], c'⟩
  have C0 : CellsAt F.cl fr (ws.map some) s.heap H := by
    rw [← hws]
    exact cells_of I (Caps.made I.ok L.free L.all hjs)
  have C : CellsAt F.cl fr (ws.map some) s1.heap HZ := cells_later (X := (cxOf (L2.CX X.prog X.w) X.prog X.w X.K X.mg X.base Ng qg sg g cdg X.A X.stack s H E0).nox) C0 rfl I1
  have hl : vs.length = ps.length := (Paired.length ha).trans (hR as _ hRy)
  have hT : c.T = T := l.T
  obtain ⟨ρ', hb⟩ := hbody (cxOf (L2.CX X.prog X.w) X.prog X.w X.K X.mg X.base Ng qg sg g cdg X.A X.stack s H E0).nox.A (cxOf (L2.CX X.prog X.w) X.prog X.w X.K X.mg X.base Ng qg sg g cdg X.A X.stack s H E0).nox.stack s1 HZ f E0 F.cl c' ⟨none, O1, HZ, [], [], T⟩ as y rfl (hr.deeper _) hRy
  have e0 : Env0 X.prog X.w X.K X.mg X.base (cxOf (L2.CX X.prog X.w) X.prog X.w X.K X.mg X.base Ng qg sg g cdg X.A X.stack s H E0).nox.A (cxOf (L2.CX X.prog X.w) X.prog X.w X.K X.mg X.base Ng qg sg g cdg X.A X.stack s H E0).nox.stack s1 HZ := I1.env0
  have rc : codeAny (model X.prog X.w) (cxOf (L2.CX X.prog X.w) X.prog X.w X.K X.mg X.base Ng qg sg g cdg X.A X.stack s H E0).nox.A (.call (.ref f) ⟨us, []⟩) (CR (L2.CX X.prog X.w) (cxOf (L2.CX X.prog X.w) X.prog X.w X.K X.mg X.base Ng qg sg g cdg X.A X.stack s H E0).nox.stack X.prog X.w HZ s1 Q E0) s1 := by
    refine PySem.W.kla_callFunE hr.r.depth (of1 I1) rfl L.S.co L.S.gen rfl (codeO_at e0.hok hcZ) ?_
    rw [L.bind _ _ _ _ _ _ us (by rw [← r.length]; exact hl)]
    refine wpAny_pure (wpAny_newFunctionEnv L.S.nocell (fun ⟨n, _⟩ hy => L.S.par n (List.of_mem_zip hy).1) (fun h₁ hns hsb => ⟨I1.nolimit.fresh _ hsb, ?_⟩) L.S.kind)
    show codeAny _ _ (.expr body (envF F f s1.heap.objs.size)) _ _
    have kp : ∀ b o, s1.heap.get? b = some o → h₁.get? b = some o := fun b o e => hsb.extBut b o (Nat.ne_of_lt (Heap.lt_size e)) (Heap.get?_push_of_some _ e)
    have J : Inv (ncx (L2.CX X.prog X.w) X.prog X.w X.K X.mg X.base N F f (cxOf (L2.CX X.prog X.w) X.prog X.w X.K X.mg X.base Ng qg sg g cdg X.A X.stack s H E0).nox.A (cxOf (L2.CX X.prog X.w) X.prog X.w X.K X.mg X.base Ng qg sg g cdg X.A X.stack s H E0).nox.stack s1 HZ E0) [] (startF N vs (ws.map some)) HZ { s1 with heap := h₁, toks := s1.toks + (ps.zip us).length } :=
      inv_startN L.S hr.r.hd e0 hl r C hns kp
    refine PySem.W.kla_codeExpr (wpAny_mono (hb.run [] _ _ HZ Q J ⟨O1, ?_, fun v H' e1 E1 v1 => ?_⟩) (fun v s' hq => ?_) fun e s' hq => hq)
    · rw [startF_eq]
      refine en_start rfl rfl rfl rfl (fun _ z => by cases z) E.mu (by rw [← hT]; exact E.tb) (pair_app (ars_map ha) (zip_pair hlw fun q hq => ⟨_, rfl, E.gh q (l.G q hq)⟩)) fun i j w z p q h1 _ => ?_
      exfalso
      by_cases hi : i < (as.map Ar.sl).length
      · rw [List.getElem?_append_left hi] at h1
        exact sl_none h1
      · rw [List.getElem?_append_right (by omega), List.getElem?_map] at h1
        cases e : dsl[i - (as.map Ar.sl).length]? with
        | none => rw [e] at h1; cases h1
        | some d => rw [e] at h1; cases h1
    · exact kk v H' ⟨fun b o h n => E1.fm b o (fun z => by cases z) h n, E1.tk⟩ (by rw [hT]; exact E1.tb) v1
    · obtain ⟨w', H', J', rv, q⟩ := hq
      exact ⟨w', H', J'.os, J'.bare, J'.base, J'.hok, rv, q⟩
  refine wpAny_call (codeAny_mono rc fun r s' hq => ?_)
  have q := FnG.ends I1 hq
  cases r with
  | error u => exact q
  | ok fl => cases fl <;> exact q
end DL
set_option Elab.async false
set_option linter.all false
set_option maxRecDepth 100000
set_option maxHeartbeats 4000000
namespace DL
open PySem PySem.Spec L2 LamX NdefX
/-! ### f(x, lambda ..: ..) -/
section
variable {P : Program} {w : World} {K : PySem.W.Frag} {mg : Str → Option Value} {base : Heap} {N ps : List Str} {k : Nat} {f : Addr} {fd : FuncData} {x qual : Str} {params : Arguments} {body : List Stmt} {scope : Scope} {dvs : List V} {kws : List (Str × V)} {sp : Sp}
/-- a def run at one state -/
theorem run_def {A : Around} {outer : List Env} {s : Shared} {H : Hp} {args : Args} {us : List Value} {vs : List V} {Q : VK} {E : XK} (F : FunD K x qual params body scope dvs kws f fd) (S : FnScope N ps scope) (hr : RoomG (k + 1) A) (e0 : Env0 P w K mg base A outer s H) (hbd : BindsTo s fd args (ps.zip us)) (r : Vals vs us) (lenV : vs.length = ps.length)
    (hb : ∀ cd, RoomG k ((Bd.mk f cd A outer s H E).X P w K mg base N qual scope).A → ∃ t, PSs ((Bd.mk f cd A outer s H E).X P w K mg base N qual scope) body t ∧ t { nx := fun _ H' => Q .non H', rt := Q } (L2.start N vs) H) :
    codeAny (model P w) A (.call (.ref f) args) (CR (L2.CX P w) outer P w H s Q E) s := by
  obtain ⟨oc, od, dV, kV, doc, pm, an, cdv, ct, osl, rfl, lk, hcd, _, _⟩ := F.ex
  have inK : K.In s.heap := e0.mod.kin.keeps fun b o e => (e0.bs b o e).1
  have lim : s.heap.NoLimit := e0.mod.nolimit.keeps fun b o e => (e0.bs b o e).1
  refine codeAny_call_function hr.r.depth (inK f _ lk) rfl S.co S.gen rfl (PySem.W.codeRec_of inK hcd) (hbd _ _ _ _ ?_)
  refine wpAny_newFunctionEnv_cells S.kind (fun q hq => ?_) fun env he s1 ic => ?_
  · obtain ⟨n, v⟩ := q
    exact (S.par n (List.of_mem_zip hq).1).elim .inl fun z => .inr ⟨z, PySem.W.cellsFrom_some _ _ _ (.inl z)⟩
  subst he
  refine ⟨lim.keeps ic.toInCall.keep, codeAny_func ?_⟩
  obtain ⟨t, ht, hq⟩ := hb cdv (hr.deeper _)
  have I := inv_start (CX := L2.CX P w) (E := E) (qual := qual) (f := f) (cd := cdv) S hr.r.hd e0 lenV r ic
  refine wpAny_mono (ht.nox.run [] s1 (L2.start N vs) H _ I hq) (fun fl s' hs => ?_) fun e s' hs => hs
  cases fl with
  | ret u =>
    obtain ⟨v, σ', H', J, rv, q⟩ := hs
    exact ⟨v, H', J.os, J.bare, J.base, J.hok, rv, q⟩
  | next =>
    obtain ⟨σ', H', J, q⟩ := hs
    exact ⟨V.non, H', J.os, J.bare, J.base, J.hok, rfl, q⟩
  | brk => exact (hs.choose_spec.choose_spec.2).elim
  | cont => exact (hs.choose_spec.choose_spec.2).elim
end
theorem cap_slots {K : PySem.W.Frag} {c : Cc} {O : List Addr} {H : Hp} {σ : L2.St} {ρ : List Sl} (E : En K c O H σ ρ) : ∀ {js : List Nat} {dsl : List PyData}, js.map (fun j => ρ[j]?) = dsl.map (fun d => some (.d d)) →
    ∃ ws : List V, js.map (slotAt σ) = ws.map some ∧ ws.length = dsl.length ∧ ∀ q ∈ ws.zip dsl, Rp K (cut H O) q.1 q.2
  | [], [], _ => ⟨[], rfl, rfl, fun q hq => by cases hq⟩
  | [], _ :: _, h => by cases h
  | _ :: _, [], h => by cases h
  | j :: js, d :: dsl, h => by
    rw [List.map_cons, List.map_cons, List.cons.injEq] at h
    obtain ⟨ws, h1, h2, h3⟩ := cap_slots E h.2
    obtain ⟨x, g1, v, g2, g3⟩ := E.sl j _ h.1
    subst g2
    refine ⟨v :: ws, ?_, by rw [List.length_cons, List.length_cons, h2], fun q hq => ?_⟩
    · rw [List.map_cons, List.map_cons, h1, slotAt_of g1]
    · rw [List.zip_cons_cons] at hq
      rcases List.mem_cons.mp hq with rfl | hq
      · exact g3
      · exact h3 q hq
theorem En.setG {K : PySem.W.Frag} {c : Cc} {O : List Addr} {H : Hp} {σ : L2.St} {ρ : List Sl} (E : En K c O H σ ρ) {l : List (V × PyData)} (h : ∀ q ∈ l, Rp K (cut H O) q.1 q.2) : En K { c with G := l } O H σ ρ :=
  ⟨E.fm, E.tk, E.tb, E.hB, E.sub, h, E.fl, E.mu, E.len, fun i s q => let ⟨x, h1, h2⟩ := E.sl i s q; ⟨x, h1, by cases s <;> exact h2⟩, E.sep⟩
section
variable {X : Cx} {c : Cc} {ρ ρ1 : List Sl} {k : Nat} {g : Addr} {fd : FuncData} {x : Str} {p pos lpos : Pos} {ev body : Expr} {yv y : PyData} {T : List (Addr × Str)} {R : List Ar → Re → Prop} {pg : Arguments} {bg : List Stmt} {sg : Scope} {Ng psg : List Str} {params : Arguments} {scope : Scope} {N ps fr : List Str} {js : List Nat} {dsl : List PyData} {co tb : Addr}
/-- g(ev, lambda ..: ..) -/
theorem de_lamcall (Fg : FunD X.K x x pg bg sg [] [] g fd) (Sg : FnScope Ng psg sg) (hpl : psg.length = 2) (hr : RoomG (k + 2) X.A) (hm : X.mg x = some (.ref g)) (hk : PySem.W.keepIn X.K (.ref g) = true) (hb : Binds X.K fd psg [])
    (tabB : TabB X.base X.mg co tb) (hcd : X.env.code = .ref co) (hin : (tb, X.env.qual ++ "<lambda>") ∈ T) (hone : ∀ p ∈ T, p.1 = tb → p.2 = X.env.qual ++ "<lambda>") (hT : c.T = T)
    (he : DE X c ρ ev (.d yv) ρ1) (L : LamF X.env params scope N ps fr) (hjs : js.map (fun j => X.N[j]?) = fr.map some) (hcap : js.map (fun j => ρ1[j]?) = dsl.map (fun d => some (.d d))) (hR : ∀ as r, R as r → as.length = ps.length)
    (hbody : ∀ (A : Around) (outer : List Env) (s : Shared) (H : Hp) (f : Addr) (E : XK) (cl : List (Str × Addr)) (c' : Addr) (c : Cc) (as : List Ar) (y : PyData), c.T = T → RoomG k (lamX X N params scope cl c' f A outer s H E).A → R as (.d y) → ∃ ρ', DE (lamX X N params scope cl c' f A outer s H E) c (startS N (as.map Ar.sl ++ dsl.map .d)) body (.d y) ρ')
    (hfw : ∀ (B : Bd) (c0 : Cc) (f' : Addr), c0.T = T → RoomG (k + 1) (B.X X.prog X.w X.K X.mg X.base Ng x sg).A → CallR (B.X X.prog X.w X.K X.mg X.base Ng x sg) c0 f' R → DSs (B.X X.prog X.w X.K X.mg X.base Ng x sg) c0 (startS Ng [.d yv, .v (.ref f')]) bg (retP (.d y)))
    (hg : Gl X x := by rfl) (hdb : (x == ("__debug__" : Str)) = false := by decide) (hs1 : starEach [ev, .Lambda params body scope lpos] X.env = (false, eval ev X.env) :: starEach [.Lambda params body scope lpos] X.env := by rfl)
    (hs2 : (backTo pos (starEach [.Lambda params body scope lpos] X.env)).any (·.1) = false := by rfl) :
    DE X c ρ (.Call (.Name x p) [ev, .Lambda params body scope lpos] [] pos) (.d y) ρ1 := by
  refine ⟨fun pins s σ H Q I ⟨O, E, kk⟩ => ?_⟩
  refine wpAny_Call_Name_kw (ld_glob I hg hm ?_ hdb)
  refine PySem.W.callWith_K (h₀ := X.base) I.ok.mod.kin hk ?_ hs1 hs2
  rw [hs1]
  show wpAny _ _ (spliced ((false, eval ev X.env) :: (false, eval (.Lambda params body scope lpos) X.env) :: backTo pos (starEach [] X.env))) _ _ s
  refine Calls.spliced_cons (thn (he.run pins s σ H (fun v H1 => Est O H H1 ∧ En X.K c O H1 σ ρ1 ∧ Rp X.K (cut H1 O) v yv) I ⟨O, E, fun v H1 e1 E1 v1 => ⟨e1, E1, v1⟩⟩) fun u s1 ⟨v, H1, I1, r1, e1, E1, v1⟩ => ?_)
  have hT1 : Tabs T H1 := by rw [← hT]; exact E1.tb
  refine Calls.spliced_cons (lam_make3 I1 tabB hcd hin hone hT1 L.df (fun y hy e => (L.free y hy e).elim (fun z => I1.ok.has _ (.inl z)) fun z => I1.ok.has _ (.inr z)) fun f c' pm ctv H2 s2 I2 q2 T2 hf hfn hfr hco => ?_)
  refine Calls.spliced_nil ⟨I2.kIn, ?_⟩
  have E2 := E1.stepQ q2 (by rw [hT]; exact T2)
  obtain ⟨ws, hw1, hw2, hw3⟩ := cap_slots E2 hcap
  have v2 : Rp X.K (cut H2 O) v yv := v1.mono (Est.ofQ q2).cut
  have rc : codeAny (model X.prog X.w) X.A (.call (.ref g) ⟨[u, .ref f], []⟩) (CR (L2.CX X.prog X.w) X.stack X.prog X.w H2 s2 Q E0) s2 := by
    refine run_def (N := Ng) (ps := psg) (us := [u, .ref f]) (vs := [v, .ref f]) Fg Sg hr I2.env0 (hb s2 [u, .ref f] I2.kIn (by rw [hpl]; rfl)) (.cons r1 (.cons rfl .nil)) (by rw [hpl]; rfl) fun cd hr' => ?_
    have C := lam_callR (f := f) (O := O) (T := T) (R := R) (k := k) (Z := (Bd.mk g cd X.A X.stack s2 H2 E0).X X.prog X.w X.K X.mg X.base Ng x sg) (Ng := Ng) (qg := x) (sg := sg) (g := g) (cdg := cd) rfl I2 L hf hfn hfr hco hjs hw1 hr' hR hw2 hbody
    refine ⟨_, hfw (Bd.mk g cd X.A X.stack s2 H2 E0) ⟨none, O, H2, ws.zip dsl, [], T⟩ f rfl hr' C, O, ?_, ?_⟩
    · have st : En X.K ⟨none, O, H2, [], [], T⟩ O H2 (L2.start Ng [v, .ref f]) (startS Ng [.d yv, .v (.ref f)]) :=
        en_start rfl rfl rfl rfl (fun _ z => by cases z) E2.mu T2 (.cons ⟨v, rfl, v2⟩ (.cons rfl .nil)) fun i j w z p q h1 _ => by
          match i, h1 with
          | 0, h1 => cases h1
          | 1, h1 => cases h1
      exact st.setG hw3
    · have fin : ∀ O' (σ' : L2.St) H' ρ', En X.K ⟨none, O, H2, ws.zip dsl, [], T⟩ O' H' σ' ρ' → Kq H2 H' := fun O' σ' H' ρ' E => ⟨fun b o h n => E.fm b o (fun z => by cases z) h n, E.tk⟩
      have out : ∀ (z : V) O' (σ' : L2.St) H' ρ', En X.K ⟨none, O, H2, ws.zip dsl, [], T⟩ O' H' σ' ρ' → Rp X.K (cut H' O) z y → Q z H' := fun z O' σ' H' ρ' E' rz =>
        kk z H' ((e1.trans (Est.ofQ q2)).trans (Est.ofQ (fin _ _ _ _ E'))) (E2.stepQ (fin _ _ _ _ E') (by rw [hT]; exact E'.tb)) rz
      exact ⟨fun O' σ' H' ρ' e E' => out .non O' σ' H' ρ' E' (by cases e; exact Rp.non), fun _ _ _ _ z => z.elim, fun _ _ _ _ z => z.elim, fun r' O' σ' H' ρ' z e E' rk => out z O' σ' H' ρ' E' (by
        have e' : r' = .d y := e
        subst e'
        exact rk)⟩
  refine wpAny_call (codeAny_mono rc fun r s' hq => ?_)
  have q := FnG.ends I2 hq
  cases r with
  | error u => exact q
  | ok fl => cases fl <;> exact q
end
end DL
set_option Elab.async false
set_option linter.all false
set_option maxRecDepth 100000
set_option maxHeartbeats 4000000
namespace DL
open PySem PySem.Spec PyProof.Rows L2 LamX
/-! ### a law's end -/
/-- the heap as it is read at the law's call: the tables, and the script if it is no part of the head's writing -/
def HpS (K : PySem.W.Frag) (tabs : List Addr) (a : Addr) (vs : List Value) (ns : List Int) : Hp := fun b =>
  if b ∈ tabs then some (.tbl #[]) else if b = a ∧ K.lookup a = none then some (.frz { cls := .type "list", data := .seq vs.toArray } (.lst (ns.map V.int))) else none
theorem rp_ints (K : PySem.W.Frag) (I : Hp) : ∀ ns : List Int, RpAll K I (ns.map V.int) (ns.map PyData.int)
  | [] => .nil
  | n :: ns => .cons (.int n) (rp_ints K I ns)
section
variable {K : PySem.W.Frag} {tabs : List Addr} {a b : Addr} {vs : List Value} {ns : List Int}
theorem hpS_tab (h : b ∈ tabs) : HpS K tabs a vs ns b = some (.tbl #[]) := if_pos h
theorem hpS_cases {u : HO} (h : HpS K tabs a vs ns b = some u) : (b ∈ tabs ∧ u = .tbl #[]) ∨ (b ∉ tabs ∧ b = a ∧ K.lookup a = none ∧ u = .frz { cls := .type "list", data := .seq vs.toArray } (.lst (ns.map V.int))) := by
  unfold HpS at h
  split at h
  · rename_i m
    exact .inl ⟨m, (Option.some.inj h).symm⟩
  · rename_i m
    split at h
    · rename_i e
      exact .inr ⟨m, e.1, e.2, (Option.some.inj h).symm⟩
    · cases h
end
theorem noCX {P : Program} {w : World} {outer : List Env} {H : Hp} {s s' : Shared} {u : Value} (h : L2.CX P w outer H s E0 u s') : False := by
  obtain ⟨_, _, _, _, _, _, _, _, _, _, _, _, z⟩ := h
  exact z.elim
theorem law_callG {P : Program} {w : World} {K : PySem.W.Frag} {mg mb : Str → Option Value} {k : Nat} {fa a : Addr} {cs : List (Addr × Addr)} {T : List (Addr × Str)} {fd : FuncData} {x : Str} {R : List Ar → Re → Prop} {s₁ : Shared} {vs : List Value} {ns : List Int}
    (inK : K.In s₁.heap) (nsG : s₁.heap.Ns mainGlobals mg) (nsB : s₁.heap.Ns builtinsNs mb) (nsBB : ∀ x : Str, x ≠ "__name__" → mb x = bootBuiltins x) (nl : s₁.heap.NoLimit) (gens0 : s₁.gens = #[])
    (tab0 : ∀ p ∈ cs, s₁.heap.get? p.2 = some { cls := .none, data := .fields #[] }) (tabK : ∀ p ∈ cs, K.lookup p.2 = none) (hdC : ∀ p ∈ cs, PySem.W.CodeHd s₁.heap p.1 p.2)
    (bmain : ∃ (bm : Addr) (ob : Obj), mg "__builtins__" = some (.ref bm) ∧ bm ≠ builtinsNs ∧ s₁.heap.get? bm = some ob ∧ ob.cls = .type "module" ∧ ob.dict = some builtinsNs ∧ ob.data = .plain)
    (la : s₁.heap.get? a = some { cls := .type "list", data := .seq vs.toArray }) (li : IntsAre vs ns) (ll : ns.length ≤ sizeLine) (hr : RoomG k callerA) (hTc : ∀ p ∈ T, ∃ q ∈ cs, q.2 = p.1)
    (F : ∀ base : Heap, K.In base → base.Ns mainGlobals mg → (∀ p ∈ cs, TabB base mg p.1 p.2) → FnG P w K mg base k fa fd [x] (spF T K R)) (hbind : ∀ (s : Shared) (u : Value), BindsTo s fd ⟨[u], []⟩ [(x, u)])
    (hR : R [.d (.list (ns.map PyData.int))] (.d (.bool true))) :
    codeAny (model P w) callerA (.call (.ref fa) ⟨[.ref a], []⟩) (fun r s' => r = .ok (.ret (.bool true)) ∧ OldK s₁.heap s'.heap ∧ s'.os = s₁.os ∧ AllBare s'.gens) s₁ := by
  let tabs := cs.map (·.2)
  let H := HpS K tabs a vs ns
  have rawT : ∀ b ∈ tabs, s₁.heap.get? b = some { cls := .none, data := .fields #[] } := fun b hb => by
    obtain ⟨p, hp, rfl⟩ := List.mem_map.mp hb
    exact tab0 p hp
  have kT : ∀ b ∈ tabs, K.lookup b = none := fun b hb => by
    obtain ⟨p, hp, rfl⟩ := List.mem_map.mp hb
    exact tabK p hp
  have memT : ∀ p ∈ cs, p.2 ∈ tabs := fun p hp => List.mem_map.mpr ⟨p, hp, rfl⟩
  have aT : a ∉ tabs := fun z => by
    have q := la.symm.trans (rawT a z)
    have z2 : Data.seq vs.toArray _ = Data.fields #[] := congrArg Obj.data (Option.some.inj q)
    cases z2
  have hok : HOk P w H s₁.heap := fun b u e => by
    rcases hpS_cases e with ⟨m, rfl⟩ | ⟨_, rfl, _, rfl⟩
    · exact rawT b m
    · exact ⟨la, by rw [List.length_map]; exact ll, vs, _, vals_ints li, la⟩
  -- an object that is neither a table nor the script is not read
  have notIn : ∀ {b : Addr} {o : Obj}, s₁.heap.get? b = some o → (∀ us n, o.data ≠ .seq us n) → o.data ≠ .fields #[] → H b = none := fun {b o} e h1 h2 => by
    cases q : H b with
    | none => rfl
    | some u =>
      exfalso
      rcases hpS_cases q with ⟨m, _⟩ | ⟨_, rfl, _, _⟩
      · rw [rawT b m] at e
        cases e
        exact h2 rfl
      · rw [la] at e
        cases e
        exact h1 _ _ rfl
  have nsH : ∀ {b : Addr} {m : Str → Option Value}, s₁.heap.Ns b m → (hidT s₁.heap H).Ns b m := fun {b m} ⟨o, es, ep, e, d, r⟩ =>
    ⟨o, es, ep, hidT_get e (notIn e (fun us n z => by rw [d] at z; cases z) (fun z => by rw [d] at z; cases z)), d, r⟩
  have inB : K.In (hidT s₁.heap H) := fun b o e => hidT_get (inK b o e) (by
    cases q : H b with
    | none => rfl
    | some u =>
      exfalso
      rcases hpS_cases q with ⟨m, _⟩ | ⟨_, rfl, z, _⟩
      · rw [kT b m] at e
        cases e
      · rw [z] at e
        cases e)
  have nG : ∀ {bm : Addr} {ob : Obj}, s₁.heap.get? bm = some ob → ob.data = .plain → bm ≠ mainGlobals := fun e d q => by
    obtain ⟨o, es, ep, e2, hd, _⟩ := nsG
    rw [q, e2] at e
    cases e
    rw [hd] at d
    cases d
  have TB : ∀ p ∈ cs, TabB (hidT s₁.heap H) mg p.1 p.2 := fun p hp => by
    refine ⟨?_, ?_, fun z => ?_⟩
    · obtain ⟨o, us, file, tf, flags, tg, inF, text, tt, e1, r1, r2, r3, rest⟩ := hdC p hp
      exact ⟨o, us, file, tf, flags, tg, inF, text, tt, hidT_get e1 (notIn e1 (fun us n z => by rw [r2] at z; cases z) (fun z => by rw [r2] at z; cases z; simp at r3)), r1, r2, r3, rest⟩
    · obtain ⟨bm, ob, b1, b2, b3, b4, b5, b6⟩ := bmain
      refine ⟨bm, ob, b1, b2, nG b3 b6, fun q => ?_, hidT_get b3 (notIn b3 (fun us n z => by rw [b6] at z; cases z) (fun z => by rw [b6] at z; cases z)), b4, b5, b6⟩
      rw [q, tab0 p hp] at b3
      cases b3
      cases b6
    · obtain ⟨o, es, ep, e, hd, _⟩ := nsG
      have e2 := tab0 p hp
      rw [← z, e] at e2
      cases e2
      cases hd
  have e0 : Env0 P w K mg (hidT s₁.heap H) callerA [] s₁ H :=
    ⟨rfl, ⟨inB, nsH nsG, ⟨mb, nsH nsB, nsBB⟩, let ⟨mc, h1, h2⟩ := nl; ⟨mc, nsH h1, h2⟩⟩, fun b o e => of_hidT e, Nat.le_of_eq (hidT_size _ _), trivial, fun b hb => absurd (show b ∈ ([] : List Addr) from hb) (by simp), hok, .of_eq gens0⟩
  have rS : Rp K (cut H []) (.ref a) (.list (ns.map PyData.int)) := by
    refine .lst ?_ (rp_ints K _ ns)
    cases q : K.lookup a with
    | some o =>
      have e := inK a o q
      rw [la] at e
      cases e
      exact .inr ⟨_, vs.toArray, _, q, rfl, rfl, rfl, by rw [List.size_toArray, li.length]; exact ll, by simpa using vals_ints li⟩
    | none => exact .inl (.inr ⟨{ cls := .type "list", data := .seq vs.toArray }, by rw [cut_out (by simp)]; exact (if_neg aT).trans (if_pos ⟨rfl, q⟩)⟩)
  have tS : LamX.Tabs T H := fun p hp => by
    obtain ⟨q, hq, e⟩ := hTc p hp
    rw [← e]
    exact TabS.nil (hpS_tab (memT q hq))
  have run := (F _ inB (nsH nsG) TB).run callerA [] s₁ H ⟨[.ref a], []⟩ [.ref a] [.ref a] (fun v _ => v = .bl true) E0 hr e0 (hbind s₁ (.ref a)) (.cons rfl .nil)
    ⟨[], [.d (.list (ns.map PyData.int))], .d (.bool true), (fun b hb => by cases hb), tS, .cons rS .nil, hR, fun v H' _ _ rk => by cases rk; rfl⟩
  refine codeAny_mono run fun r s' h => ?_
  cases r with
  | error e => exact (noCX h).elim
  | ok fl =>
    cases fl with
    | next => exact False.elim h
    | brk => exact False.elim h
    | cont => exact False.elim h
    | ret u =>
      obtain ⟨v, H', os, bare, un, hok', r', q⟩ := h
      subst q
      cases r'
      have big : ∀ b ∈ tabs, ∃ more : Array Value, s'.heap.get? b = some { cls := .none, data := .fields more } := fun b hb => by
        obtain ⟨more, z⟩ := un.tbls b #[] (hpS_tab hb)
        exact ⟨_, hok' b _ z⟩
      have same : ∀ b o, b ∉ tabs → s₁.heap.get? b = some o → s'.heap.get? b = some o := fun b o nb e => by
        cases q : H b with
        | none => exact un.keep b o e q (fun z => absurd (show b ∈ ([] : List Addr) from z) (by simp)) (by simp)
        | some u =>
          rcases hpS_cases q with ⟨m, _⟩ | ⟨_, rfl, _, rfl⟩
          · exact absurd m nb
          · obtain ⟨e2, _⟩ := hok' b _ (un.frzs b _ _ q)
            rw [la] at e
            cases e
            exact e2
      refine ⟨rfl, ⟨fun b o e => ?_, fun b o e => ?_⟩, os, bare⟩
      · by_cases hb : b ∈ tabs
        · obtain ⟨p, hp, rfl⟩ := List.mem_map.mp hb
          obtain ⟨more, hm⟩ := big _ hb
          rw [tab0 p hp] at e
          cases e
          exact .inr (.inl ⟨((hdC p hp).tab (tab0 p hp)).isCodeTable, rfl, #[], more, rfl, by rw [Array.empty_append]; exact hm⟩)
        · exact .inl (same b o hb e)
      · by_cases hb : b ∈ tabs
        · obtain ⟨more, hm⟩ := big b hb
          exact ⟨_, hm⟩
        · exact ⟨o, same b o hb e⟩
/-- what is known of the law's def at the head's heap -/
def LawG (l : PySem.W.OpenLaw) (w : World) (K : PySem.W.Frag) (k n : Nat) (x : Str) (mg : Str → Option Value) (fa : Addr) (h : Heap) : Prop :=
  ∃ (fd : FuncData) (cs : List (Addr × Addr)) (T : List (Addr × Str)) (R : List Ar → Re → Prop), (∀ p ∈ cs, h.get? p.2 = some { cls := .none, data := .fields #[] }) ∧ (∀ p ∈ cs, K.lookup p.2 = none) ∧ (∀ p ∈ cs, PySem.W.CodeHd h p.1 p.2) ∧ (∀ p ∈ T, ∃ q ∈ cs, q.2 = p.1) ∧ (∀ (s : Shared) (u : Value), BindsTo s fd ⟨[u], []⟩ [(x, u)]) ∧
    (∀ ns : List Int, ns.length ≤ n → (∀ z ∈ ns, Builtin.Int.intBits z ≤ 1048576) → R [.d (.list (ns.map PyData.int))] (.d (.bool true))) ∧
    ∀ base : Heap, K.In base → base.Ns mainGlobals mg → (∀ p ∈ cs, TabB base mg p.1 p.2) → FnG l.prog w K mg base k fa fd [x] (spF T K R)
theorem walk_G {l : PySem.W.OpenLaw} {n k : Nat} {q : Program} {loose : List Str} {XP : (Str → Option Value) → Heap → Prop} {YP : World → Heap → Prop} {d : DefRec} {x : Str}
    (hn : l.most = some n) (hn2 : n ≤ sizeLine) (hdf : d.params.defaults = []) (hr : RoomG k callerA)
    (F : ∀ (w : World) (mg : Str → Option Value) (fa : Addr) (h : Heap), YP w h → h.Ns mainGlobals mg → mg d.name = some (.ref fa) → ∃ K : PySem.W.Frag, K.In h ∧ LawG l w K k n x mg fa h) :
    PySem.W.WalkO q loose XP YP l.row.toRowW d [] (fun f vs => PySem.call f vs) := by
  refine Att.attach_callB hn hdf fun w s₀ s₁ mg mb fa o pm cd doc a vs ns G Y ho hd hcd hmg hobj hints hlen hbits hg => ?_
  obtain ⟨K, inK, fd, cs, T, R, h1, h2, h3, h4, h5, h6, h7⟩ := F w mg fa _ Y G.T.g hmg
  exact law_callG inK G.T.g G.T.b G.T.builtins G.T.nolimit hg h1 h2 h3 G.T.bmain hobj hints (Nat.le_trans hlen hn2) hr h4 h7 h5 (h6 ns hlen hbits)
end DL
set_option Elab.async false
set_option linter.all false
set_option maxRecDepth 100000
set_option maxHeartbeats 4000000
namespace DL
open PySem PySem.Spec L2
/-! ### what a def may call -/
structure Cal (P : Program) (w : World) (K : PySem.W.Frag) (mg : Str → Option Value) (base : Heap) (T : List (Addr × Str)) (k : Nat) (x : Str) (ps : List Str) (R : List Ar → Re → Prop) : Prop where
  ex : ∃ f fd, FnG P w K mg base k f fd ps (spF T K R) ∧ mg x = some (.ref f) ∧ PySem.W.keepIn K (.ref f) = true ∧ Binds K fd ps []
structure CalB (P : Program) (w : World) (K : PySem.W.Frag) (mg : Str → Option Value) (base : Heap) (T : List (Addr × Str)) (k : Nat) (x : Str) (ps : List Str) (R : PyData → List Ar → Re → PyData → Prop) : Prop where
  ex : ∃ f fd, FnG P w K mg base k f fd ps (spB T K R) ∧ mg x = some (.ref f) ∧ PySem.W.keepIn K (.ref f) = true ∧ Binds K fd ps []
/-- defaults das behind what is written -/
structure CalD (P : Program) (w : World) (K : PySem.W.Frag) (mg : Str → Option Value) (base : Heap) (T : List (Addr × Str)) (k : Nat) (x : Str) (ps : List Str) (das : List Ar) (R : List Ar → Re → Prop) : Prop where
  ex : ∃ f fd dvs dsv, FnG P w K mg base k f fd ps (spF T K R) ∧ mg x = some (.ref f) ∧ PySem.W.keepIn K (.ref f) = true ∧ Binds K fd ps dsv ∧ Vals dvs dsv ∧ ∀ O H, Paired (fun v a => AOk K O H v a) dvs das
/-- every argument by its name, ks the names as they are written -/
structure CalK (P : Program) (w : World) (K : PySem.W.Frag) (mg : Str → Option Value) (base : Heap) (T : List (Addr × Str)) (k : Nat) (x : Str) (ps ks : List Str) (is : List Nat) (R : List Ar → Re → Prop) : Prop where
  ex : ∃ f fd, FnG P w K mg base k f fd ps (spF T K R) ∧ mg x = some (.ref f) ∧ PySem.W.keepIn K (.ref f) = true ∧ KB K fd ps ks is
section
variable {X : Cx} {c : Cc} {ρ ρ1 : List Sl} {k j : Nat} {ps ks : List Str} {is : List Nat} {x : Str} {p pos : Pos} {e : Expr} {es : List Expr} {kws : List Keyword} {Ws : List Wk} {as das : List Ar} {y z z' : PyData} {T : List (Addr × Str)} {R : List Ar → Re → Prop} {RB : PyData → List Ar → Re → PyData → Prop}
theorem de_fn (C : Cal X.prog X.w X.K X.mg X.base T k x ps R) (hr : RoomG j X.A) (hT : c.T = T) (ha : DA X c ρ (e :: es) Ws ρ1) (hR : R as (.d y)) (hw : ars Ws = some as := by rfl) (hk : k ≤ j := by decide) (hg : Gl X x := by rfl) (hdb : (x == ("__debug__" : Str)) = false := by decide)
    (he : starEach (e :: es) X.env = (false, eval e X.env) :: starEach es X.env := by rfl) (hpl : (backTo pos (starEach es X.env)).any (·.1) = false := by rfl) : DE X c ρ (.Call (.Name x p) (e :: es) [] pos) (.d y) ρ1 := by
  obtain ⟨f, fd, F, hm, hk', hb⟩ := C.ex
  exact de_call (F.mono hk) hr hm hk' hb hT ha hw hR hg hdb he hpl
theorem do_fn (C : Cal X.prog X.w X.K X.mg X.base T k x ps R) (hr : RoomG j X.A) (hT : c.T = T) (ha : DA X c ρ (e :: es) Ws ρ1) (hR : R as (.o y)) (hw : ars Ws = some as := by rfl) (hk : k ≤ j := by decide) (hg : Gl X x := by rfl) (hdb : (x == ("__debug__" : Str)) = false := by decide)
    (he : starEach (e :: es) X.env = (false, eval e X.env) :: starEach es X.env := by rfl) (hpl : (backTo pos (starEach es X.env)).any (·.1) = false := by rfl) : DO X c ρ (.Call (.Name x p) (e :: es) [] pos) y ρ1 := by
  obtain ⟨f, fd, F, hm, hk', hb⟩ := C.ex
  exact do_call (F.mono hk) hr hm hk' hb hT ha hw hR hg hdb he hpl
theorem de_fnD (C : CalD X.prog X.w X.K X.mg X.base T k x ps das R) (hr : RoomG j X.A) (hT : c.T = T) (ha : DA X c ρ (e :: es) Ws ρ1) (hR : R (as ++ das) (.d y)) (hw : ars Ws = some as := by rfl) (hk : k ≤ j := by decide) (hg : Gl X x := by rfl) (hdb : (x == ("__debug__" : Str)) = false := by decide)
    (he : starEach (e :: es) X.env = (false, eval e X.env) :: starEach es X.env := by rfl) (hpl : (backTo pos (starEach es X.env)).any (·.1) = false := by rfl) : DE X c ρ (.Call (.Name x p) (e :: es) [] pos) (.d y) ρ1 := by
  obtain ⟨f, fd, dvs, dsv, F, hm, hk', hb, hd, hdd⟩ := C.ex
  exact de_callD (F.mono hk) hr hm hk' hb hd hdd hT ha hw hR hg hdb he hpl
theorem de_fnB (n : Nat) {w : Bool} (C : CalB X.prog X.w X.K X.mg X.base T k x ps RB) (hr : RoomG j X.A) (hT : c.T = T) (ha : DA X c ρ (e :: es) (.n n :: Ws) ρ1) (hn : ρ1[n]? = some (.m w z)) (hR : RB z as (.d y) z') (hw : ars Ws = some as := by rfl) (hk : k ≤ j := by decide) (hg : Gl X x := by rfl)
    (hdb : (x == ("__debug__" : Str)) = false := by decide) (he : starEach (e :: es) X.env = (false, eval e X.env) :: starEach es X.env := by rfl) (hpl : (backTo pos (starEach es X.env)).any (·.1) = false := by rfl) : DE X c ρ (.Call (.Name x p) (e :: es) [] pos) (.d y) (ρ1.set n (.m w z')) := by
  obtain ⟨f, fd, F, hm, hk', hb⟩ := C.ex
  exact de_callB' n (F.mono hk) hr hm hk' hb hT ha hn hw hR hg hdb he hpl
theorem de_fnK (C : CalK X.prog X.w X.K X.mg X.base T k x ps ks is R) (hr : RoomG j X.A) (hT : c.T = T) (ha : DK X c ρ kws Ws ρ1) (hR : R (perm is as) (.d y)) (hw : ars Ws = some as := by rfl) (hk : k ≤ j := by decide) (hl : Ws.length = ks.length := by rfl) (hg : Gl X x := by rfl)
    (hall : (backToKw pos (keywordEach kws X.env)).all (·.1.isSome) = true := by rfl) (hks : (backToKw pos (keywordEach kws X.env)).filterMap (·.1) = ks := by rfl) (hdb : (x == ("__debug__" : Str)) = false := by decide)
    (hpl : ((backTo pos (starEach [] X.env)).any (·.1) || (backToKw pos (keywordEach kws X.env)).any (·.1.isNone)) = false := by rfl) : DE X c ρ (.Call (.Name x p) [] kws pos) (.d y) ρ1 := by
  obtain ⟨f, fd, F, hm, hk', hb⟩ := C.ex
  exact de_callKW (F.mono hk) hr hm hk' hb hT ha hw hR hl hg hall hks hdb hpl
end
/-- f's own code keeps R: what others may call -/
theorem Cal.of {P : Program} {w : World} {K : PySem.W.Frag} {mg : Str → Option Value} {base : Heap} {T : List (Addr × Str)} {k : Nat} {x qual : Str} {ps : List Str} {R : List Ar → Re → Prop} {params : Arguments} {body : List Stmt} {scope : Scope} {kws : List (Str × V)} {f : Addr} {fd : FuncData}
    (F : FunD K x qual params body scope [] kws f fd) (g : mg x = some (.ref f)) (G : FnG P w K mg base k f fd ps (spF T K R))
    (h : ∀ (kV doc pm : Value) (an : Option Addr) (cdv ct : Value) (us : List Value), us.length = ps.length → bindArgs (PySem.W.fnOf x qual params body scope .none kV doc pm an cdv ct) ⟨us, []⟩ = pure (ps.zip us)) : Cal P w K mg base T k x ps R :=
  ⟨f, fd, G, g, F.kp, F.bindsN h⟩
theorem CalB.of {P : Program} {w : World} {K : PySem.W.Frag} {mg : Str → Option Value} {base : Heap} {T : List (Addr × Str)} {k : Nat} {x qual : Str} {ps : List Str} {R : PyData → List Ar → Re → PyData → Prop} {params : Arguments} {body : List Stmt} {scope : Scope} {kws : List (Str × V)} {f : Addr} {fd : FuncData}
    (F : FunD K x qual params body scope [] kws f fd) (g : mg x = some (.ref f)) (G : FnG P w K mg base k f fd ps (spB T K R))
    (h : ∀ (kV doc pm : Value) (an : Option Addr) (cdv ct : Value) (us : List Value), us.length = ps.length → bindArgs (PySem.W.fnOf x qual params body scope .none kV doc pm an cdv ct) ⟨us, []⟩ = pure (ps.zip us)) : CalB P w K mg base T k x ps R :=
  ⟨f, fd, G, g, F.kp, F.bindsN h⟩
theorem CalK.of {P : Program} {w : World} {K : PySem.W.Frag} {mg : Str → Option Value} {base : Heap} {T : List (Addr × Str)} {k : Nat} {x qual : Str} {ps ks : List Str} {is : List Nat} {R : List Ar → Re → Prop} {params : Arguments} {body : List Stmt} {scope : Scope} {kws : List (Str × V)} {f : Addr} {fd : FuncData}
    (F : FunD K x qual params body scope [] kws f fd) (g : mg x = some (.ref f)) (G : FnG P w K mg base k f fd ps (spF T K R))
    (h : ∀ (kV doc pm : Value) (an : Option Addr) (cdv ct : Value) (ws : List Value), ws.length = ks.length → bindArgs (PySem.W.fnOf x qual params body scope .none kV doc pm an cdv ct) ⟨[], ks.zip ws⟩ = pure (ps.zip (perm is ws))) : CalK P w K mg base T k x ps ks is R :=
  ⟨f, fd, G, g, F.kp, FunD.kb F h⟩
/-- floor division by a wide number -/
theorem de_fdivW {X : Cx} {c : Cc} {ρ ρ1 ρ2 : List Sl} {a b : Expr} {pos : Pos} {i j : Int} (ha : DE X c ρ a (.d (.int i)) ρ1) (hb : DE X c ρ1 b (.d (.int j)) ρ2) (h : 0 < j) (h2 : j.natAbs < 2 ^ 9000) : DE X c ρ (.BinOp a .FloorDiv b pos) (.d (.int (i / j))) ρ2 :=
  de_op op_fdivW ha hb (do2_I (f := fun i j => .int (i / j)) (fun _ _ _ => .int _) (wide_div (b := 9000) h h2 (by decide) (by decide)))
end DL
set_option Elab.async false
set_option linter.all false
set_option maxRecDepth 100000
set_option maxHeartbeats 4000000
namespace DL
open PySem PySem.Spec L2
/-! ### data that is shown and compared -/
structure Nice (k d n : Nat) (y : PyData) : Prop where
  lay : y.canLay0 = true
  sh : y.showable = true
  dep : y.depth ≤ d
  lv : y.leavesShort (k + 1) = true
  bk : y.bulk ≤ n
theorem shown_int (i : Int) : (PyData.shown (.int i)).length = (toString i).length := by
  show (Str.ofString (toString i)).length = _
  rw [ofString_length]
theorem Nice.int {k : Nat} {i : Int} (hk : 0 < k) (hk2 : k ≤ 500) (h : i.natAbs < 10 ^ k) : Nice k 0 0 (.int i) := by
  refine ⟨rfl, ?_, Nat.le_refl _, ?_, Nat.le_refl _⟩
  · refine decide_eq_true ?_
    by_cases h0 : i.natAbs = 0
    · rw [h0]; decide
    · rw [Nat.log2_lt h0]
      have h1 : (10 : Nat) ^ k ≤ 10 ^ 500 := Nat.pow_le_pow_right (by decide) hk2
      have h2 : (10 : Nat) ^ 500 < 2 ^ 1920 := by decide +kernel
      omega
  · refine decide_eq_true ?_
    rw [shown_int]
    exact int_text_length_le10 hk h
theorem Nice.bool {k : Nat} {b : Bool} : Nice k 0 0 (.bool b) := ⟨rfl, rfl, Nat.le_refl _, rfl, Nat.le_refl _⟩
theorem Nice.none {k : Nat} : Nice k 0 0 .none := ⟨rfl, rfl, Nat.le_refl _, rfl, Nat.le_refl _⟩
section
variable {k d n m : Nat} {ds : List PyData} {y : PyData}
theorem Nice.up {d' n' : Nat} (h : Nice k d n y) (hd : d ≤ d') (hn : n ≤ n') : Nice k d' n' y := ⟨h.lay, h.sh, Nat.le_trans h.dep hd, h.lv, Nat.le_trans h.bk hn⟩
theorem nice_all : ∀ {ds : List PyData}, (∀ y ∈ ds, Nice k d n y) → PyData.canLayAll0 ds = true ∧ PyData.showableAll ds = true ∧ PyData.depthAll ds ≤ d ∧ PyData.leavesShortAll (k + 1) ds = true ∧ PyData.bulkAll ds ≤ ds.length * (n + 1)
  | [], _ => ⟨rfl, rfl, Nat.zero_le _, rfl, Nat.zero_le _⟩
  | y :: r, h => by
    have hy := h y (by simp)
    obtain ⟨h1, h2, h3, h4, h5⟩ := nice_all fun z hz => h z (List.mem_cons_of_mem _ hz)
    refine ⟨by unfold PyData.canLayAll0; rw [hy.lay, h1]; rfl, by unfold PyData.showableAll; rw [hy.sh, h2]; rfl, ?_, by unfold PyData.leavesShortAll; rw [hy.lv, h4]; rfl, ?_⟩
    · unfold PyData.depthAll
      exact Nat.max_le.mpr ⟨hy.dep, h3⟩
    · unfold PyData.bulkAll
      rw [List.length_cons, Nat.add_mul, Nat.one_mul]
      have := hy.bk
      omega
theorem Nice.tup (h : ∀ y ∈ ds, Nice k d n y) (hm : ds.length ≤ m) : Nice k (d + 1) (m * (n + 1)) (.tuple ds) := by
  obtain ⟨h1, h2, h3, h4, h5⟩ := nice_all h
  exact ⟨by unfold PyData.canLay0; exact h1, by unfold PyData.showable; exact h2, by unfold PyData.depth; omega, by unfold PyData.leavesShort; exact h4, by unfold PyData.bulk; exact Nat.le_trans h5 (Nat.mul_le_mul_right _ hm)⟩
theorem Nice.lst (h : ∀ y ∈ ds, Nice k d n y) (hm : ds.length ≤ m) : Nice k (d + 1) (m * (n + 1)) (.list ds) := by
  obtain ⟨h1, h2, h3, h4, h5⟩ := nice_all h
  exact ⟨by unfold PyData.canLay0; exact h1, by unfold PyData.showable; exact h2, by unfold PyData.depth; omega, by unfold PyData.leavesShort; exact h4, by unfold PyData.bulk; exact Nat.le_trans h5 (Nat.mul_le_mul_right _ hm)⟩
theorem Nice.shaped (h : Nice k d n y) (hd : d ≤ 64 := by decide) : SeqAt.shaped y = true := by
  unfold SeqAt.shaped
  rw [h.lay, decide_eq_true (Nat.le_trans h.dep hd)]
  rfl
theorem Nice.fits (h : Nice k d n y) (hk : 8 ≤ k + 1) (hz : (k + 3) * n + (k + 1) ≤ 1000000) : y.shown.length ≤ sizeLine := by
  have h1 := PyData.shown_le_bulk (k + 1) hk y h.lv
  have h2 : (k + 1 + 2) * y.bulk ≤ (k + 3) * n := Nat.mul_le_mul_left _ h.bk
  rw [sizeLine_eq]
  omega
end
section
variable {X : Cx} {c : Cc} {ρ ρ1 ρ2 : List Sl} {a b : Expr} {pos p : Pos} {j k d n d' n' k' : Nat} {ds : List PyData} {y z : PyData} {W1 W2 : Wk}
theorem de_reprN (hr : RoomG j X.A) (hm : X.mg "repr" = none) (ha : DE X c ρ a W1 ρ1) (hq : Vw ρ1 W1 (.list ds)) (N : Nice k d n (.list ds)) (hk : 8 ≤ k + 1 := by decide) (hz : (k + 3) * n + (k + 1) ≤ 1000000 := by decide) (hd : d ≤ 60 := by decide) (hg : Gl X "repr" := by rfl)
    (h1 : starEach [a] X.env = (false, eval a X.env) :: starEach [] X.env := by rfl) (h3 : (backTo pos (starEach [] X.env)).any (·.1) = false := by rfl) : DE X c ρ (.Call (.Name "repr" p) [a] [] pos) (.d (.str (PyData.shown (.list ds)))) ρ1 :=
  de_repr hr.g hr.u hm ha hq (.inl ⟨_, rfl⟩) N.lay N.sh (Nat.le_trans N.dep hd) (N.fits hk hz) hg h1 h3
theorem eqv_self (h : Nice k d n y) : PyData.eqv y y = true := SeqAt.eqv_refl y h.lay
end
end DL
set_option Elab.async false
set_option linter.all false
set_option maxRecDepth 100000
set_option maxHeartbeats 4000000
namespace DL
open PySem PySem.Spec L2
/-! ### comprehensions, the common ones -/
section
variable {X : Cx} {c : Cc} {ρ ρ1 ρ2 ρ3 : List Sl} {it elt tg : Expr} {pos : Pos} {ys out : List PyData} {scope : Scope}
/-- [elt for x in it] -/
theorem do_lc1 (j : Nat) {x : Str} (hg : InB X scope (fun X' => PG X' tg (gName j))) (hc : X.calm = true) (hN : X.N.Nodup) (okb : BlkOk X.N X.env.scope scope [(x, j)]) (hi : DI X c ρ tg it ys ρ1) (Iv : Nat → List PyData → List Sl → Prop) (h0 : Iv 0 [] (ρ1.set j .un))
    (hs : ∀ c', Le c c' → ∀ (i : Nat) y acc ρ', Iv i acc ρ' → ys[i]? = some y → ∃ z ρ3, InB X scope (fun X' => DE X' c' (ρ'.set j (.d y)) elt (.d z) ρ3) ∧ acc.length < 100000 ∧ Iv (i + 1) (acc ++ [z]) (ρ3.set j .un))
    (hd : ∀ acc ρ', Iv ys.length acc ρ' → acc = out ∧ ρ'.set j .un = ρ2) (hf : ∀ x, foldedSetIterable it X.env x = pure x := by intro _; rfl) : DO X c ρ (.ListComp elt [⟨tg, it, [], 0⟩] scope pos) (.list out) ρ2 :=
  do_lc (own := [(x, j)]) (tg_name X.K j) hg hc hN okb hi Iv h0 (fun c' le i y acc ρ' iv hy => ⟨trivial, true, _, fun _ _ _ _ _ => dts_nil, fun _ => hs c' le i y acc ρ' iv hy, fun h => Bool.noConfusion h⟩) hd hf
/-- [elt for a, b in it] -/
theorem do_lc2 (j l : Nat) {x u : Str} (hjl : j ≠ l) (hg : InB X scope (fun X' => PG X' tg (gTup X.K 2 (gCons (gName j) (gCons (gName l) gNil))))) (hc : X.calm = true) (hN : X.N.Nodup) (okb : BlkOk X.N X.env.scope scope [(x, j), (u, l)]) (hi : DI X c ρ tg it ys ρ1)
    (Iv : Nat → List PyData → List Sl → Prop) (h0 : Iv 0 [] ((ρ1.set l .un).set j .un))
    (hs : ∀ c', Le c c' → ∀ (i : Nat) y acc ρ', Iv i acc ρ' → ys[i]? = some y → ∃ a b, y = .tuple [a, b] ∧ ∃ z ρ3, InB X scope (fun X' => DE X' c' ((ρ'.set j (.d a)).set l (.d b)) elt (.d z) ρ3) ∧ acc.length < 100000 ∧ Iv (i + 1) (acc ++ [z]) ((ρ3.set l .un).set j .un))
    (hd : ∀ acc ρ', Iv ys.length acc ρ' → acc = out ∧ (ρ'.set l .un).set j .un = ρ2) (hf : ∀ x, foldedSetIterable it X.env x = pure x := by intro _; rfl) : DO X c ρ (.ListComp elt [⟨tg, it, [], 0⟩] scope pos) (.list out) ρ2 :=
  do_lc (own := [(x, j), (u, l)]) (tg_pair X.K j l hjl) hg hc hN okb hi Iv h0 (fun c' le i y acc ρ' iv hy => by
    obtain ⟨a, b, e, z, ρ3, h1, h2, h3⟩ := hs c' le i y acc ρ' iv hy
    subst e
    exact ⟨⟨a, b, rfl⟩, true, _, fun _ _ _ _ _ => dts_nil, fun _ => ⟨z, ρ3, h1, h2, h3⟩, fun h => Bool.noConfusion h⟩) hd hf
end
end DL
set_option Elab.async false
set_option linter.all false
set_option maxRecDepth 100000
set_option maxHeartbeats 4000000
namespace DL
open PySem PySem.Spec L2 PyProof.Rows
/-! ### tuple * int -/
theorem tuple_mul1 (l : Addr) (items : Array Value) (n : Nat) (dd : Option Addr) (sl : Array (Option Value)) (u : Tok) :
    Meets (Builtin.«tuple.__mul__» ⟨[.ref l, .int 1 u], []⟩) (fun _ R s => s.heap.get? l = some { cls := .type "tuple", dict := dd, data := .seq items n, slots := sl } ∧ R (.ok (.ret (.ref l))) s) :=
  .of_wp fun prog w A R s h => by
    obtain ⟨hp, g, d, tk, os⟩ := s
    obtain ⟨hl, h⟩ := h
    have f1 := AutoSeq1.idx_int
    have c1 : (items.isEmpty || (1 : Int) == 1) = true := by simp
    wp_walk using wpAny_loadPart' hl
    repeat (first
      | (refine wpAny_ite_true (decide_eq_true c1) ?_; wp_walk using wpAny_loadPart' hl)
      | (refine wpAny_ite_true c1 ?_; wp_walk using wpAny_loadPart' hl))
    exact ⟨_, rfl, h⟩
theorem tuple_mul0 (l : Addr) (items : Array Value) (n : Nat) (dd : Option Addr) (sl : Array (Option Value)) (x : Int) (u : Tok) (c0 : (decide (x < -(2 ^ 63)) || decide (x ≥ 2 ^ 63)) = false) (c1 : (items.isEmpty || x == 1) = false) (c2 : (decide (x ≤ 0) || items.isEmpty) = true) :
    Meets (Builtin.«tuple.__mul__» ⟨[.ref l, .int x u], []⟩) (fun _ R s => s.heap.get? l = some { cls := .type "tuple", dict := dd, data := .seq items n, slots := sl } ∧
      R (.ok (.ret (.ref s.heap.objs.size))) { s with heap := s.heap.push { cls := .type "tuple", data := .seq #[] }, toks := s.toks }) :=
  .of_wp fun prog w A R s h => by
    obtain ⟨hp, g, d, tk, os⟩ := s
    obtain ⟨hl, h⟩ := h
    have f1 := AutoSeq1.idx_int
    wp_walk using wpAny_loadPart' hl
    repeat (first
      | (refine wpAny_ite_false (decide_eq_false (by rw [c0]; exact Bool.false_ne_true)) ?_; wp_walk using wpAny_loadPart' hl)
      | (refine wpAny_ite_false (decide_eq_false (by rw [c1]; exact Bool.false_ne_true)) ?_; wp_walk using wpAny_loadPart' hl)
      | (refine wpAny_ite_true (decide_eq_true c2) ?_; wp_walk using wpAny_loadPart' hl))
    exact ⟨_, rfl, h⟩
def rRepT1 (K : PySem.W.Frag) : R2 := fun x y H Q => ∃ l xs, x = .ref l ∧ y = .int 1 ∧ SqT K H l xs ∧ Q (.ref l) H
def rRepT0 (K : PySem.W.Frag) : R2 := fun x y H Q => ∃ l xs k, x = .ref l ∧ y = .int k ∧ SqT K H l xs ∧ xs ≠ [] ∧ k ≤ 0 ∧ -100000 ≤ k ∧ ∀ p, H p = none → Q (.ref p) (upd H p (.tup []))
section
variable {X : Cx}
theorem op_repT1 : OpR X (binaryOp .Mult) (rRepT1 X.K) := by
  intro pins s σ H x y v u Q I rx ry h
  obtain ⟨l, xs, rfl, rfl, hT, q⟩ := h
  cases rx
  obtain ⟨t, rfl⟩ := ry
  obtain ⟨its, r, ⟨⟨cls, dd, data, sl⟩, ho, hc, n, hd⟩, hs⟩ := I.tuple hT
  simp only at hc hd
  subst hc hd
  refine wpAny_binaryOp_repeat_ref (T := "tuple") (U := "int") (by decide) ⟨_, ho, rfl⟩ (fun s' => typeIs_int s' 1 t) noFill_tuple_mul F.fills_int_mul F.slot_int_rmul repeat_tuple F.slot_int_index.lookup
    (call_meets F.slot_int_rmul (typeIs_int s 1 t) F.entry_int_rmul (F.args_int_rmul_2 _ _) (int_rmul_tuple 1 t l its.toArray n dd sl)
      ⟨ho, rfl, ⟨_, ho, rfl⟩, call_meets F.slot_tuple_mul ⟨_, ho, rfl⟩ F.entry_tuple_mul (F.args_tuple_mul_2 _ _) (tuple_mul1 l its.toArray n dd sl t) ⟨ho, ?_⟩⟩)
  exact ⟨.ref l, H, I, rfl, q⟩
theorem op_repT0 : OpR X (binaryOp .Mult) (rRepT0 X.K) := by
  intro pins s σ H x y v u Q I rx ry h
  obtain ⟨l, xs, k, rfl, rfl, hT, hne, h1, h2, q⟩ := h
  cases rx
  obtain ⟨t, rfl⟩ := ry
  obtain ⟨its, r, ⟨⟨cls, dd, data, sl⟩, ho, hc, n, hd⟩, hs⟩ := I.tuple hT
  simp only at hc hd
  subst hc hd
  have hi : its.toArray.isEmpty = false := by
    cases its with
    | nil =>
      cases xs with
      | nil => exact absurd rfl hne
      | cons a b => have := r.length; simp at this
    | cons a b => rfl
  refine wpAny_binaryOp_repeat_ref (T := "tuple") (U := "int") (by decide) ⟨_, ho, rfl⟩ (fun s' => typeIs_int s' k t) noFill_tuple_mul F.fills_int_mul F.slot_int_rmul repeat_tuple F.slot_int_index.lookup
    (call_meets F.slot_int_rmul (typeIs_int s k t) F.entry_int_rmul (F.args_int_rmul_2 _ _) (int_rmul_tuple k t l its.toArray n dd sl)
      ⟨ho, rfl, ⟨_, ho, rfl⟩, call_meets F.slot_tuple_mul ⟨_, ho, rfl⟩ F.entry_tuple_mul (F.args_tuple_mul_2 _ _) (tuple_mul0 l its.toArray n dd sl k t (by rw [decide_eq_false (by omega), decide_eq_false (by omega)] <;> rfl) (by rw [hi, Bool.false_or]; exact beq_eq_false_iff_ne.mpr (by omega)) (by rw [decide_eq_true h1]; rfl)) ⟨ho, ?_⟩⟩)
  refine ⟨.ref s.heap.objs.size, _, I.laid (t' := s.toks) (o := .tup []) (fun b ob q => Heap.get?_push_of_some _ q) (Nat.le_refl _) ?_, rfl, q _ (I.hok.fresh (Nat.le_refl _))⟩
  exact ⟨Nat.zero_le _, [], .nil, IsTup.new _ _⟩
variable {c : Cc} {ρ ρ1 ρ2 : List Sl} {a b : Expr} {pos : Pos} {ds : List PyData} {k : Int}
theorem rep_all {K : PySem.W.Frag} {I : Hp} {xs : List V} (r : RpAll K I xs ds) : ∀ m : Nat, RpAll K I (List.replicate m xs).flatten (List.replicate m ds).flatten
  | 0 => .nil
  | m + 1 => by
    rw [List.replicate_succ, List.replicate_succ, List.flatten_cons, List.flatten_cons]
    exact r.append (rep_all r m)
/-- a tuple, not empty, k times -/
theorem de_repT (ha : DE X c ρ a (.d (.tuple ds)) ρ1) (hb : DE X c ρ1 b (.d (.int k)) ρ2) (hne : ds ≠ []) (h1 : -1000 ≤ k) (h2 : k ≤ 1000) (hz : ds.length ≤ 1000) : DE X c ρ (.BinOp a .Mult b pos) (.d (.tuple (List.replicate k.toNat ds).flatten)) ρ2 := by
  have hx : ∀ {K : PySem.W.Frag} {I : Hp} {xs : List V}, RpAll K I xs ds → xs ≠ [] := fun r e => hne (by
    subst e
    cases r
    rfl)
  by_cases q : k = 1
  · subst q
    refine de_op op_repT1 ha hb fun O σ H x y E v1 v2 Q kk => ?_
    cases v2
    cases v1 with
    | @tup l xs _ s r =>
      refine ⟨l, xs, rfl, rfl, sqT_mono cut_le s, kk _ H (Same.refl H) ?_⟩
      show Rp _ _ _ (.tuple (List.replicate 1 ds).flatten)
      rw [List.replicate_one, List.flatten_singleton]
      exact .tup s r
  · by_cases q2 : k ≤ 0
    · refine de_op op_repT0 ha hb fun O σ H x y E v1 v2 Q kk => ?_
      cases v2
      cases v1 with
      | @tup l xs _ s r =>
        refine ⟨l, xs, k, rfl, rfl, sqT_mono cut_le s, hx r, q2, by omega, fun p hp => kk _ _ (same_new hp) ?_⟩
        show Rp _ _ _ (.tuple (List.replicate k.toNat ds).flatten)
        rw [show k.toNat = 0 by omega]
        exact .tup (SqT.of (by rw [cut_out (E.notO hp)]; exact upd_same)) .nil
    · refine de_op op_repT ha hb fun O σ H x y E v1 v2 Q kk => ?_
      cases v2
      cases v1 with
      | @tup l xs _ s r =>
        refine ⟨l, k, xs, rfl, rfl, sqT_mono cut_le s, hx r, by omega, h2, by rw [r.length]; exact hz, fun p hp => kk _ _ (same_new hp) ?_⟩
        refine .tup (SqT.of (by rw [cut_out (E.notO hp)]; exact upd_same)) ?_
        have r2 : RpAll X.K (cut (upd H p (.tup (List.replicate k.toNat xs).flatten)) O) xs ds := r.mono (Est.of (O := O) (same_new hp)).cut
        exact rep_all r2 _
end
end DL
set_option Elab.async false
set_option linter.all false
set_option maxRecDepth 100000
/-! the head of a program that begins with imports -/
noncomputable section
namespace DLH
open PySem PySem.W PySem.Calls PyProof.Rows HandSHeadRun
/-- the opening's steps, to their end -/
def impF (st : SharedT → Thread → Option (SharedT × Thread)) : Nat → SharedT → Thread → Option SharedT
  | 0, _, _ => none
  | m + 1, s, t => match t.atExitBegin with
    | some [] => some s
    | some (_ :: _) => none
    | none => match st s t with
      | some (s', t') => frS s' fun s' => impF st m s' t'
      | none => none
theorem impF_ok {tb : String → Option Builtin} {p : Program} {w : World} : ∀ {m : Nat} {s s' : SharedT} {t : Thread}, impF (stepT (denote tb) p w) m s t = some s' → importEnds tb p w m s.abs t = some s'.abs
  | 0, _, _, _, h => by cases h
  | m + 1, s, s', t, h => by
    unfold impF at h
    unfold importEnds
    cases ha : t.atExitBegin with
    | some l =>
      rw [ha] at h
      cases l with
      | nil => cases h; rfl
      | cons _ _ => cases h
    | none =>
      rw [ha] at h
      cases hs : stepT (denote tb) p w s t with
      | none =>
        rw [hs] at h
        cases h
      | some r =>
        obtain ⟨s2, t2⟩ := r
        rw [hs] at h
        have h3 : (frS s2 fun s' => impF (stepT (denote tb) p w) m s' t2) = some s' := h
        rw [frS_eq] at h3
        have q := impF_ok h3
        show (match step (denote tb) p w s.abs t with
          | .go s' t' => importEnds tb p w m s' t'
          | .halt _ _ => none) = some s'.abs
        rw [stepT_spec hs]
        exact q
/-- the very first state, as a tree -/
def start0 (s : Shared) : SharedT := ⟨.nil, 0, s.heap.life, s.gens, s.drawn, s.toks, s.os⟩
theorem start0_abs (s : Shared) (h : s.heap.objs = #[]) : (start0 s).abs = s := by
  obtain ⟨⟨o, l⟩, g, d, k, os⟩ := s
  cases h
  rfl
/-- the opening's end, fenced -/
def openF (st : SharedT → Thread → Option (SharedT × Thread)) (M : Nat) (p : Program) : Option Shared := (impF st M (start0 (start (opening p)).1) (start (opening p)).2).bind fun s => fenceModules? p s.abs
/-- the opening, then the top behind it -/
def endI (st1 st2 : SharedT → Thread → Option (SharedT × Thread)) (M1 M : Nat) (p : Program) : Option (Shared × SharedT) := match openF st1 M1 p with
  | none => none
  | some s0 => match putAll s0.heap.objs.toList .nil 0 with
    | none => none
    | some (t, n) => (frNat n fun n0 => goF st2 n0 (s0.heap.nsMap mainGlobals "__annotations__") M ⟨t, n, s0.heap.life, s0.gens, s0.drawn, s0.toks, s0.os⟩ (topStub p)).map fun s => (s0, s)
theorem openF_ok {M1 N : Nat} {p : Program} {w : World} {s0 : Shared} (le : M1 ≤ N) (h0 : (start (opening p)).1.heap.objs = #[]) (h : openF (stepT (denote treeTable) (opening p) w) M1 p = some s0) : fencedOpening treeTable p w N = some s0 := by
  unfold openF at h
  cases e : impF (stepT (denote treeTable) (opening p) w) M1 (start0 (start (opening p)).1) (start (opening p)).2 with
  | none =>
    rw [e] at h
    cases h
  | some s =>
    rw [e] at h
    have q := impF_ok e
    rw [start0_abs _ h0] at q
    have r := importEnds_mono (N - M1) _ _ _ _ q
    rw [show M1 + (N - M1) = N by omega] at r
    unfold fencedOpening
    rw [r]
    exact h
theorem endI_ok {M1 M N : Nat} {p : Program} {w : World} {s0 : Shared} {s : SharedT} (le1 : M1 ≤ N) (le : M ≤ N) (h0 : (start (opening p)).1.heap.objs = #[]) (h : endI (stepT (denote treeTable) (opening p) w) (stepT (denote treeTable) p w) M1 M p = some (s0, s))
    (hg : (s0.heap.isNs mainGlobals && s0.gens.size == 0) = true) (hl : looksF p s0.heap s.abs = true) : openEnds treeTable p w N = some s.abs := by
  unfold endI at h
  cases e : openF (stepT (denote treeTable) (opening p) w) M1 p with
  | none =>
    rw [e] at h
    cases h
  | some s1 =>
    rw [e] at h
    have h1 : (match putAll s1.heap.objs.toList .nil 0 with
      | none => none
      | some (t, n) => (frNat n fun n0 => goF (stepT (denote treeTable) p w) n0 (s1.heap.nsMap mainGlobals "__annotations__") M ⟨t, n, s1.heap.life, s1.gens, s1.drawn, s1.toks, s1.os⟩ (topStub p)).map fun s => (s1, s)) = some (s0, s) := h
    cases e2 : putAll s1.heap.objs.toList .nil 0 with
    | none =>
      rw [e2] at h1
      cases h1
    | some r =>
      obtain ⟨t, n⟩ := r
      rw [e2] at h1
      have h2 : (frNat n fun n0 => goF (stepT (denote treeTable) p w) n0 (s1.heap.nsMap mainGlobals "__annotations__") M ⟨t, n, s1.heap.life, s1.gens, s1.drawn, s1.toks, s1.os⟩ (topStub p)).map (fun s => (s1, s)) = some (s0, s) := h1
      rw [frNat_eq] at h2
      obtain ⟨s2, g1, g2⟩ := Option.map_eq_some_iff.mp h2
      cases g2
      have q := goF_ok g1
      have eh := putAll_heap e2
      have en : n = s0.heap.objs.size := by
        rw [← eh]
        exact (absHeap_size t n _).symm
      have eb : (⟨t, n, s0.heap.life, s0.gens, s0.drawn, s0.toks, s0.os⟩ : SharedT).abs = s0 := by
        show (⟨absHeap t n s0.heap.life, s0.gens, s0.drawn, s0.toks, s0.os⟩ : Shared) = s0
        rw [eh]
      rw [eb, en] at q
      have r := topRun_mono (N - M) _ _ _ _ q
      rw [show M + (N - M) = N by omega] at r
      unfold openEnds
      rw [openF_ok le1 h0 e]
      show topFrom treeTable p w N s0 = _
      unfold topFrom
      rw [hg]
      show (topRun treeTable p w s0.heap.objs.size (s0.heap.nsMap mainGlobals "__annotations__") N s0 (topStub p)).bind _ = _
      rw [r]
      have hl' : (staticsOk (importedModules p.main.body) s0.heap s.abs.heap && namesBound p s.abs.heap && gensDone s.abs && laidKept s0.heap s.abs.heap) = true := hl
      show (match staticsOk (importedModules p.main.body) s0.heap s.abs.heap && namesBound p s.abs.heap && gensDone s.abs && laidKept s0.heap s.abs.heap with | true => some s.abs | false => none) = _
      rw [hl']
/-- the run's equation at a world -/
def RunI (r : OpenRow) (q : Program) (H : Hook) (ob : SharedT → H.α) (M1 M : Nat) (loose : List PySem.Str) (w : World) : Prop :=
  (endI (stepQ (denQ tabQ) (opening r.prog) w) (stepQ (denQ tabQ) r.prog w) M1 M r.prog).map (fun e => (e.1.heap.isNs mainGlobals && e.1.gens.size == 0, looksF r.prog e.1.heap e.2.abs, seenQ q loose (importedModules r.prog.main.body) (fun s => xlAt q [] s && recOk r.toRowW.records s) e.2.abs, ob e.2)) = some (true, true, openGood q loose, H.val w)
theorem head_imp {r : OpenRow} {q : Program} {H : Hook} {ob : SharedT → H.α} {M1 M : Nat} {loose : List PySem.Str} {d : DefRec} {kwd : List (PySem.Str × PySem.Expr)} (ho : ∀ s : SharedT, ob s = H.obs s.abs) (h0 : (start (opening r.prog)).1.heap.objs = #[]) (run : ∀ w, RunI r q H ob M1 M loose w)
    (hdef : defOf q r.name = some (d, kwd)) (hp : r.prog.theDef r.name = some (d.params, d.body, d.scope)) (hk : kwWritten? d.params.kwonlyargs d.params.kw_defaults = some kwd)
    (hwr : (!r.writes || r.records.isEmpty) = true) (k1 : r.wellSaid = true) (ok : (chainsOk q && opensWell r.prog && (frees r.toRowW && r.within.isEmpty)) = true) (hb : r.prog.bare) (hw : r.toRowW.promised)
    (call : WalkO q loose (XL q []) H.says r.toRowW d kwd fun f vs => PySem.call f vs) : r.Holds := by
  have left : LeftO r.prog q loose (fun s => xlAt q [] s && recOk r.toRowW.records s) H.obs H.val (M1 + M) true := fun w => by
    have z := run w
    have eo : ob = fun s => H.obs s.abs := funext ho
    unfold RunI at z
    rw [eo, ← tabQ_eq, ← denQ_eq, ← stepQ_eq] at z
    obtain ⟨⟨s0, s⟩, hs, hv⟩ := Option.map_eq_some_iff.mp z
    simp only [Prod.mk.injEq] at hv
    obtain ⟨v1, v2, v3, v4⟩ := hv
    have o := endI_ok (N := M1 + M) (by omega) (by omega) h0 hs v1 v2
    rw [o]
    rw [← seenQ_eq] at v3
    exact congrArg some (Prod.ext v3 v4)
  exact holds_open (r := r) (q := q) (loose := loose) (XP := XL q []) (YP := H.says) (d := d) (kwd := kwd) left H.of H.keeps (fun s z => xl_of s (Bool.and_eq_true_iff.mp z).1) XL.keeps hdef hp hk (fun s z => recFacts_of (Bool.and_eq_true_iff.mp z).2) hwr k1 ok hb hw call
end DLH
end
set_option Elab.async false
set_option linter.all false
set_option maxRecDepth 100000
set_option maxHeartbeats 4000000
namespace K63
open PySem PySem.Spec L2 DL
def top (i : Nat) : Stmt := PySem.Challenge.pw_tossplans_k63_whole_held_things.main.body.getD i (.Pass ⟨0, 0, 0, 0⟩)
abbrev s_is_whole : Stmt := top 5
abbrev s_is_number : Stmt := top 6
abbrev s_is_between : Stmt := top 7
abbrev s_is_tuple_of : Stmt := top 8
abbrev s_is_row : Stmt := top 9
abbrev s_first_wrong : Stmt := top 10
abbrev s_lowest : Stmt := top 12
abbrev s_is_fraction : Stmt := top 13
abbrev s_is_share : Stmt := top 14
abbrev s_less_by : Stmt := top 15
abbrev s_times : Stmt := top 16
abbrev s_held_by : Stmt := top 20
abbrev s_right_by : Stmt := top 21
abbrev s_is_coming : Stmt := top 22
abbrev s_wrong_told : Stmt := top 23
abbrev s_check_told : Stmt := top 24
abbrev s_wrong_weight : Stmt := top 25
abbrev s_check_weights : Stmt := top 26
abbrev s_held : Stmt := top 27
abbrev s_right_chances : Stmt := top 28
abbrev s_law_bag : Stmt := top 30
abbrev s_law_take : Stmt := top 31
abbrev s_law_pull : Stmt := top 32
abbrev s_law_lowest : Stmt := top 33
abbrev s_law_plus : Stmt := top 34
abbrev s_law_held : Stmt := top 35
abbrev s_law_told : Stmt := top 36
abbrev s_law_right : Stmt := top 37
abbrev s_law : Stmt := top 38
abbrev FnP (K : PySem.W.Frag) (x : Str) (st : Stmt) (f : Addr) (fd : FuncData) : Prop := FunD K x x (defArgs st) (defBody st) (defScope st) [] [] f fd
section
variable {P : Program} {w : World} {K : PySem.W.Frag} {mg : Str → Option Value} {base : Heap} {T : List (Addr × Str)} {f : Addr} {fd : FuncData}
theorem sc_is_whole : FnScope ["value"] ["value"] (defScope s_is_whole) := ⟨rfl, rfl, rfl, by decide +kernel, rfl, by decide +kernel, by decide +kernel⟩
theorem sc_is_number : FnScope ["value", "low", "high"] ["value", "low", "high"] (defScope s_is_number) := ⟨rfl, rfl, rfl, by decide +kernel, rfl, by decide +kernel, by decide +kernel⟩
theorem sc_is_between : FnScope ["value", "least", "most"] ["value", "least", "most"] (defScope s_is_between) := ⟨rfl, rfl, rfl, by decide +kernel, rfl, by decide +kernel, by decide +kernel⟩
theorem sc_is_tuple_of : FnScope ["value", "many"] ["value", "many"] (defScope s_is_tuple_of) := ⟨rfl, rfl, rfl, by decide +kernel, rfl, by decide +kernel, by decide +kernel⟩
theorem sc_is_row : FnScope ["value", "least", "most"] ["value", "least", "most"] (defScope s_is_row) := ⟨rfl, rfl, rfl, by decide +kernel, rfl, by decide +kernel, by decide +kernel⟩
theorem sc_first_wrong : FnScope ["value", "is_right", "index", "each"] ["value", "is_right"] (defScope s_first_wrong) := ⟨rfl, rfl, rfl, by decide +kernel, rfl, by decide +kernel, by decide +kernel⟩
/-! the promises, for what is right -/
def R_is_whole : List Ar → Re → Prop := fun as r => ∃ i : Int, as = [.d (.int i)] ∧ r = .d (.bool true)
def R_is_number : List Ar → Re → Prop := fun as r => ∃ i lo : Int, lo ≤ i ∧ as = [.d (.int i), .d (.int lo), .d .none] ∧ r = .d (.bool true)
def R_is_between : List Ar → Re → Prop := fun as r => ∃ i lo hi : Int, as = [.d (.int i), .d (.int lo), .d (.int hi)] ∧ r = .d (.bool (decide (lo ≤ i) && decide (i ≤ hi)))
def R_is_tuple_of : List Ar → Re → Prop := fun as r => ∃ (ds : List PyData) (n : Int), as = [.d (.tuple ds), .d (.int n)] ∧ r = .d (.bool (decide ((ds.length : Int) = n)))
def R_is_row : List Ar → Re → Prop := fun as r => ∃ (ds : List PyData) (lo hi : Int), as = [.d (.tuple ds), .d (.int lo), .d (.int hi)] ∧ r = .d (.bool (decide (lo ≤ (ds.length : Int)) && decide ((ds.length : Int) ≤ hi)))
theorem ok_is_whole (F : FnP K "is_whole" s_is_whole f fd) (g1 : mg "isinstance" = none) (g2 : mg "int" = none) (g3 : mg "bool" = none) : FnG P w K mg base 1 f fd ["value"] (spF T K R_is_whole) := by
  refine FnG.mkF F sc_is_whole (fun as r ⟨y, h, _⟩ => by rw [h]; rfl) fun B c as r hT hr ⟨y, h1, h2⟩ => ?_
  subst h1 h2
  exact dss_one (ds_ret (de_andP (de_isi (de_d 0 rfl) (de_ty g2 boot_tyInt) (.d) (isTy_int _) g1) fun _ => de_one (de_not (de_isi (de_d 0 rfl) (de_ty g3 boot_tyBool) (.d) (isTy_bool _) g1))) rfl)
theorem ok_is_number (F : FunD K "is_number" "is_number" (defArgs s_is_number) (defBody s_is_number) (defScope s_is_number) [.int 0, .non] [] f fd) (C1 : Cal P w K mg base T 1 "is_whole" ["value"] R_is_whole) : FnG P w K mg base 2 f fd ["value", "low", "high"] (spF T K R_is_number) := by
  refine FnG.mkF F sc_is_number (fun as r ⟨i, lo, _, h, _⟩ => by rw [h]; rfl) fun B c as r hT hr ⟨i, lo, hl, h1, h2⟩ => ?_
  subst h1 h2
  exact dss_one (ds_ret (de_andP (de_fn C1 hr hT (da_cons (de_d 0 rfl) da_nil) ⟨_, rfl, rfl⟩) fun _ => de_andP (de_le (de_d 1 rfl) (de_d 0 rfl)) fun _ => de_one (de_orP (l := true) (de_isN (de_d 2 rfl)) fun h => by cases h)) (by simp [retP, hl]))
theorem ok_is_between (F : FnP K "is_between" s_is_between f fd) (C1 : Cal P w K mg base T 1 "is_whole" ["value"] R_is_whole) : FnG P w K mg base 2 f fd ["value", "least", "most"] (spF T K R_is_between) := by
  refine FnG.mkF F sc_is_between (fun as r ⟨i, lo, hi, h, _⟩ => by rw [h]; rfl) fun B c as r hT hr ⟨i, lo, hi, h1, h2⟩ => ?_
  subst h1 h2
  exact dss_one (ds_ret (de_andP (de_fn C1 hr hT (da_cons (de_d 0 rfl) da_nil) ⟨_, rfl, rfl⟩) fun _ => de_one (de_chain op_le op_le (de_d 1 rfl) (de_d 0 rfl) fun _ => de_d 2 rfl)) rfl)
theorem ok_is_tuple_of (F : FnP K "is_tuple_of" s_is_tuple_of f fd) (g1 : mg "isinstance" = none) (g2 : mg "tuple" = none) (g3 : mg "len" = none) : FnG P w K mg base 1 f fd ["value", "many"] (spF T K R_is_tuple_of) := by
  refine FnG.mkF F sc_is_tuple_of (fun as r ⟨i, lo, h, _⟩ => by rw [h]; rfl) fun B c as r hT hr ⟨ds, n, h1, h2⟩ => ?_
  subst h1 h2
  exact dss_one (ds_ret (de_andP (de_isi (de_d 0 rfl) (de_ty g2 boot_tyTuple) (.d) (isTy_tup _) g1) fun _ => de_one (de_eqI (de_len g3 (de_d 0 rfl) .dt) (de_d 1 rfl))) rfl)
theorem ok_is_row (F : FnP K "is_row" s_is_row f fd) (g1 : mg "isinstance" = none) (g2 : mg "tuple" = none) (g3 : mg "len" = none) : FnG P w K mg base 1 f fd ["value", "least", "most"] (spF T K R_is_row) := by
  refine FnG.mkF F sc_is_row (fun as r ⟨i, lo, hi, h, _⟩ => by rw [h]; rfl) fun B c as r hT hr ⟨ds, lo, hi, h1, h2⟩ => ?_
  subst h1 h2
  exact dss_one (ds_ret (de_andP (de_isi (de_d 0 rfl) (de_ty g2 boot_tyTuple) (.d) (isTy_tup _) g1) fun _ => de_one (de_chain op_le op_le (de_d 1 rfl) (de_len g3 (de_d 0 rfl) .dt) fun _ => de_d 2 rfl)) rfl)
end
end K63
set_option Elab.async false
set_option linter.all false
set_option maxRecDepth 100000
set_option maxHeartbeats 4000000
namespace K63
open PySem PySem.Spec L2 DL
/-! first_wrong -/
/-- the first place where bs is false -/
def fwD : Nat → List Bool → PyData
  | _, [] => .none
  | i, b :: bs => if b = true then fwD (i + 1) bs else .int (i : Nat)
theorem fwD_at : ∀ {bs : List Bool} {i n : Nat}, (∀ j, j < i → bs[j]? = some true) → bs[i]? = some false → fwD n bs = .int ((n + i : Nat) : Int)
  | [], _, _, _, h => by simp at h
  | b :: bs, 0, n, _, h => by
    simp at h
    subst h
    simp [fwD]
  | b :: bs, i + 1, n, h0, h => by
    have e : b = true := by simpa using h0 0 (by omega)
    subst e
    unfold fwD
    rw [if_pos rfl, fwD_at (i := i) (fun j hj => by simpa using h0 (j + 1) (by omega)) (by simpa using h)]
    congr 2
    omega
theorem fwD_none : ∀ {bs : List Bool} {n : Nat}, (∀ j, j < bs.length → bs[j]? = some true) → fwD n bs = .none
  | [], _, _ => rfl
  | b :: bs, n, h0 => by
    have e : b = true := by simpa using h0 0 (by simp)
    subst e
    unfold fwD
    rw [if_pos rfl]
    exact fwD_none fun j hj => by simpa using h0 (j + 1) (by simpa using hj)
section
variable {P : Program} {w : World} {K : PySem.W.Frag} {mg : Str → Option Value} {base : Heap} {T : List (Addr × Str)} {f : Addr} {fd : FuncData}
theorem fw_body {B : Bd} {c0 : Cc} {f' : Addr} {R : List Ar → Re → Prop} {ds : List PyData} {bs : List Bool} (g1 : mg "enumerate" = none) (C : CallR (B.X P w K mg base ["value", "is_right", "index", "each"] "first_wrong" (defScope s_first_wrong)) c0 f' R) (hl : bs.length = ds.length)
    (hR : ∀ (i : Nat) d b, ds[i]? = some d → bs[i]? = some b → R [.d d, .d (.tuple (ds.take i))] (.d (.bool b))) :
    DSs (B.X P w K mg base ["value", "is_right", "index", "each"] "first_wrong" (defScope s_first_wrong)) c0 (startS ["value", "is_right", "index", "each"] [.d (.tuple ds), .v (.ref f')]) (defBody s_first_wrong) (retP (.d (fwD 0 bs))) := by
  refine dss_cons (fun _ => ∀ j, j < bs.length → bs[j]? = some true) (ds_for (fun i ρ' => (∀ j, j < i → bs[j]? = some true) ∧ ∃ s2 s3, ρ' = [.d (.tuple ds), .v (.ref f'), s2, s3]) .never rfl (di_enum g1 (de_d 0 rfl)) ⟨fun j hj => by omega, _, _, rfl⟩ (fun c' le i y ρ' ⟨hp, s2, s3, e⟩ hy => ?_) (fun ρ' ⟨hp, _⟩ => ?_)) fun ρ' h => ?_
  · subst e
    obtain ⟨d, hd, rfl⟩ := enumD_get hy
    have hi : i < bs.length := by rw [hl]; exact lt_of_get hd
    have hb : bs[i]? = some bs[i] := List.getElem?_eq_getElem hi
    refine ⟨_, dg_two 2 3 rfl sc_first_wrong.nd, ?_⟩
    have hc := hR i d bs[i] hd hb
    refine dss_one (ds_if (dt_not (dt_of (de_callR 1 C le rfl (da_cons (de_d 3 rfl) (da_cons ((de_slT (de_d 0 rfl) dp_no (dp_so (de_d 2 rfl))).is (by rw [cutL_to])) da_nil)) rfl hc))) (fun hk => ?_) fun hk => dss_nil ?_)
    · refine dss_one (ds_ret (de_d 2 rfl) ?_)
      have hk' : bs[i] = false := by simpa using hk
      show Re.d _ = Re.d _
      rw [fwD_at (i := i) hp (by rw [hb, hk'])]
      simp
    · have hk' : bs[i] = true := by simpa using hk
      refine ⟨fun j hj => ?_, _, _, rfl⟩
      rcases Nat.lt_succ_iff_lt_or_eq.mp hj with h | rfl
      · exact hp j h
      · rw [hb, hk']
  · rw [enumD_len, ← hl] at hp
    exact hp
  · exact dss_one (ds_ret de_non (by rw [show fwD 0 bs = .none from fwD_none h]; rfl))
end
end K63
set_option Elab.async false
set_option linter.all false
set_option maxRecDepth 100000
set_option maxHeartbeats 4000000
namespace K63
open PySem PySem.Spec L2 DL
/-! ### fractions in lowest terms -/
abbrev Fr : Type := Int × Int
def gcdI (a b : Int) : Int := ((Nat.gcd a.natAbs b.natAbs : Nat) : Int)
def low (a b : Int) : Fr := (a / gcdI a b, b / gcdI a b)
theorem gcdI_pos {a b : Int} (h : 0 < b) : 0 < gcdI a b := by
  unfold gcdI
  have : 0 < Nat.gcd a.natAbs b.natAbs := Nat.gcd_pos_of_pos_right _ (by omega)
  omega
theorem mm4 (a b c d : Int) : a * b * (c * d) = a * c * (b * d) := by ac_rfl
theorem gcdI_dvd_l (a b : Int) : gcdI a b ∣ a := Int.ofNat_dvd_left.mpr (Nat.gcd_dvd_left _ _)
theorem gcdI_dvd_r (a b : Int) : gcdI a b ∣ b := Int.ofNat_dvd_left.mpr (Nat.gcd_dvd_right _ _)
theorem low_mul_l (a b : Int) : (low a b).1 * gcdI a b = a := Int.ediv_mul_cancel (gcdI_dvd_l a b)
theorem low_mul_r (a b : Int) : (low a b).2 * gcdI a b = b := Int.ediv_mul_cancel (gcdI_dvd_r a b)
theorem gcdI_scale {k a b : Int} (hk : 0 < k) : gcdI (k * a) (k * b) = k * gcdI a b := by
  unfold gcdI
  rw [Int.natAbs_mul, Int.natAbs_mul, Nat.gcd_mul_left, Int.natCast_mul]
  congr 1
  omega
theorem low_scale {k a b : Int} (hk : 0 < k) : low (k * a) (k * b) = low a b := by
  unfold low
  rw [gcdI_scale hk, Int.mul_ediv_mul_of_pos _ _ hk, Int.mul_ediv_mul_of_pos _ _ hk]
theorem low_scale' {k a b : Int} (hk : 0 < k) : low (a * k) (b * k) = low a b := by
  rw [Int.mul_comm a k, Int.mul_comm b k, low_scale hk]
theorem low_cross {a b c d : Int} (hb : 0 < b) (hd : 0 < d) (h : a * d = c * b) : low a b = low c d := by
  rw [← low_scale' (a := a) (b := b) hd, h, Int.mul_comm b d, low_scale' hb]
theorem low_pos {a b : Int} (hb : 0 < b) : 0 < (low a b).2 := by
  have h := low_mul_r a b
  have g := gcdI_pos (a := a) hb
  rcases Int.lt_or_le 0 (low a b).2 with z | z
  · exact z
  · have : (low a b).2 * gcdI a b ≤ 0 := Int.mul_nonpos_of_nonpos_of_nonneg z (by omega)
    omega
theorem low_nonneg {a b : Int} (ha : 0 ≤ a) (hb : 0 < b) : 0 ≤ (low a b).1 := Int.ediv_nonneg ha (by have := gcdI_pos (a := a) hb; omega)
theorem low_le {a b : Int} (hb : 0 < b) : (low a b).2 ≤ b := by
  have h := low_mul_r a b
  have g := gcdI_pos (a := a) hb
  have p := low_pos (a := a) hb
  have : (low a b).2 * 1 ≤ (low a b).2 * gcdI a b := Int.mul_le_mul_of_nonneg_left (by omega) (by omega)
  omega
theorem low_le1 {a b : Int} (ha : 0 ≤ a) (hb : 0 < b) : (low a b).1 ≤ a := by
  have h := low_mul_l a b
  have g := gcdI_pos (a := a) hb
  have p := low_nonneg ha hb
  have : (low a b).1 * 1 ≤ (low a b).1 * gcdI a b := Int.mul_le_mul_of_nonneg_left (by omega) p
  omega
theorem low_mono {a b : Int} (hab : a ≤ b) (hb : 0 < b) : (low a b).1 ≤ (low a b).2 := Int.ediv_le_ediv (gcdI_pos hb) hab
theorem low_gcd {a b : Int} (hb : 0 < b) : gcdI (low a b).1 (low a b).2 = 1 := by
  have g := gcdI_pos (a := a) hb
  have e : gcdI (gcdI a b * (low a b).1) (gcdI a b * (low a b).2) = gcdI a b * gcdI (low a b).1 (low a b).2 := gcdI_scale g
  rw [Int.mul_comm _ (low a b).1, Int.mul_comm _ (low a b).2, low_mul_l, low_mul_r] at e
  have e2 : gcdI a b * 1 = gcdI a b * gcdI (low a b).1 (low a b).2 := by rw [Int.mul_one]; exact e
  exact (Int.eq_of_mul_eq_mul_left (by omega) e2).symm
theorem low_self {a b : Int} (h : gcdI a b = 1) : low a b = (a, b) := by
  unfold low
  rw [h, Int.ediv_one, Int.ediv_one]
theorem low_one {a : Int} (h : 0 < a) : low a a = (1, 1) := by
  have e := low_scale (k := a) (a := 1) (b := 1) h
  rw [Int.mul_one] at e
  rw [e]
  decide
theorem low_zero {b : Int} (h : 0 < b) : low 0 b = (0, 1) := by
  have e := low_scale (k := b) (a := 0) (b := 1) h
  rw [Int.mul_one, Int.mul_zero] at e
  rw [e]
  decide
/-- the product of two, of one and a bare one -/
theorem low_prod {a b c d : Int} (hb : 0 < b) (hd : 0 < d) : low ((low a b).1 * (low c d).1) ((low a b).2 * (low c d).2) = low (a * c) (b * d) := by
  have g1 := gcdI_pos (a := a) hb
  have g2 := gcdI_pos (a := c) hd
  rw [← low_scale' (k := gcdI a b * gcdI c d) (Int.mul_pos g1 g2)]
  congr 1
  · rw [mm4, low_mul_l, low_mul_l]
  · rw [mm4, low_mul_r, low_mul_r]
theorem low_prod1 {a b c d : Int} (hb : 0 < b) : low ((low a b).1 * c) ((low a b).2 * d) = low (a * c) (b * d) := by
  have g1 := gcdI_pos (a := a) hb
  rw [← low_scale' (k := gcdI a b) g1]
  congr 1
  · rw [Int.mul_right_comm, low_mul_l]
  · rw [Int.mul_right_comm, low_mul_r]
theorem low_sum {a b c d : Int} (hb : 0 < b) (hd : 0 < d) : low ((low a b).1 * (low c d).2 + (low c d).1 * (low a b).2) ((low a b).2 * (low c d).2) = low (a * d + c * b) (b * d) := by
  have g1 := gcdI_pos (a := a) hb
  have g2 := gcdI_pos (a := c) hd
  rw [← low_scale' (k := gcdI a b * gcdI c d) (Int.mul_pos g1 g2)]
  congr 1
  · rw [Int.add_mul, mm4, low_mul_l, low_mul_r, Int.mul_comm (gcdI a b), mm4, low_mul_l, low_mul_r]
  · rw [mm4, low_mul_r, low_mul_r]
/-! ### held things -/
/-- a chance: 0 ≤ p/q ≤ 1 in lowest terms -/
structure Sh (x : Fr) : Prop where
  nn : 0 ≤ x.1
  le : x.1 ≤ x.2
  pos : 1 ≤ x.2
  low : gcdI x.1 x.2 = 1
theorem Sh.of {a b : Int} (ha : 0 ≤ a) (hab : a ≤ b) (hb : 0 < b) : Sh (K63.low a b) := ⟨low_nonneg ha hb, low_mono hab hb, by have := low_pos (a := a) hb; omega, low_gcd hb⟩
theorem Sh.self {x : Fr} (h : Sh x) : K63.low x.1 x.2 = x := low_self h.low
def num : List Fr → Int
  | [] => 1
  | x :: r => (x.2 - x.1) * num r
def den : List Fr → Int
  | [] => 1
  | x :: r => x.2 * den r
theorem den_pos : ∀ {l : List Fr}, (∀ x ∈ l, Sh x) → 0 < den l
  | [], _ => by decide
  | x :: r, h => Int.mul_pos (by have := (h x (by simp)).pos; omega) (den_pos fun y hy => h y (List.mem_cons_of_mem _ hy))
theorem num_nonneg : ∀ {l : List Fr}, (∀ x ∈ l, Sh x) → 0 ≤ num l
  | [], _ => by decide
  | x :: r, h => Int.mul_nonneg (by have := (h x (by simp)).le; omega) (num_nonneg fun y hy => h y (List.mem_cons_of_mem _ hy))
theorem num_le : ∀ {l : List Fr}, (∀ x ∈ l, Sh x) → num l ≤ den l
  | [], _ => by decide
  | x :: r, h => by
    have hx := h x (by simp)
    have hr : ∀ y ∈ r, Sh y := fun y hy => h y (List.mem_cons_of_mem _ hy)
    have a1 : (x.2 - x.1) * num r ≤ x.2 * num r := Int.mul_le_mul_of_nonneg_right (by have := hx.nn; omega) (num_nonneg hr)
    have a2 : x.2 * num r ≤ x.2 * den r := Int.mul_le_mul_of_nonneg_left (num_le hr) (by have := hx.pos; omega)
    exact Int.le_trans a1 a2
theorem num_app : ∀ (l m : List Fr), num (l ++ m) = num l * num m
  | [], m => by simp [num]
  | x :: r, m => by
    show (x.2 - x.1) * num (r ++ m) = (x.2 - x.1) * num r * num m
    rw [num_app r m, Int.mul_assoc]
theorem den_app : ∀ (l m : List Fr), den (l ++ m) = den l * den m
  | [], m => by simp [den]
  | x :: r, m => by
    show x.2 * den (r ++ m) = x.2 * den r * den m
    rw [den_app r m, Int.mul_assoc]
/-- the chance of the thing of chance x, those behind it being r -/
def share (x : Fr) (r : List Fr) : Fr := low (x.1 * num r) (x.2 * den r)
def heldL : List Fr → List Fr
  | [] => []
  | x :: r => share x r :: heldL r
theorem heldL_len : ∀ l : List Fr, (heldL l).length = l.length
  | [] => rfl
  | x :: r => congrArg Nat.succ (heldL_len r)
theorem heldL_at : ∀ {l : List Fr} {i : Nat} {x : Fr}, l[i]? = some x → (heldL l)[i]? = some (share x (l.drop (i + 1)))
  | [], _, _, h => by simp at h
  | y :: r, 0, x, h => by
    simp at h
    subst h
    simp [heldL]
  | y :: r, i + 1, x, h => by
    have := heldL_at (l := r) (i := i) (by simpa using h)
    simpa [heldL] using this
theorem heldL_take {l : List Fr} {i : Nat} {x : Fr} (h : l[i]? = some x) : (heldL l).take (i + 1) = (heldL l).take i ++ [share x (l.drop (i + 1))] := by
  rw [List.take_add_one, heldL_at h]
  rfl
theorem share_snoc {x y : Fr} {r : List Fr} (hx : 0 < x.2) (hr : ∀ z ∈ r, Sh z) : share x (r ++ [y]) = low ((share x r).1 * (y.2 - y.1)) ((share x r).2 * y.2) := by
  unfold share
  rw [low_prod1 (Int.mul_pos hx (den_pos hr)), num_app, den_app]
  simp only [num, den, Int.mul_one]
  rw [Int.mul_assoc, Int.mul_assoc]
theorem share_step {x y : Fr} {r : List Fr} (hx : 0 < x.2) (hr : ∀ z ∈ r, Sh z) (hy : 0 < y.2) : share x (r ++ [y]) = low ((share x r).1 * (low (y.2 - y.1) y.2).1) ((share x r).2 * (low (y.2 - y.1) y.2).2) := by
  rw [show share x r = low (x.1 * num r) (x.2 * den r) from rfl, low_prod (Int.mul_pos hx (den_pos hr)) hy]
  unfold share
  rw [num_app, den_app]
  simp only [num, den, Int.mul_one]
  rw [Int.mul_assoc, Int.mul_assoc]
theorem share_nil {x : Fr} (hx : Sh x) : share x [] = x := by
  unfold share num den
  rw [Int.mul_one, Int.mul_one, hx.self]
theorem heldL_snoc : ∀ {l : List Fr} {y : Fr}, (∀ x ∈ l, Sh x) → Sh y → heldL (l ++ [y]) = (heldL l).map (fun e => low (e.1 * (y.2 - y.1)) (e.2 * y.2)) ++ [y]
  | [], y, _, hy => by simp [heldL, share_nil hy]
  | x :: r, y, h, hy => by
    have hr : ∀ z ∈ r, Sh z := fun z hz => h z (List.mem_cons_of_mem _ hz)
    rw [List.cons_append]
    unfold heldL
    rw [heldL_snoc hr hy, share_snoc (by have := (h x (by simp)).pos; omega) hr]
    rfl
theorem share_sh {x : Fr} {r : List Fr} (hx : Sh x) (hr : ∀ z ∈ r, Sh z) : Sh (share x r) := by
  have h1 := hx.pos
  have h2 : 0 ≤ x.2 := by omega
  refine Sh.of (Int.mul_nonneg hx.nn (num_nonneg hr)) ?_ (Int.mul_pos (by omega) (den_pos hr))
  exact Int.le_trans (Int.mul_le_mul_of_nonneg_right hx.le (num_nonneg hr)) (Int.mul_le_mul_of_nonneg_left (num_le hr) h2)
theorem share_den {x : Fr} {r : List Fr} (hx : Sh x) (hr : ∀ z ∈ r, Sh z) : (share x r).2 ≤ den (x :: r) := low_le (Int.mul_pos (by have := hx.pos; omega) (den_pos hr))
/-- behind all comes what surely comes: nothing else is held -/
theorem heldL_one : ∀ {l : List Fr}, (∀ x ∈ l, Sh x) → heldL (l ++ [(1, 1)]) = l.map (fun _ => (0, 1)) ++ [(1, 1)]
  | [], _ => by simp [heldL, share, num, den, low_one]
  | x :: r, h => by
    have hr : ∀ z ∈ r, Sh z := fun z hz => h z (List.mem_cons_of_mem _ hz)
    rw [List.cons_append]
    unfold heldL
    rw [heldL_one hr]
    have : share x (r ++ [(1, 1)]) = (0, 1) := by
      unfold share
      rw [num_app]
      simp only [num, Int.sub_self, Int.zero_mul, Int.mul_zero]
      refine low_zero (Int.mul_pos (by have := (h x (by simp)).pos; omega) ?_)
      rw [den_app]
      exact Int.mul_pos (den_pos hr) (by decide)
    rw [this]
    rfl
theorem heldL_zero {l : List Fr} (h : ∀ x ∈ l, Sh x) : heldL (l ++ [(0, 1)]) = heldL l ++ [(0, 1)] := by
  rw [heldL_snoc h ⟨by decide, by decide, by decide, by decide⟩]
  congr 1
  have : ∀ {m : List Fr}, (∀ x ∈ m, Sh x) → (heldL m).map (fun e => low (e.1 * (1 - 0)) (e.2 * 1)) = heldL m := by
    intro m
    induction m with
    | nil => intro _; rfl
    | cons x r ih =>
      intro hm
      have hr : ∀ z ∈ r, Sh z := fun z hz => hm z (List.mem_cons_of_mem _ hz)
      show low _ _ :: _ = _
      rw [ih hr, show (1 : Int) - 0 = 1 from rfl, Int.mul_one, Int.mul_one, (share_sh (hm x (by simp)) hr).self]
      rfl
  exact this h
/-- the chances are one in all -/
def plus (a b : Fr) : Fr := low (a.1 * b.2 + b.1 * a.2) (a.2 * b.2)
theorem plus_step {x : Fr} {r : List Fr} (hx : Sh x) (hr : ∀ z ∈ r, Sh z) : plus (low (num (x :: r)) (den (x :: r))) (share x r) = low (num r) (den r) := by
  have px := hx.pos
  have hd := den_pos hr
  unfold plus share
  rw [low_sum (show 0 < den (x :: r) from Int.mul_pos (by omega) hd) (Int.mul_pos (by omega) hd)]
  refine low_cross (Int.mul_pos (show 0 < den (x :: r) from Int.mul_pos (by omega) hd) (Int.mul_pos (by omega) hd)) hd ?_
  simp only [num, den]
  have e : (x.2 - x.1) * num r * (x.2 * den r) + x.1 * num r * (x.2 * den r) = x.2 * num r * (x.2 * den r) := by
    rw [← Int.add_mul, ← Int.add_mul]
    congr 2
    omega
  rw [e]
  ac_rfl
theorem plus_first {r : List Fr} (hr : ∀ z ∈ r, Sh z) : plus (0, 1) (share (1, 1) r) = low (num r) (den r) := by
  have hs := share_sh (x := (1, 1)) ⟨by decide, by decide, by decide, by decide⟩ hr
  unfold plus
  simp only [Int.zero_mul, Int.zero_add, Int.mul_one, Int.one_mul]
  rw [hs.self]
  unfold share
  simp only [Int.one_mul]
theorem plus_all : ∀ {r : List Fr}, (∀ z ∈ r, Sh z) → (heldL r).foldl plus (low (num r) (den r)) = (1, 1)
  | [], _ => by decide
  | x :: r, h => by
    have hr : ∀ z ∈ r, Sh z := fun z hz => h z (List.mem_cons_of_mem _ hz)
    show (heldL r).foldl plus (plus _ _) = _
    rw [plus_step (h x (by simp)) hr, plus_all hr]
theorem whole_one {r : List Fr} (hr : ∀ z ∈ r, Sh z) : (heldL ((1, 1) :: r)).foldl plus (0, 1) = (1, 1) := by
  show (heldL r).foldl plus (plus _ _) = _
  rw [plus_first hr, plus_all hr]
/-! ### the right chances -/
def rightF : Int → List Int → List Fr
  | _, [] => []
  | s, w :: r => low w (s + w) :: rightF (s + w) r
theorem rightF_len : ∀ (s : Int) (l : List Int), (rightF s l).length = l.length
  | _, [] => rfl
  | s, w :: r => congrArg Nat.succ (rightF_len (s + w) r)
theorem rightF_at : ∀ {l : List Int} {s : Int} {i : Nat} {w : Int}, l[i]? = some w → (rightF s l)[i]? = some (low w (s + (l.take (i + 1)).sum))
  | [], _, _, _, h => by simp at h
  | y :: r, s, 0, w, h => by
    simp at h
    subst h
    simp [rightF]
  | y :: r, s, i + 1, w, h => by
    have := rightF_at (l := r) (s := s + y) (i := i) (by simpa using h)
    rw [List.take_succ_cons, List.sum_cons, ← Int.add_assoc]
    simpa [rightF] using this
theorem rightF_sh : ∀ {l : List Int} {s : Int}, 0 ≤ s → (∀ w ∈ l, 1 ≤ w) → ∀ x ∈ rightF s l, Sh x
  | [], _, _, _, x, h => by cases h
  | w :: r, s, hs, hw, x, h => by
    have h1 := hw w (by simp)
    rcases List.mem_cons.mp h with rfl | h
    · exact Sh.of (by omega) (by omega) (by omega)
    · exact rightF_sh (s := s + w) (by omega) (fun v hv => hw v (List.mem_cons_of_mem _ hv)) x h
theorem right_num : ∀ {l : List Int} {s : Int}, 0 ≤ s → (∀ w ∈ l, 1 ≤ w) → num (rightF s l) * (s + l.sum) = s * den (rightF s l)
  | [], s, _, _ => by simp [rightF, num, den]
  | w :: r, s, hs, hw => by
    have h1 := hw w (by simp)
    have ih := right_num (l := r) (s := s + w) (by omega) fun v hv => hw v (List.mem_cons_of_mem _ hv)
    have e1 := low_mul_l w (s + w)
    have e2 := low_mul_r w (s + w)
    unfold rightF num den
    rw [List.sum_cons, ← Int.add_assoc, Int.mul_assoc, ih, ← Int.mul_assoc, ← Int.mul_assoc]
    congr 1
    -- (q - p) * (s + w) = s * q, with p g = w, q g = s + w
    generalize hp : (low w (s + w)).1 = p at e1
    generalize hq : (low w (s + w)).2 = q at e2
    generalize hg : gcdI w (s + w) = g at e1 e2
    rw [← e2, Int.sub_mul]
    have e3 : s = q * g - p * g := by omega
    rw [e3, Int.sub_mul]
    have e4 : p * (q * g) = p * g * q := by ac_rfl
    have e5 : q * (q * g) = q * g * q := by ac_rfl
    rw [e4, e5]
theorem held_right : ∀ {l : List Int} {s : Int}, 0 ≤ s → (∀ w ∈ l, 1 ≤ w) → heldL (rightF s l) = l.map fun w => low w (s + l.sum)
  | [], _, _, _ => rfl
  | w :: r, s, hs, hw => by
    have h1 := hw w (by simp)
    have hr : ∀ v ∈ r, 1 ≤ v := fun v hv => hw v (List.mem_cons_of_mem _ hv)
    have sh := rightF_sh (s := s + w) (by omega) hr
    have tot : 0 ≤ r.sum := by
      clear sh
      induction r with
      | nil => simp
      | cons a t ih =>
        have := hr a (by simp)
        have := ih (fun v hv => by rcases List.mem_cons.mp hv with rfl | z; exact h1; exact hw v (by simp [z])) fun v hv => hr v (List.mem_cons_of_mem _ hv)
        rw [List.sum_cons]
        omega
    unfold rightF heldL
    rw [held_right (by omega) hr, List.map_cons, List.sum_cons, ← Int.add_assoc]
    congr 1
    have e := right_num (s := s + w) (by omega) hr
    unfold share
    refine low_cross (Int.mul_pos (low_pos (by omega)) (den_pos sh)) (by omega) ?_
    rw [Int.mul_assoc, e, ← Int.mul_assoc, ← Int.mul_assoc]
    congr 1
    have e1 := low_mul_l w (s + w)
    have e2 := low_mul_r w (s + w)
    generalize (low w (s + w)).1 = p at e1
    generalize (low w (s + w)).2 = q at e2
    generalize gcdI w (s + w) = g at e1 e2
    rw [← e2, ← e1]
    ac_rfl
end K63
set_option Elab.async false
set_option linter.all false
set_option maxRecDepth 100000
set_option maxHeartbeats 4000000
namespace K63
open PySem PySem.Spec L2 DL
abbrev frD (x : Fr) : PyData := .tuple [.int x.1, .int x.2]
abbrev fsD (l : List Fr) : List PyData := l.map frD
theorem fsD_get {l : List Fr} {i : Nat} {d : PyData} (h : (fsD l)[i]? = some d) : ∃ x, l[i]? = some x ∧ d = frD x := by
  rw [List.getElem?_map] at h
  cases e : l[i]? with
  | none => rw [e] at h; cases h
  | some x => rw [e] at h; exact ⟨x, rfl, (Option.some.inj h).symm⟩
theorem cmul_r {i j : Int} (h : 0 ≤ j) (h2 : j < 2 ^ 63) : CMul i j := .inr ⟨by omega, by omega⟩
theorem cmul_l {i j : Int} (h : 0 ≤ i) (h2 : i < 2 ^ 63) : CMul i j := .inl ⟨by omega, by omega⟩
theorem gcdI_le {a b : Int} (h : 0 < b) : gcdI a b ≤ b := Int.le_of_dvd h (gcdI_dvd_r a b)
theorem le_mulL {a b m : Int} (ha : 1 ≤ a) (hb : 1 ≤ b) (h : a * b < m) : a < m := by
  have : a * 1 ≤ a * b := Int.mul_le_mul_of_nonneg_left hb (by omega)
  omega
theorem le_mulR {a b m : Int} (ha : 1 ≤ a) (hb : 1 ≤ b) (h : a * b < m) : b < m := le_mulL hb ha (by rw [Int.mul_comm]; exact h)
section
variable {P : Program} {w : World} {K : PySem.W.Frag} {mg : Str → Option Value} {base : Heap} {T : List (Addr × Str)} {f fO : Addr} {fd : FuncData}
theorem sc_lowest : FnScope ["over", "under", "common"] ["over", "under"] (defScope s_lowest) := ⟨rfl, rfl, rfl, by decide +kernel, rfl, by decide +kernel, by decide +kernel⟩
theorem sc_is_fraction : FnScope ["value"] ["value"] (defScope s_is_fraction) := ⟨rfl, rfl, rfl, by decide +kernel, rfl, by decide +kernel, by decide +kernel⟩
theorem sc_is_share : FnScope ["value"] ["value"] (defScope s_is_share) := ⟨rfl, rfl, rfl, by decide +kernel, rfl, by decide +kernel, by decide +kernel⟩
theorem sc_less_by : FnScope ["one", "other"] ["one", "other"] (defScope s_less_by) := ⟨rfl, rfl, rfl, by decide +kernel, rfl, by decide +kernel, by decide +kernel⟩
theorem sc_times : FnScope ["one", "other"] ["one", "other"] (defScope s_times) := ⟨rfl, rfl, rfl, by decide +kernel, rfl, by decide +kernel, by decide +kernel⟩
theorem sc_held_by : FnScope ["told", "found", "at", "own", "share", "later"] ["told"] (defScope s_held_by) := ⟨rfl, rfl, rfl, by decide +kernel, rfl, by decide +kernel, by decide +kernel⟩
def R_lowest : List Ar → Re → Prop := fun as r => ∃ a b : Int, 0 < b ∧ b < 2 ^ 63 ∧ as = [.d (.int a), .d (.int b)] ∧ r = .d (frD (low a b))
def R_is_fraction : List Ar → Re → Prop := fun as r => ∃ x : Fr, 1 ≤ x.2 ∧ as = [.d (frD x)] ∧ r = .d (.bool (decide (gcdI x.1 x.2 = 1)))
def R_is_share : List Ar → Re → Prop := fun as r => ∃ x : Fr, Sh x ∧ as = [.d (frD x)] ∧ r = .d (.bool true)
def R_less_by : List Ar → Re → Prop := fun as r => ∃ x y : Fr, 1 ≤ x.2 ∧ 1 ≤ y.2 ∧ x.2 * y.2 < 2 ^ 63 ∧ as = [.d (frD x), .d (frD y)] ∧ r = .d (frD (low (x.1 * y.2 - y.1 * x.2) (x.2 * y.2)))
def R_times : List Ar → Re → Prop := fun as r => ∃ x y : Fr, 1 ≤ x.2 ∧ 1 ≤ y.2 ∧ 0 ≤ y.1 ∧ y.1 ≤ y.2 ∧ x.2 * y.2 < 2 ^ 63 ∧ as = [.d (frD x), .d (frD y)] ∧ r = .d (frD (low (x.1 * y.1) (x.2 * y.2)))
def R_held_by : List Ar → Re → Prop := fun as r => ∃ l : List Fr, (∀ x ∈ l, Sh x) ∧ den l < 2 ^ 63 ∧ l.length ≤ 9 ∧ as = [.d (.tuple (fsD l))] ∧ r = .d (.tuple (fsD (heldL l)))
theorem ok_lowest (F : FnP K "lowest" s_lowest f fd) (g1 : mg "gcd" = some (.builtin "math.gcd")) : FnG P w K mg base 1 f fd ["over", "under"] (spF T K R_lowest) := by
  refine FnG.mkF F sc_lowest (fun as r ⟨_, _, _, _, h, _⟩ => by rw [h]; rfl) fun B c as r hT hr ⟨a, b, hb, hb2, h1, h2⟩ => ?_
  subst h1 h2
  have g0 := gcdI_pos (a := a) hb
  have g9 := gcdI_le (a := a) hb
  refine dss (ds_set 2 sc_lowest.nd ((de_ifP (z := .int (gcdI a b)) (dt_gt (de_d 1 rfl) de_int) (fun _ => de_gcd g1 (de_d 0 rfl) (de_d 1 rfl)) fun h => ?_).is (W1 := .d (.int (gcdI a b))) (by rw [if_pos (decide_eq_true hb)]; rfl)) rfl) ?_
  · exact absurd hb (of_decide_eq_false h)
  · exact dss_one (ds_ret (de_tup (da_cons (de_fdiv (de_d 0 rfl) (de_d 2 rfl) ⟨g0, by omega⟩) (da_cons (de_fdiv (de_d 1 rfl) (de_d 2 rfl) ⟨g0, by omega⟩) da_nil)) rfl (by simp)) rfl)
theorem ok_is_fraction (F : FnP K "is_fraction" s_is_fraction f fd) (g1 : mg "gcd" = some (.builtin "math.gcd")) (C1 : Cal P w K mg base T 1 "is_whole" ["value"] R_is_whole) (C2 : Cal P w K mg base T 1 "is_tuple_of" ["value", "many"] R_is_tuple_of) (C3 : CalD P w K mg base T 2 "is_number" ["value", "low", "high"] [.d .none] R_is_number) :
    FnG P w K mg base 3 f fd ["value"] (spF T K R_is_fraction) := by
  refine FnG.mkF F sc_is_fraction (fun as r ⟨_, _, h, _⟩ => by rw [h]; rfl) fun B c as r hT hr ⟨x, hx, h1, h2⟩ => ?_
  subst h1 h2
  refine dss_ifF ((dc_pt (dc_orP (dt_not (dt_of (de_fn C2 hr hT (da_cons (de_d 0 rfl) (da_cons de_int da_nil)) ⟨_, _, rfl, rfl⟩))) fun _ => dc_orP (dt_not (dt_of (de_fn C1 hr hT (da_cons (de_ix (de_d 0 rfl) de_int .dt rfl) da_nil) ⟨_, rfl, rfl⟩))) fun _ => dc_or1 (dt_not (dt_of (de_fnD C3 hr hT (da_cons (de_ix (de_d 0 rfl) de_int .dt rfl) (da_cons de_int da_nil)) ⟨_, _, hx, rfl, rfl⟩))))).is rfl) ?_
  exact dss_one (ds_ret (de_eqI (de_gcd g1 (de_ix (de_d 0 rfl) de_int .dt rfl) (de_ix (de_d 0 rfl) de_int .dt rfl)) de_int) rfl)
theorem ok_is_share (F : FnP K "is_share" s_is_share f fd) (C1 : Cal P w K mg base T 3 "is_fraction" ["value"] R_is_fraction) : FnG P w K mg base 4 f fd ["value"] (spF T K R_is_share) := by
  refine FnG.mkF F sc_is_share (fun as r ⟨_, _, h, _⟩ => by rw [h]; rfl) fun B c as r hT hr ⟨x, hx, h1, h2⟩ => ?_
  subst h1 h2
  refine dss_one (ds_ret (de_andP (de_fn C1 hr hT (da_cons (de_d 0 rfl) da_nil) ⟨x, hx.pos, rfl, rfl⟩) fun _ => de_one (de_chain op_le op_le de_int (de_ix (de_d 0 rfl) de_int .dt rfl) fun _ => de_ix (de_d 0 rfl) de_int .dt rfl)) ?_)
  show Re.d _ = Re.d _
  rw [hx.low]
  have a1 := hx.nn
  have a2 := hx.le
  simp [a1, a2]
theorem ok_less_by (F : FnP K "less_by" s_less_by f fd) (C1 : Cal P w K mg base T 1 "lowest" ["over", "under"] R_lowest) : FnG P w K mg base 2 f fd ["one", "other"] (spF T K R_less_by) := by
  refine FnG.mkF F sc_less_by (fun as r ⟨_, _, _, _, _, h, _⟩ => by rw [h]; rfl) fun B c as r hT hr ⟨x, y, hx, hy, hz, h1, h2⟩ => ?_
  subst h1 h2
  have b1 := le_mulL hx hy hz
  have b2 := le_mulR hx hy hz
  exact dss_one (ds_ret (de_fn C1 hr hT (da_cons (de_sub (de_mul (de_ix (de_d 0 rfl) de_int .dt rfl) (de_ix (de_d 1 rfl) de_int .dt rfl) (cmul_r (by omega) b2)) (de_mul (de_ix (de_d 1 rfl) de_int .dt rfl) (de_ix (de_d 0 rfl) de_int .dt rfl) (cmul_r (by omega) b1)))
    (da_cons (de_mul (de_ix (de_d 0 rfl) de_int .dt rfl) (de_ix (de_d 1 rfl) de_int .dt rfl) (cmul_r (by omega) b2)) da_nil)) ⟨_, _, Int.mul_pos (by omega) (by omega), hz, rfl, rfl⟩) rfl)
theorem ok_times (F : FnP K "times" s_times f fd) (C1 : Cal P w K mg base T 1 "lowest" ["over", "under"] R_lowest) : FnG P w K mg base 2 f fd ["one", "other"] (spF T K R_times) := by
  refine FnG.mkF F sc_times (fun as r ⟨_, _, _, _, _, _, _, h, _⟩ => by rw [h]; rfl) fun B c as r hT hr ⟨x, y, hx, hy, hy0, hy1, hz, h1, h2⟩ => ?_
  subst h1 h2
  have b2 := le_mulR hx hy hz
  exact dss_one (ds_ret (de_fn C1 hr hT (da_cons (de_mul (de_ix (de_d 0 rfl) de_int .dt rfl) (de_ix (de_d 1 rfl) de_int .dt rfl) (cmul_r hy0 (by omega)))
    (da_cons (de_mul (de_ix (de_d 0 rfl) de_int .dt rfl) (de_ix (de_d 1 rfl) de_int .dt rfl) (cmul_r (by omega) b2)) da_nil)) ⟨_, _, Int.mul_pos (by omega) (by omega), hz, rfl, rfl⟩) rfl)
theorem den_drop_le {l : List Fr} (h : ∀ x ∈ l, Sh x) (i : Nat) : den (l.drop i) ≤ den l := by
  have e := den_app (l.take i) (l.drop i)
  rw [List.take_append_drop] at e
  have p1 := den_pos (l := l.take i) fun x hx => h x (List.mem_of_mem_take hx)
  have p2 := den_pos (l := l.drop i) fun x hx => h x (List.mem_of_mem_drop hx)
  rw [e]
  have : 1 * den (l.drop i) ≤ den (l.take i) * den (l.drop i) := Int.mul_le_mul_of_nonneg_right (by omega) (by omega)
  omega
theorem den_take_le {l : List Fr} (h : ∀ x ∈ l, Sh x) (i : Nat) : den (l.take i) ≤ den l := by
  have e := den_app (l.take i) (l.drop i)
  rw [List.take_append_drop] at e
  have p1 := den_pos (l := l.take i) fun x hx => h x (List.mem_of_mem_take hx)
  have p2 := den_pos (l := l.drop i) fun x hx => h x (List.mem_of_mem_drop hx)
  rw [e]
  have : den (l.take i) * 1 ≤ den (l.take i) * den (l.drop i) := Int.mul_le_mul_of_nonneg_left (by omega) (by omega)
  omega
theorem den_mem_le {l : List Fr} (h : ∀ x ∈ l, Sh x) {i : Nat} {x : Fr} (hi : l[i]? = some x) : x.2 ≤ den l := by
  have hlt := DL.lt_of_get hi
  have e : l.drop i = x :: l.drop (i + 1) := by
    rw [List.drop_eq_getElem_cons hlt]
    congr 1
    exact Option.some.inj ((List.getElem?_eq_getElem hlt).symm.trans hi)
  have h1 := den_drop_le h i
  rw [e] at h1
  have p := den_pos (l := l.drop (i + 1)) fun y hy => h y (List.mem_of_mem_drop hy)
  have px := (h x (List.mem_of_getElem? hi)).pos
  have : x.2 * 1 ≤ x.2 * den (l.drop (i + 1)) := Int.mul_le_mul_of_nonneg_left (by omega) (by omega)
  have e2 : den (x :: l.drop (i + 1)) = x.2 * den (l.drop (i + 1)) := rfl
  omega
theorem share_bound {l : List Fr} (h : ∀ x ∈ l, Sh x) {i j : Nat} {x z : Fr} (hx : l[i]? = some x) (hz : (l.drop (i + 1))[j]? = some z) : (share x ((l.drop (i + 1)).take j)).2 * z.2 ≤ den l := by
  have sx := h x (List.mem_of_getElem? hx)
  have sz : Sh z := h z (List.mem_of_mem_drop (List.mem_of_getElem? hz))
  have hr2 : ∀ u ∈ (l.drop (i + 1)).take j, Sh u := fun u hu => h u (List.mem_of_mem_drop (List.mem_of_mem_take hu))
  have b1 := share_den sx hr2
  have b2 : (share x ((l.drop (i + 1)).take j)).2 * z.2 ≤ den (x :: (l.drop (i + 1)).take j) * z.2 := Int.mul_le_mul_of_nonneg_right b1 (by have := sz.pos; omega)
  have hlt := DL.lt_of_get hx
  have e : l.drop i = x :: l.drop (i + 1) := by
    rw [List.drop_eq_getElem_cons hlt]
    congr 1
    exact Option.some.inj ((List.getElem?_eq_getElem hlt).symm.trans hx)
  have e2 : den ((l.drop i).take (j + 2)) = den (x :: (l.drop (i + 1)).take j) * z.2 := by
    rw [e, List.take_succ_cons, List.take_add_one, hz, show (some z).toList = [z] from rfl, ← List.cons_append, den_app]
    simp [den]
  have b3 := den_take_le (l := l.drop i) (fun u hu => h u (List.mem_of_mem_drop hu)) (j + 2)
  have b4 := den_drop_le h i
  omega
theorem ok_held_by (F : FnP K "held_by" s_held_by f fd) (g1 : mg "enumerate" = none) (g2 : mg "tuple" = none) (gO : mg "ONE" = some (.ref fO)) (hO : ∀ I, Rp K I (.ref fO) (frD (1, 1))) (C1 : Cal P w K mg base T 2 "less_by" ["one", "other"] R_less_by) (C2 : Cal P w K mg base T 2 "times" ["one", "other"] R_times) :
    FnG P w K mg base 3 f fd ["told"] (spF T K R_held_by) := by
  refine FnG.mkF F sc_held_by (fun as r ⟨_, _, _, _, h, _⟩ => by rw [h]; rfl) fun B c as r hT hr ⟨l, hl, hz, hn, h1, h2⟩ => ?_
  subst h1 h2
  refine dss (ds_setO 1 sc_held_by.nd (do_lst da_nil rfl) rfl) ?_
  refine dss_cons (fun ρ' => ∃ s2 s3 s4 s5, ρ' = [.d (.tuple (fsD l)), .m false (.list (fsD (heldL l))), s2, s3, s4, s5])
    (ds_for (fun i ρ' => ∃ s2 s3 s4 s5, ρ' = [.d (.tuple (fsD l)), .m false (.list (fsD ((heldL l).take i))), s2, s3, s4, s5]) .never rfl (di_enum g1 (de_d 0 rfl)) ⟨_, _, _, _, rfl⟩ (fun c' le i y ρ' ⟨s2, s3, s4, s5, e⟩ hy => ?_) (fun ρ' ⟨s2, s3, s4, s5, e⟩ => ?_)) fun ρ' ⟨s2, s3, s4, s5, e⟩ => ?_
  · subst e
    obtain ⟨d, hd, rfl⟩ := enumD_get hy
    obtain ⟨x, hx, rfl⟩ := fsD_get hd
    have hs := hl x (List.mem_of_getElem? hx)
    have hT' : c'.T = T := le.T.trans hT
    refine ⟨_, dg_two 2 3 rfl sc_held_by.nd, ?_⟩
    refine dss (ds_set 4 sc_held_by.nd (de_d 3 rfl) rfl) ?_
    refine dss_cons (fun ρ' => ∃ s5, ρ' = [.d (.tuple (fsD l)), .m false (.list (fsD ((heldL l).take i))), .d (.int (i : Nat)), .d (frD x), .d (frD (share x (l.drop (i + 1)))), s5])
      (ds_for (fun j ρ' => ∃ s5, ρ' = [.d (.tuple (fsD l)), .m false (.list (fsD ((heldL l).take i))), .d (.int (i : Nat)), .d (frD x), .d (frD (share x ((l.drop (i + 1)).take j))), s5]) .never rfl
        (di_tup (ds := fsD (l.drop (i + 1))) ((de_slT (de_d 0 rfl) (dp_so (de_add (de_d 2 rfl) de_int)) dp_no).is ?_)) ⟨_, by rw [List.take_zero, share_nil hs]; rfl⟩ (fun c2 le2 j y ρ' ⟨s5, e⟩ hy => ?_) (fun ρ' ⟨s5, e⟩ => ?_)) fun ρ' ⟨s5, e⟩ => ?_
    · rw [show ((i : Nat) : Int) + 1 = ((i + 1 : Nat) : Int) from rfl, cutL_from]
      show Wk.d (.tuple ((l.map frD).drop (i + 1))) = Wk.d (.tuple ((l.drop (i + 1)).map frD))
      rw [List.map_drop]
    · subst e
      obtain ⟨z, hz2, rfl⟩ := fsD_get hy
      have hzs : Sh z := hl z (List.mem_of_mem_drop (List.mem_of_getElem? hz2))
      have hr2 : ∀ u ∈ (l.drop (i + 1)).take j, Sh u := fun u hu => hl u (List.mem_of_mem_drop (List.mem_of_mem_take hu))
      have px := hs.pos
      have pz := hzs.pos
      refine ⟨_, dg_name 5 sc_held_by.nd, ?_⟩
      have hT2 : c2.T = T := le2.T.trans hT'
      have hb := share_bound hl hx hz2
      have ss := share_sh hs hr2
      have y1 : Sh (low (z.2 - z.1) z.2) := Sh.of (by have := hzs.le; omega) (by have := hzs.nn; omega) (by omega)
      have y2 : (low (z.2 - z.1) z.2).2 ≤ z.2 := low_le (by omega)
      have b1 : (share x ((l.drop (i + 1)).take j)).2 * (low (z.2 - z.1) z.2).2 ≤ (share x ((l.drop (i + 1)).take j)).2 * z.2 := Int.mul_le_mul_of_nonneg_left y2 (by have := ss.pos; omega)
      have b2 := den_mem_le hl (show l[i + 1 + j]? = some z by rw [← List.getElem?_drop]; exact hz2)
      refine dss_one (ds_set 4 sc_held_by.nd (de_fn C2 hr hT2 (da_cons (de_d 4 rfl) (da_cons (de_fn (y := frD (low (z.2 - z.1) z.2)) C1 hr hT2 (da_cons (de_gr gO hO) (da_cons (de_d 5 rfl) da_nil)) ⟨(1, 1), z, by decide, pz, by show (1 : Int) * z.2 < _; omega, rfl, ?_⟩) da_nil)) ⟨share x ((l.drop (i + 1)).take j), low (z.2 - z.1) z.2, ss.pos, y1.pos, y1.nn, y1.le, by omega, rfl, rfl⟩) ?_)
      · show Re.d (frD _) = Re.d (frD (low (1 * z.2 - z.1 * 1) (1 * z.2)))
        rw [Int.one_mul, Int.mul_one]
      · refine ⟨.d (frD z), ?_⟩
        rw [List.take_add_one, hz2, show (some z).toList = [z] from rfl, share_step (by omega) hr2 (by omega)]
        rfl
    · subst e
      exact ⟨s5, by rw [show (fsD (l.drop (i + 1))).length = (l.drop (i + 1)).length from List.length_map .., List.take_length]⟩
    · subst e
      refine dss_one (ds_append 1 (de_n 1 rfl) rfl (de_d 4 rfl) rfl ?_ ?_)
      · rw [List.length_map, List.length_take, heldL_len]
        omega
      · refine ⟨.d (.int (i : Nat)), .d (frD x), .d (frD (share x (l.drop (i + 1)))), s5, ?_⟩
        rw [heldL_take hx, show fsD ((heldL l).take i ++ [share x (l.drop (i + 1))]) = fsD ((heldL l).take i) ++ [frD (share x (l.drop (i + 1)))] from by simp [fsD]]
        rfl
  · subst e
    exact ⟨_, _, _, _, by rw [enumD_len, show (fsD l).length = (heldL l).length by rw [heldL_len]; exact List.length_map .., List.take_length]⟩
  · subst e
    exact dss_one (ds_ret (de_tupC g2 (de_n 1 rfl) (.n rfl)) rfl)
end
end K63
set_option Elab.async false
set_option linter.all false
set_option maxRecDepth 100000
set_option maxHeartbeats 4000000
namespace K63
open PySem PySem.Spec L2 DL
theorem nice_fr {x : Fr} {k : Nat} (hk : 0 < k) (hk2 : k ≤ 500) (h1 : x.1.natAbs < 10 ^ k) (h2 : x.2.natAbs < 10 ^ k) : Nice k 1 2 (frD x) :=
  Nice.tup (m := 2) (n := 0) (fun y hy => by
    rcases List.mem_cons.mp hy with rfl | hy
    · exact .int hk hk2 h1
    · rcases List.mem_cons.mp hy with rfl | hy
      · exact .int hk hk2 h2
      · cases hy) (by simp)
theorem nice_fs {l : List Fr} {k m : Nat} (hk : 0 < k) (hk2 : k ≤ 500) (h : ∀ x ∈ l, x.1.natAbs < 10 ^ k ∧ x.2.natAbs < 10 ^ k) (hm : l.length ≤ m) : Nice k 2 (m * 3) (.tuple (fsD l)) :=
  Nice.tup (fun y hy => by
    obtain ⟨x, hx, rfl⟩ := List.mem_map.mp hy
    exact nice_fr hk hk2 (h x hx).1 (h x hx).2) (by rw [List.length_map]; exact hm)
theorem sh_small {l : List Fr} (h : ∀ x ∈ l, Sh x) (hd : den l < 2 ^ 63) : ∀ x ∈ l, x.1.natAbs < 10 ^ 40 ∧ x.2.natAbs < 10 ^ 40 := fun x hx => by
  obtain ⟨i, hi⟩ := List.mem_iff_getElem?.mp hx
  have h1 := den_mem_le h hi
  have hs := h x hx
  have a1 := hs.nn
  have a2 := hs.le
  have a3 := hs.pos
  have e : (2 : Int) ^ 63 = 9223372036854775808 := by decide
  have e2 : (10 : Nat) ^ 40 > 9223372036854775808 := by decide
  omega
theorem eqv_fs_nil (l : List Fr) : PyData.eqv (.tuple (fsD l)) (.tuple []) = l.isEmpty := by
  cases l <;> simp [fsD, PyData.eqv, PyData.eqvAll]
theorem eqv_fr (x y : Fr) : PyData.eqv (frD x) (frD y) = decide (x = y) := by
  obtain ⟨a, b⟩ := x
  obtain ⟨c, d⟩ := y
  simp only [frD, PyData.eqv, PyData.eqvAll, Bool.and_true, Prod.mk.injEq, Bool.decide_and]
  rfl
theorem eqv_fs : ∀ l m : List Fr, PyData.eqvAll (fsD l) (fsD m) = decide (l = m)
  | [], [] => rfl
  | [], _ :: _ => rfl
  | _ :: _, [] => rfl
  | x :: l, y :: m => by
    show (PyData.eqv (frD x) (frD y) && PyData.eqvAll (fsD l) (fsD m)) = _
    rw [eqv_fr, eqv_fs l m]
    simp only [List.cons.injEq, Bool.decide_and]
section
variable {P : Program} {w : World} {K : PySem.W.Frag} {mg : Str → Option Value} {base : Heap} {T : List (Addr × Str)} {f fO fC : Addr} {fd fdC : FuncData}
theorem sc_right_by : FnScope ["weights", "at", "own"] ["weights"] (defScope s_right_by) := ⟨rfl, rfl, rfl, by decide +kernel, rfl, by decide +kernel, by decide +kernel⟩
theorem sc_is_coming : FnScope ["value", "ahead"] ["value", "ahead"] (defScope s_is_coming) := ⟨rfl, rfl, rfl, by decide +kernel, rfl, by decide +kernel, by decide +kernel⟩
theorem sc_wrong_told : FnScope ["value"] ["value"] (defScope s_wrong_told) := ⟨rfl, rfl, rfl, by decide +kernel, rfl, by decide +kernel, by decide +kernel⟩
theorem sc_check_told : FnScope ["told", "wrong"] ["told"] (defScope s_check_told) := ⟨rfl, rfl, rfl, by decide +kernel, rfl, by decide +kernel, by decide +kernel⟩
theorem sc_wrong_weight : FnScope ["value"] ["value"] (defScope s_wrong_weight) := ⟨rfl, rfl, rfl, by decide +kernel, rfl, by decide +kernel, by decide +kernel⟩
theorem sc_check_weights : FnScope ["weights", "wrong"] ["weights"] (defScope s_check_weights) := ⟨rfl, rfl, rfl, by decide +kernel, rfl, by decide +kernel, by decide +kernel⟩
theorem sc_held : FnScope ["told"] ["told"] (defScope s_held) := ⟨rfl, rfl, rfl, by decide +kernel, rfl, by decide +kernel, by decide +kernel⟩
theorem sc_right_chances : FnScope ["weights"] ["weights"] (defScope s_right_chances) := ⟨rfl, rfl, rfl, by decide +kernel, rfl, by decide +kernel, by decide +kernel⟩
def R_is_coming : List Ar → Re → Prop := fun as r => ∃ (x : Fr) (ah : List Fr), Sh x ∧ x.2 < 2 ^ 63 ∧ (∀ y ∈ ah, Sh y) ∧ den ah < 2 ^ 63 ∧ (ah ≠ [] ∨ x = (1, 1)) ∧ as = [.d (frD x), .d (.tuple (fsD ah))] ∧ r = .d (.bool true)
/-- what may be told -/
structure Told (l : List Fr) : Prop where
  sh : ∀ x ∈ l, Sh x
  den : K63.den l < 2 ^ 63
  len : 1 ≤ l.length ∧ l.length ≤ 9
  fst : l[0]? = some (1, 1)
def R_first_told (f' : Addr) : List Ar → Re → Prop := fun as r => ∃ l, Told l ∧ as = [.d (.tuple (fsD l)), .v (.ref f')] ∧ r = .d .none
def R_wrong_told : List Ar → Re → Prop := fun as r => ∃ l, Told l ∧ as = [.d (.tuple (fsD l))] ∧ r = .d .none
def R_held : List Ar → Re → Prop := fun as r => ∃ l, Told l ∧ as = [.d (.tuple (fsD l))] ∧ r = .d (.tuple (fsD (heldL l)))
/-- what weights may be -/
structure Wts (l : List Int) : Prop where
  in_ : ∀ x ∈ l, 1 ≤ x ∧ x ≤ 99
  len : 1 ≤ l.length ∧ l.length ≤ 9
abbrev isD (l : List Int) : List PyData := l.map PyData.int
def R_wrong_weight : List Ar → Re → Prop := fun as r => ∃ l, Wts l ∧ as = [.d (.tuple (isD l))] ∧ r = .d .none
def R_right_by : List Ar → Re → Prop := fun as r => ∃ l, Wts l ∧ as = [.d (.tuple (isD l))] ∧ r = .d (.tuple (fsD (rightF 0 l)))
theorem ok_is_coming (F : FnP K "is_coming" s_is_coming f fd) (gO : mg "ONE" = some (.ref fO)) (hO : ∀ I, Rp K I (.ref fO) (frD (1, 1))) (C1 : Cal P w K mg base T 4 "is_share" ["value"] R_is_share) : FnG P w K mg base 5 f fd ["value", "ahead"] (spF T K R_is_coming) := by
  refine FnG.mkF F sc_is_coming (fun as r ⟨_, _, _, _, _, _, _, h, _⟩ => by rw [h]; rfl) fun B c as r hT hr ⟨x, ah, hx, hx9, hah, hd, hor, h1, h2⟩ => ?_
  subst h1 h2
  have n1 : Nice 40 2 _ (.tuple (fsD ah)) := nice_fs (m := ah.length) (by decide) (by decide) (sh_small hah hd) (Nat.le_refl _)
  have n0 : Nice 40 1 0 (.tuple []) := Nice.tup (m := 0) (n := 0) (d := 0) (fun _ h => by cases h) (by simp)
  have n2 : Nice 40 1 2 (frD x) := by
    have := sh_small (l := [x]) (fun y hy => by rcases List.mem_cons.mp hy with rfl | h; exact hx; cases h) (by simp [den]; exact hx9) x (by simp)
    exact nice_fr (by decide) (by decide) this.1 this.2
  have n3 : Nice 40 1 2 (frD (1, 1)) := nice_fr (by decide) (by decide) (by decide) (by decide)
  refine dss_one (ds_ret (de_andP (de_fn C1 hr hT (da_cons (de_d 0 rfl) da_nil) ⟨x, hx, rfl, rfl⟩) fun _ => de_one (de_orP (de_neD hr.u (de_d 1 rfl) (de_tup da_nil rfl) .d .d n1.shaped n0.shaped) fun _ => de_one (de_eqD hr.u (de_d 0 rfl) (de_gr gO hO) .d .d n2.shaped n3.shaped))) ?_)
  show Re.d _ = Re.d _
  rw [eqv_fs_nil, eqv_fr]
  rcases hor with h | h
  · cases ah with
    | nil => exact absurd rfl h
    | cons a b => rfl
  · simp [h]
theorem ok_first_told (F : FnP K "first_wrong" s_first_wrong f fd) (g1 : mg "enumerate" = none) (FC : FnP K "is_coming" s_is_coming fC fdC) (G : FnG P w K mg base 5 fC fdC ["value", "ahead"] (spF T K R_is_coming)) : FnG P w K mg base 6 f fd ["value", "is_right"] (spF T K (R_first_told fC)) := by
  refine FnG.mkF F sc_first_wrong (fun as r ⟨_, _, h, _⟩ => by rw [h]; rfl) fun B c as r hT hr ⟨l, hl, h1, h2⟩ => ?_
  subst h1 h2
  have e : fwD 0 (l.map fun _ => true) = .none := fwD_none fun j hj => by
    rw [List.length_map] at hj
    rw [List.getElem?_map, List.getElem?_eq_getElem hj]
    rfl
  rw [← e]
  refine fw_body g1 (CallR.of_fn G hr (FC.bindsN fun _ _ _ _ _ _ us hl => match us, hl with | [_, _], _ => rfl) hT fun I => ?_) (by rw [List.length_map, List.length_map]) fun i d b hd hb => ?_
  · obtain ⟨oc, od, dV, kV, doc, pm, an, cdv, ct, osl, e, lk, _⟩ := FC.ex
    exact ⟨_, _, _, _, I.kIn fC _ lk⟩
  · obtain ⟨x, hx, rfl⟩ := fsD_get hd
    have e2 : b = true := by
      rw [List.getElem?_map, hx] at hb
      exact (Option.some.inj hb).symm
    subst e2
    refine ⟨x, l.take i, hl.sh x (List.mem_of_getElem? hx), ?_, fun y hy => hl.sh y (List.mem_of_mem_take hy), ?_, ?_, ?_, rfl⟩
    · have := den_mem_le hl.sh hx
      have := hl.den
      omega
    · have := den_take_le hl.sh i
      have := hl.den
      omega
    · cases i with
      | zero =>
        rw [hl.fst] at hx
        exact .inr (Option.some.inj hx).symm
      | succ i =>
        refine .inl fun z => ?_
        have h2 := congrArg List.length z
        rw [List.length_take] at h2
        have h3 := hl.len.1
        have h4 : List.length ([] : List Fr) = 0 := rfl
        omega
    · show [Ar.d (frD x), Ar.d (.tuple ((l.map frD).take i))] = [Ar.d (frD x), Ar.d (.tuple ((l.take i).map frD))]
      rw [List.map_take]
theorem ok_wrong_told (F : FnP K "wrong_told" s_wrong_told f fd) (gC : mg "is_coming" = some (.ref fC)) (C1 : Cal P w K mg base T 6 "first_wrong" ["value", "is_right"] (R_first_told fC)) : FnG P w K mg base 7 f fd ["value"] (spF T K R_wrong_told) := by
  refine FnG.mkF F sc_wrong_told (fun as r ⟨_, _, h, _⟩ => by rw [h]; rfl) fun B c as r hT hr ⟨l, hl, h1, h2⟩ => ?_
  subst h1 h2
  exact dss_one (ds_ret (de_fn C1 hr hT (da_cons (de_d 0 rfl) (da_cons (de_gv gC) da_nil)) ⟨l, hl, rfl, rfl⟩) rfl)
theorem ok_check_told (F : FnP K "check_told" s_check_told f fd) {t : Tok} (gM : mg "MOST_HELD" = some (.int 9 t)) (C1 : Cal P w K mg base T 7 "wrong_told" ["value"] R_wrong_told) (C2 : Cal P w K mg base T 1 "is_row" ["value", "least", "most"] R_is_row) : FnG P w K mg base 8 f fd ["told"] (spF T K R_wrong_told) := by
  refine FnG.mkF F sc_check_told (fun as r ⟨_, _, h, _⟩ => by rw [h]; rfl) fun B c as r hT hr ⟨l, hl, h1, h2⟩ => ?_
  subst h1 h2
  refine dss_ifF ((dt_not (dt_of (de_fn C2 hr hT (da_cons (de_d 0 rfl) (da_cons de_int (da_cons (de_gi gM) da_nil))) ⟨fsD l, _, _, rfl, rfl⟩))).is ?_) ?_
  · have h1 := hl.len
    rw [List.length_map, decide_eq_true (by omega), decide_eq_true (by omega)]
    rfl
  · refine dss (ds_set 1 sc_check_told.nd (de_fn C1 hr hT (da_cons (de_d 0 rfl) da_nil) ⟨l, hl, rfl, rfl⟩) rfl) ?_
    exact dss_ifF (DT.is (dt_notN (de_d 1 rfl)) rfl) (dss_nil rfl)
theorem ok_held (F : FnP K "held" s_held f fd) (C1 : Cal P w K mg base T 8 "check_told" ["told"] R_wrong_told) (C2 : Cal P w K mg base T 3 "held_by" ["told"] R_held_by) : FnG P w K mg base 9 f fd ["told"] (spF T K R_held) := by
  refine FnG.mkF F sc_held (fun as r ⟨_, _, h, _⟩ => by rw [h]; rfl) fun B c as r hT hr ⟨l, hl, h1, h2⟩ => ?_
  subst h1 h2
  refine dss (ds_expr (de_fn C1 hr hT (da_cons (de_d 0 rfl) da_nil) ⟨l, hl, rfl, rfl⟩) rfl) ?_
  exact dss_one (ds_ret (de_fn C2 hr hT (da_cons (de_d 0 rfl) da_nil) ⟨l, hl.sh, hl.den, hl.len.2, rfl, rfl⟩) rfl)
abbrev qLam : Str := ("wrong_weight" : Str) ++ ".<locals>." ++ "<lambda>"
def R_lamW : List Ar → Re → Prop := fun as r => ∃ (i : Int) (ah : PyData), 1 ≤ i ∧ i ≤ 99 ∧ as = [.d (.int i), .d ah] ∧ r = .d (.bool true)
theorem ok_wrong_weight {co tb : Addr} {fW : Addr} {fdW : FuncData} {t : Tok} (F : FnP K "wrong_weight" s_wrong_weight f fd) (FW : FnP K "first_wrong" s_first_wrong fW fdW) (gW : mg "first_wrong" = some (.ref fW)) (g1 : mg "enumerate" = none) (gM : mg "MOST_WEIGHT" = some (.int 99 t))
    (C1 : Cal P w K mg base T 2 "is_between" ["value", "least", "most"] R_is_between) (tabB : LamX.TabB base mg co tb) (hcd : fd.code = .ref co) (hin : (tb, qLam) ∈ T) (hone : ∀ p ∈ T, p.1 = tb → p.2 = qLam) : FnG P w K mg base 7 f fd ["value"] (spF T K R_wrong_weight) := by
  refine FnG.mkFc F sc_wrong_weight (fun as r ⟨_, _, h, _⟩ => by rw [h]; rfl) fun B c as r hB hT hr ⟨l, hl, h1, h2⟩ => ?_
  subst h1 h2
  refine dss_one (ds_ret (de_lamcall (k := 4) (N := ["each", "ahead"]) (ps := ["each", "ahead"]) (fr := []) (js := []) (dsl := []) (R := R_lamW) (T := T) FW sc_first_wrong rfl hr gW FW.kp (FW.bindsN fun _ _ _ _ _ _ us hl => match us, hl with | [_, _], _ => rfl) tabB (hB.trans hcd) hin hone hT (de_d 0 rfl) ?_ rfl rfl ?_ ?_ ?_) rfl)
  · exact ⟨NdefX.nscope_by (by decide +kernel), rfl, fun q body cl pm cv ctv us hl => match us, hl with | [_, _], _ => rfl, (show ∀ y ∈ Scope.names _, y.2 = NameKind.free → (defScope s_wrong_weight).names.lookup y.1 = some .cell ∨ (defScope s_wrong_weight).names.lookup y.1 = some .free by decide +kernel), by decide⟩
  · rintro as r ⟨_, _, _, _, rfl, _⟩
    rfl
  · rintro A outer s H f E cl c' c as y hT hr ⟨i, ah, h1, h2, rfl, h3⟩
    cases h3
    refine ⟨_, (de_fn C1 hr hT (da_cons (de_d 0 rfl) (da_cons de_int (da_cons (de_gi gM) da_nil))) ⟨i, 1, 99, rfl, ?_⟩)⟩
    rw [decide_eq_true h1, decide_eq_true h2]
    rfl
  · intro B' c0 f' hT0 hr0 C
    have e : fwD 0 (l.map fun _ => true) = .none := fwD_none fun j hj => by
      rw [List.length_map] at hj
      rw [List.getElem?_map, List.getElem?_eq_getElem hj]
      rfl
    rw [← e]
    refine fw_body g1 C (by rw [List.length_map, List.length_map]) fun i d b hd hb => ?_
    rw [List.getElem?_map] at hd hb
    cases q : l[i]? with
    | none => rw [q] at hd; cases hd
    | some x =>
      rw [q] at hd hb
      cases hd
      cases hb
      have hx := hl.in_ x (List.mem_of_getElem? q)
      exact ⟨x, _, hx.1, hx.2, rfl, rfl⟩
theorem ok_check_weights (F : FnP K "check_weights" s_check_weights f fd) {t : Tok} (gM : mg "MOST_HELD" = some (.int 9 t)) (C1 : Cal P w K mg base T 7 "wrong_weight" ["value"] R_wrong_weight) (C2 : Cal P w K mg base T 1 "is_row" ["value", "least", "most"] R_is_row) : FnG P w K mg base 8 f fd ["weights"] (spF T K R_wrong_weight) := by
  refine FnG.mkF F sc_check_weights (fun as r ⟨_, _, h, _⟩ => by rw [h]; rfl) fun B c as r hT hr ⟨l, hl, h1, h2⟩ => ?_
  subst h1 h2
  refine dss_ifF ((dt_not (dt_of (de_fn C2 hr hT (da_cons (de_d 0 rfl) (da_cons de_int (da_cons (de_gi gM) da_nil))) ⟨isD l, _, _, rfl, rfl⟩))).is ?_) ?_
  · have h1 := hl.len
    rw [List.length_map, decide_eq_true (by omega), decide_eq_true (by omega)]
    rfl
  · refine dss (ds_set 1 sc_check_weights.nd (de_fn C1 hr hT (da_cons (de_d 0 rfl) da_nil) ⟨l, hl, rfl, rfl⟩) rfl) ?_
    exact dss_ifF (DT.is (dt_notN (de_d 1 rfl)) rfl) (dss_nil rfl)
theorem ok_right_chances (F : FnP K "right_chances" s_right_chances f fd) (C1 : Cal P w K mg base T 8 "check_weights" ["weights"] R_wrong_weight) (C2 : Cal P w K mg base T 3 "right_by" ["weights"] R_right_by) : FnG P w K mg base 9 f fd ["weights"] (spF T K R_right_by) := by
  refine FnG.mkF F sc_right_chances (fun as r ⟨_, _, h, _⟩ => by rw [h]; rfl) fun B c as r hT hr ⟨l, hl, h1, h2⟩ => ?_
  subst h1 h2
  refine dss (ds_expr (de_fn C1 hr hT (da_cons (de_d 0 rfl) da_nil) ⟨l, hl, rfl, rfl⟩) rfl) ?_
  exact dss_one (ds_ret (de_fn C2 hr hT (da_cons (de_d 0 rfl) da_nil) ⟨l, hl, rfl, rfl⟩) rfl)
end
end K63
set_option Elab.async false
set_option linter.all false
set_option maxRecDepth 100000
set_option maxHeartbeats 4000000
namespace K63
open PySem PySem.Spec L2 DL
theorem take_snoc {α : Type} {l : List α} {i : Nat} {x : α} (h : l[i]? = some x) : l.take (i + 1) = l.take i ++ [x] := by
  rw [List.take_add_one, h]
  rfl
theorem sum_bound {l : List Int} (h : ∀ x ∈ l, 1 ≤ x ∧ x ≤ 99) : (l.length : Int) ≤ l.sum ∧ l.sum ≤ 99 * (l.length : Int) := by
  induction l with
  | nil => simp
  | cons a r ih =>
    have h1 := h a (by simp)
    have h2 := ih fun x hx => h x (List.mem_cons_of_mem _ hx)
    rw [List.sum_cons, List.length_cons]
    omega
section
variable {P : Program} {w : World} {K : PySem.W.Frag} {mg : Str → Option Value} {base : Heap} {T : List (Addr × Str)} {f fO fC : Addr} {fd fdC : FuncData}
theorem ok_right_by (F : FnP K "right_by" s_right_by f fd) (g1 : mg "enumerate" = none) (g2 : mg "tuple" = none) (g3 : mg "sum" = none) (C1 : Cal P w K mg base T 1 "lowest" ["over", "under"] R_lowest) : FnG P w K mg base 3 f fd ["weights"] (spF T K R_right_by) := by
  refine FnG.mkF F sc_right_by (fun as r ⟨_, _, h, _⟩ => by rw [h]; rfl) fun B c as r hT hr ⟨l, hl, h1, h2⟩ => ?_
  subst h1 h2
  refine dss_one (ds_ret (de_tupC g2 (DO.fl (ds := fsD (rightF 0 l)) (do_lc2 (x := "at") (u := "own") (ρ2 := [.d (.tuple (isD l)), .un, .un]) 1 2 (by decide) (fun _ _ _ _ _ => pg_tup rfl (pgs_cons (pg_name sc_right_by.nd rfl (Or.inl rfl)) (pgs_cons (pg_name sc_right_by.nd rfl (Or.inl rfl)) pgs_nil))) rfl sc_right_by.nd (blkOk_by (N := ["weights", "at", "own"]) (sc := defScope s_right_by) (by decide +kernel)) (di_enum g1 (de_d 0 rfl))
    (fun i acc ρ' => acc = fsD ((rightF 0 l).take i) ∧ ρ' = [.d (.tuple (isD l)), .un, .un]) ⟨rfl, rfl⟩ (fun c' le i y acc ρ' ⟨e1, e2⟩ hy => ?_) (fun acc ρ' ⟨e1, e2⟩ => ?_))) .l) rfl)
  · subst e1 e2
    obtain ⟨d, hd, rfl⟩ := enumD_get hy
    rw [List.getElem?_map] at hd
    cases q : l[i]? with
    | none => rw [q] at hd; cases hd
    | some x =>
      rw [q] at hd
      cases hd
      have hx := hl.in_ x (List.mem_of_getElem? q)
      have hb := sum_bound (l := l.take (i + 1)) fun y hy => hl.in_ y (List.mem_of_mem_take hy)
      have hlt := lt_of_get q
      have hlen : (l.take (i + 1)).length = i + 1 := by rw [List.length_take]; omega
      have h9 := hl.len.2
      refine ⟨_, _, rfl, frD (low x (0 + (l.take (i + 1)).sum)), _, fun _ _ _ _ _ => de_fn C1 hr (le.T.trans hT) (da_cons (de_d 2 rfl) (da_cons (de_sum rfl g3 (de_slT (de_d 0 rfl) dp_no (dp_so (de_add (de_d 1 rfl) de_int))) (ns := l.take (i + 1)) ?_) da_nil)) ⟨x, (l.take (i + 1)).sum, by omega, by omega, rfl, by rw [Int.zero_add]⟩, ?_, ?_, rfl⟩
      · rw [show ((i : Nat) : Int) + 1 = ((i + 1 : Nat) : Int) from rfl, cutL_to, List.map_take]
        exact .dt
      · rw [List.length_map, List.length_take, rightF_len]
        omega
      · rw [take_snoc (rightF_at (s := 0) q)]
        simp [fsD]
  · subst e1 e2
    rw [enumD_len, show (isD l).length = (rightF 0 l).length by rw [rightF_len]; exact List.length_map .., List.take_length]
    exact ⟨rfl, rfl⟩
end
end K63
set_option Elab.async false
set_option linter.all false
set_option maxRecDepth 100000
set_option maxHeartbeats 4000000
namespace K63
open PySem PySem.Spec L2 DL
/-! the law's helpers -/
abbrev Bag : Type := Int × Int × Int
abbrev bagD (b : Bag) : PyData := .list [.int b.1, .int b.2.1, .int b.2.2]
def takeM (b : Bag) (top : Int) : Int × Bag :=
  if 0 < b.1 then (b.1 % top, (b.1 / top, b.2.1, b.2.2)) else ((b.2.1 * 16807 + 4099 * (b.2.2 + 1) + 1) % 2147483647 / 911 % top, (b.1, (b.2.1 * 16807 + 4099 * (b.2.2 + 1) + 1) % 2147483647, b.2.2 + 1))
theorem takeM_lt {b : Bag} {top : Int} (h : 0 < top) : 0 ≤ (takeM b top).1 ∧ (takeM b top).1 < top := by
  unfold takeM
  split
  · exact ⟨Int.emod_nonneg _ (by omega), Int.emod_lt_of_pos _ h⟩
  · exact ⟨Int.emod_nonneg _ (by omega), Int.emod_lt_of_pos _ h⟩
def stirM (ns : List Int) (s : Int) : Int := ns.foldl (fun s n => (s * 48271 + n % 2147483629 + 23) % 2147483647) s
def ownM (ns : List Int) (lap : Nat) : Int := (ns[lap]?).getD 0
def bagM (ns : List Int) (lap : Nat) : Bag :=
  (if (decide (ownM ns lap < 0) || decide ((10 : Int) ^ 15 ≤ ownM ns lap)) = true then (if ownM ns lap < 0 then -ownM ns lap else ownM ns lap) else 0, (stirM (ns.take 16) (52027 + 8009 * (lap : Int)) * 31 + ownM ns lap % 2147483629 * 17 + 3) % 2147483647, 0)
section
variable {P : Program} {w : World} {K : PySem.W.Frag} {mg : Str → Option Value} {base : Heap} {T : List (Addr × Str)} {f fO fC : Addr} {fd fdC : FuncData}
theorem sc_law_bag : FnScope ["script", "lap", "stirred", "cell", "own"] ["script", "lap"] (defScope s_law_bag) := ⟨rfl, rfl, rfl, by decide +kernel, rfl, by decide +kernel, by decide +kernel⟩
theorem sc_law_take : FnScope ["bag", "top", "digit"] ["bag", "top"] (defScope s_law_take) := ⟨rfl, rfl, rfl, by decide +kernel, rfl, by decide +kernel, by decide +kernel⟩
theorem sc_law_pull : FnScope ["bag", "some"] ["bag", "some"] (defScope s_law_pull) := ⟨rfl, rfl, rfl, by decide +kernel, rfl, by decide +kernel, by decide +kernel⟩
theorem sc_law_lowest : FnScope ["top", "low", "one", "two"] ["top", "low"] (defScope s_law_lowest) := ⟨rfl, rfl, rfl, by decide +kernel, rfl, by decide +kernel, by decide +kernel⟩
theorem sc_law_plus : FnScope ["one", "two"] ["one", "two"] (defScope s_law_plus) := ⟨rfl, rfl, rfl, by decide +kernel, rfl, by decide +kernel, by decide +kernel⟩
theorem sc_law_held : FnScope ["told", "found", "own", "each"] ["told"] (defScope s_law_held) := ⟨rfl, rfl, rfl, by decide +kernel, rfl, by decide +kernel, by decide +kernel⟩
theorem sc_law_told : FnScope ["bag", "found", "turn", "low"] ["bag"] (defScope s_law_told) := ⟨rfl, rfl, rfl, by decide +kernel, rfl, by decide +kernel, by decide +kernel⟩
def R_law_bag : List Ar → Re → Prop := fun as r => ∃ (ns : List Int) (lap : Nat), lap < 10 ∧ as = [.d (.list (isD ns)), .d (.int (lap : Nat))] ∧ r = .o (bagD (bagM ns lap))
def R_law_take : PyData → List Ar → Re → PyData → Prop := fun z as r z' => ∃ (b : Bag) (top : Int), 0 < top ∧ top < 1073741824 ∧ z = bagD b ∧ as = [.d (.int top)] ∧ r = .d (.int (takeM b top).1) ∧ z' = bagD (takeM b top).2
theorem ok_law_take (F : FnP K "_law_take" s_law_take f fd) (g1 : mg "divmod" = none) (g2 : mg "int" = none) : FnG P w K mg base 1 f fd ["bag", "top"] (spB T K R_law_take) := by
  refine FnG.mkB F sc_law_take (fun z as r z' ⟨_, _, _, _, _, h, _⟩ => by rw [h]; rfl) fun B c z as r z' hT hr ⟨b, top, h0, h9, e1, e2, e3, e4⟩ => ?_
  subst e1 e2 e3 e4
  refine dss_if (dt_gt (de_ix (de_n 0 rfl) de_int (.n rfl) rfl) de_int) (fun hk => ?_) fun hk => ?_
  · have hk' : 0 < b.1 := of_decide_eq_true hk
    refine dss (ds_asg (de_divmod g1 (de_ix (de_n 0 rfl) de_int (.n rfl) rfl) (de_d 1 rfl) ⟨h0, h9⟩) (dg_tup rfl (dgs_cons (fun c' _ => dg_sub 0 (de_n 0 rfl) (fun _ _ => de_int) rfl rfl) (dgs_cons (fun c' _ => dg_name 2 sc_law_take.nd) dgs_nil))) rfl) ?_
    refine dss_one (ds_ret (de_d 2 rfl) ?_)
    have e : takeM b top = (b.1 % top, (b.1 / top, b.2.1, b.2.2)) := if_pos hk'
    rw [e]
    exact ⟨rfl, rfl⟩
  · have hk' : ¬ 0 < b.1 := of_decide_eq_false hk
    have e : takeM b top = ((b.2.1 * 16807 + 4099 * (b.2.2 + 1) + 1) % 2147483647 / 911 % top, (b.1, (b.2.1 * 16807 + 4099 * (b.2.2 + 1) + 1) % 2147483647, b.2.2 + 1)) := if_neg hk'
    rw [e]
    refine dss (ds_asg (de_add (de_ix (de_n 0 rfl) de_int (.n rfl) rfl) de_int) (dg_sub 0 (de_n 0 rfl) (fun _ _ => de_int) rfl rfl) rfl) ?_
    refine dss (ds_asg (de_mod (de_intC g2 (de_add (de_add (de_mul (de_ix (de_n 0 rfl) de_int (.n rfl) rfl) de_int (cmul_r (by decide) (by decide))) (de_mul de_int (de_ix (de_n 0 rfl) de_int (.n rfl) rfl) (cmul_l (by decide) (by decide)))) de_int)) de_int (by decide)) (dg_sub 0 (de_n 0 rfl) (fun _ _ => de_int) rfl rfl) rfl) ?_
    exact dss_one (ds_ret (de_mod (de_intC g2 (de_fdiv (de_ix (de_n 0 rfl) de_int (.n rfl) rfl) de_int ⟨by decide, by decide⟩)) (de_d 1 rfl) h0) ⟨rfl, rfl⟩)
end
end K63
set_option Elab.async false
set_option linter.all false
set_option maxRecDepth 100000
set_option maxHeartbeats 4000000
namespace K63
open PySem PySem.Spec L2 DL
section
variable {P : Program} {w : World} {K : PySem.W.Frag} {mg : Str → Option Value} {base : Heap} {T : List (Addr × Str)} {f fO fC : Addr} {fd fdC : FuncData}
theorem isD_get {l : List Int} {i : Nat} {d : PyData} (h : (isD l)[i]? = some d) : ∃ x, l[i]? = some x ∧ d = .int x := by
  rw [List.getElem?_map] at h
  cases e : l[i]? with
  | none => rw [e] at h; cases h
  | some x => rw [e] at h; exact ⟨x, rfl, (Option.some.inj h).symm⟩
theorem isD_at {l : List Int} {i : Nat} {x : Int} (h : l[i]? = some x) : (isD l)[i]? = some (.int x) := by
  rw [List.getElem?_map, h]
  rfl
theorem ok_law_bag (F : FnP K "_law_bag" s_law_bag f fd) (g1 : mg "int" = none) (g2 : mg "len" = none) (g3 : mg "abs" = none) : FnG P w K mg base 1 f fd ["script", "lap"] (spF T K R_law_bag) := by
  refine FnG.mkF F sc_law_bag (fun as r ⟨_, _, _, h, _⟩ => by rw [h]; rfl) fun B c as r hT hr ⟨ns, lap, h9, h1, h2⟩ => ?_
  subst h1 h2
  refine dss (ds_set 2 sc_law_bag.nd (de_add de_int (de_mul de_int (de_d 1 rfl) (cmul_l (by decide) (by decide)))) rfl) ?_
  refine dss_cons (fun ρ' => ∃ s3, ρ' = [.d (.list (isD ns)), .d (.int (lap : Nat)), .d (.int (stirM (ns.take 16) (52027 + 8009 * (lap : Int)))), s3, .un])
    (ds_for (fun i ρ' => ∃ s3, ρ' = [.d (.list (isD ns)), .d (.int (lap : Nat)), .d (.int (stirM ((ns.take 16).take i) (52027 + 8009 * (lap : Int)))), s3, .un]) .never rfl (di_list (ds := isD (ns.take 16)) (DE.is (DO.fz (do_slL (de_d 0 rfl) dp_no (dp_so (i := ((16 : Nat) : Int)) de_int) .dl (fun l e => by injection e with e; cases e))) ?_)) ⟨_, rfl⟩ (fun c' le i y ρ' ⟨s3, e⟩ hy => ?_) (fun ρ' ⟨s3, e⟩ => ?_)) fun ρ' ⟨s3, e⟩ => ?_
  · show Wk.d (.list (cutL (isD ns) none (some ((16 : Nat) : Int)))) = Wk.d (.list ((ns.take 16).map _))
    rw [cutL_to, List.map_take]
  · subst e
    obtain ⟨x, hx, rfl⟩ := isD_get hy
    refine ⟨_, dg_name 3 sc_law_bag.nd, ?_⟩
    refine dss_one (ds_set 2 sc_law_bag.nd (de_mod (de_intC g1 (de_add (de_add (de_mul (de_d 2 rfl) de_int (cmul_r (by decide) (by decide))) (de_mod (de_intC g1 (de_d 3 rfl)) de_int (by decide))) de_int)) de_int (by decide)) ?_)
    refine ⟨.d (.int x), ?_⟩
    rw [take_snoc hx]
    unfold stirM
    rw [List.foldl_append]
    rfl
  · subst e
    refine ⟨s3, ?_⟩
    rw [show (isD (ns.take 16)).length = (ns.take 16).length from List.length_map .., List.take_length]
  · subst e
    refine dss (ds_set 4 sc_law_bag.nd (DE.is (de_ifP (y := .int (ownM ns lap)) (z := .int 0) (dt_lt (de_d 1 rfl) (de_len g2 (de_d 0 rfl) .dl)) (fun hk => de_intC g1 (de_ix (de_d 0 rfl) (de_d 1 rfl) .dl ?_)) fun _ => de_int) (W1 := .d (.int (ownM ns lap))) ?_) rfl) ?_
    · have hk' := of_decide_eq_true hk
      rw [List.length_map] at hk'
      have hlt : lap < ns.length := by omega
      refine atN (isD_at ?_) rfl
      unfold ownM
      rw [List.getElem?_eq_getElem hlt]
      rfl
    · split
      · rfl
      · rename_i hk
        rw [List.length_map] at hk
        have hge : ns.length ≤ lap := by
          have : ¬ ((lap : Int) < (ns.length : Int)) := fun z => hk (decide_eq_true z)
          omega
        unfold ownM
        rw [List.getElem?_eq_none hge]
        rfl
    refine dss (ds_set 2 sc_law_bag.nd (de_mod (de_intC g1 (de_add (de_add (de_mul (de_d 2 rfl) de_int (cmul_r (by decide) (by decide))) (de_mul (de_mod (de_intC g1 (de_d 4 rfl)) de_int (by decide)) de_int (cmul_r (by decide) (by decide)))) de_int)) de_int (by decide)) rfl) ?_
    refine dss_one (ds_retO (do_lst (da_cons (de_ifP (dc_pt (dc_orP (dt_lt (de_d 4 rfl) de_int) fun _ => dc_or1 (dt_ge (de_d 4 rfl) (de_pow de_int de_int ⟨by decide, by decide, by decide⟩)))) (fun _ => de_abs g3 (de_d 4 rfl)) fun _ => de_int) (da_cons (de_d 2 rfl) (da_cons de_int da_nil))) rfl (show 3 ≤ 100000 by decide)) ?_)
    show Re.o _ = Re.o _
    unfold bagM bagD
    show Re.o (.list [if (decide (ownM ns lap < 0) || decide ((10 : Int) ^ 15 ≤ ownM ns lap)) = true then _ else _, _, _]) = _
    generalize (decide (ownM ns lap < 0) || decide ((10 : Int) ^ 15 ≤ ownM ns lap)) = k
    cases k <;> rfl
def R_law_pull : PyData → List Ar → Re → PyData → Prop := fun z as r z' => ∃ (b : Bag) (ds : List PyData) (y : PyData), 1 ≤ ds.length ∧ ds.length < 100000 ∧ ds[(takeM b ds.length).1.toNat]? = some y ∧ z = bagD b ∧ as = [.d (.list ds)] ∧ r = .d y ∧ z' = bagD (takeM b ds.length).2
theorem ok_law_pull (F : FnP K "_law_pull" s_law_pull f fd) (g1 : mg "len" = none) (C1 : CalB P w K mg base T 1 "_law_take" ["bag", "top"] R_law_take) : FnG P w K mg base 2 f fd ["bag", "some"] (spB T K R_law_pull) := by
  refine FnG.mkB F sc_law_pull (fun z as r z' ⟨_, _, _, _, _, _, _, h, _⟩ => by rw [h]; rfl) fun B c z as r z' hT hr ⟨b, ds, y, h1, h9, hy, e1, e2, e3, e4⟩ => ?_
  subst e1 e2 e3 e4
  have h0 := takeM_lt (b := b) (top := ds.length) (by omega)
  exact dss_one (ds_ret (de_ix (de_d 1 rfl) (de_fnB 0 C1 hr hT (da_cons (de_n 0 rfl) (da_cons (de_len g1 (de_d 1 rfl) .dl) da_nil)) rfl ⟨b, ds.length, by omega, by omega, rfl, rfl, rfl, rfl⟩) .dl (atN hy (by omega))) ⟨rfl, rfl⟩)
def R_law_lowest : List Ar → Re → Prop := fun as r => ∃ a b : Int, 0 ≤ a ∧ 0 < b ∧ b.natAbs < 2 ^ 9000 ∧ as = [.d (.int a), .d (.int b)] ∧ r = .d (frD (low a b))
theorem ok_law_lowest (F : FnP K "_law_lowest" s_law_lowest f fd) (g1 : mg "int" = none) : FnG P w K mg base 1 f fd ["top", "low"] (spF T K R_law_lowest) := by
  refine FnG.mkF F sc_law_lowest (fun as r ⟨_, _, _, _, _, h, _⟩ => by rw [h]; rfl) fun B c as r hT hr ⟨a, b, ha, hb, hz, h1, h2⟩ => ?_
  subst h1 h2
  refine dss (ds_par 2 3 rfl sc_law_lowest.nd (de_d 0 rfl) (de_d 1 rfl) rfl) ?_
  refine dss_cons (fun ρ' => ρ' = [.d (.int a), .d (.int b), .d (.int (gcdI a b)), .d (.int 0)])
    (ds_while (fun m ρ' => ∃ x y : Int, 0 ≤ x ∧ 0 ≤ y ∧ m = y.natAbs ∧ gcdI x y = gcdI a b ∧ ρ' = [.d (.int a), .d (.int b), .d (.int x), .d (.int y)]) .never ⟨_, a, b, ha, by omega, rfl, rfl, rfl⟩ fun m ρ' ⟨x, y, hx, hy, hm, hg, e⟩ => ?_) fun ρ' e => ?_
  · subst e
    refine ⟨decide (0 < y), _, dt_gt (de_d 3 rfl) de_int, fun hk => ?_, fun hk => ?_⟩
    · have hk' : 0 < y := of_decide_eq_true hk
      refine dss_one (ds_par 2 3 rfl sc_law_lowest.nd (de_d 3 rfl) (de_mod (de_intC g1 (de_d 2 rfl)) (de_d 3 rfl) hk') ?_)
      have a1 := Int.emod_nonneg x (b := y) (by omega)
      have a2 := Int.emod_lt_of_pos x hk'
      refine ⟨(x % y).natAbs, by omega, y, x % y, hy, a1, rfl, ?_, rfl⟩
      rw [← hg]
      unfold gcdI
      rw [show (x % y).natAbs = x.natAbs % y.natAbs from by
        have e : x % y = ((x.natAbs % y.natAbs : Nat) : Int) := by
          rw [Int.natCast_emod, Int.natAbs_of_nonneg hx, Int.natAbs_of_nonneg hy]
        rw [e, Int.natAbs_natCast], Nat.gcd_comm y.natAbs, ← Nat.gcd_rec, Nat.gcd_comm]
    · have hk' : ¬ 0 < y := of_decide_eq_false hk
      have e : y = 0 := by omega
      subst e
      show _ = _
      rw [← hg]
      unfold gcdI
      rw [show (0 : Int).natAbs = 0 from rfl, Nat.gcd_zero_right, Int.natAbs_of_nonneg hx]
  · subst e
    have g0 := gcdI_pos (a := a) hb
    have g9 := gcdI_le (a := a) hb
    have gz : (gcdI a b).natAbs < 2 ^ 9000 := Nat.lt_of_le_of_lt (by omega) hz
    exact dss_one (ds_ret (de_tup (da_cons (de_fdivW (de_d 0 rfl) (de_d 2 rfl) g0 gz) (da_cons (de_fdivW (de_d 1 rfl) (de_d 2 rfl) g0 gz) da_nil)) rfl (by simp)) rfl)
def R_law_plus : List Ar → Re → Prop := fun as r => ∃ x y : Fr, Sh x ∧ Sh y ∧ x.2 < 2 ^ 62 ∧ y.2 < 2 ^ 62 ∧ as = [.d (frD x), .d (frD y)] ∧ r = .d (frD (plus x y))
theorem mul_wide {a b : Int} (h1 : 1 ≤ a) (h2 : a < 2 ^ 62) (h3 : 1 ≤ b) (h4 : b < 2 ^ 62) : (a * b).natAbs < 2 ^ 9000 := by
  rw [Int.natAbs_mul]
  have e1 : a.natAbs < 2 ^ 62 := by
    have : (2 : Int) ^ 62 = ((2 ^ 62 : Nat) : Int) := by decide
    omega
  have e2 : b.natAbs < 2 ^ 62 := by
    have : (2 : Int) ^ 62 = ((2 ^ 62 : Nat) : Int) := by decide
    omega
  have e3 : a.natAbs * b.natAbs < 2 ^ 62 * 2 ^ 62 := Nat.mul_lt_mul'' e1 e2
  have e4 : (2 : Nat) ^ 62 * 2 ^ 62 = 2 ^ 124 := by decide
  have e5 : (2 : Nat) ^ 124 ≤ 2 ^ 9000 := Nat.pow_le_pow_right (by decide) (by decide)
  omega
theorem mul_wide3 {a b : Int} (h1 : 1 ≤ a) (h2 : a < 2 ^ 63) (h3 : 1 ≤ b) (h4 : b < 2 ^ 63) : (a * b).natAbs < 2 ^ 9000 := by
  rw [Int.natAbs_mul]
  have e1 : a.natAbs < 2 ^ 63 := by
    have : (2 : Int) ^ 63 = ((2 ^ 63 : Nat) : Int) := by decide
    omega
  have e2 : b.natAbs < 2 ^ 63 := by
    have : (2 : Int) ^ 63 = ((2 ^ 63 : Nat) : Int) := by decide
    omega
  have e3 : a.natAbs * b.natAbs < 2 ^ 63 * 2 ^ 63 := Nat.mul_lt_mul'' e1 e2
  have e4 : (2 : Nat) ^ 63 * 2 ^ 63 = 2 ^ 126 := by decide
  have e5 : (2 : Nat) ^ 126 ≤ 2 ^ 9000 := Nat.pow_le_pow_right (by decide) (by decide)
  omega
theorem ok_law_plus (F : FnP K "_law_plus" s_law_plus f fd) (C1 : Cal P w K mg base T 1 "_law_lowest" ["top", "low"] R_law_lowest) : FnG P w K mg base 2 f fd ["one", "two"] (spF T K R_law_plus) := by
  refine FnG.mkF F sc_law_plus (fun as r ⟨_, _, _, _, _, _, h, _⟩ => by rw [h]; rfl) fun B c as r hT hr ⟨x, y, hx, hy, bx, by_, h1, h2⟩ => ?_
  subst h1 h2
  have px := hx.pos
  have py := hy.pos
  exact dss_one (ds_ret (de_fn C1 hr hT (da_cons (de_add (de_mul (de_ix (de_d 0 rfl) de_int .dt rfl) (de_ix (de_d 1 rfl) de_int .dt rfl) (cmul_r (by omega) (by omega))) (de_mul (de_ix (de_d 1 rfl) de_int .dt rfl) (de_ix (de_d 0 rfl) de_int .dt rfl) (cmul_r (by omega) (by omega))))
    (da_cons (de_mul (de_ix (de_d 0 rfl) de_int .dt rfl) (de_ix (de_d 1 rfl) de_int .dt rfl) (cmul_r (by omega) (by omega))) da_nil)) ⟨_, _, Int.add_nonneg (Int.mul_nonneg hx.nn (by omega)) (Int.mul_nonneg hy.nn (by omega)), Int.mul_pos (by omega) (by omega), mul_wide px bx py by_, rfl, rfl⟩) rfl)
def R_law_held : List Ar → Re → Prop := fun as r => ∃ l : List Fr, (∀ x ∈ l, Sh x) ∧ den l < 2 ^ 63 ∧ l.length ≤ 9 ∧ as = [.d (.tuple (fsD l))] ∧ r = .d (.tuple (fsD (heldL l)))
end
end K63
set_option Elab.async false
set_option linter.all false
set_option maxRecDepth 100000
set_option maxHeartbeats 4000000
namespace K63
open PySem PySem.Spec L2 DL
theorem heldL_mem : ∀ {l : List Fr}, (∀ x ∈ l, Sh x) → ∀ e ∈ heldL l, Sh e ∧ e.2 ≤ den l
  | [], _, e, h => by cases h
  | x :: r, hl, e, h => by
    have hx := hl x (by simp)
    have hr : ∀ z ∈ r, Sh z := fun z hz => hl z (List.mem_cons_of_mem _ hz)
    rcases List.mem_cons.mp h with rfl | h
    · exact ⟨share_sh hx hr, share_den hx hr⟩
    · obtain ⟨h1, h2⟩ := heldL_mem hr e h
      refine ⟨h1, ?_⟩
      have p := den_pos hr
      have px := hx.pos
      have : 1 * den r ≤ x.2 * den r := Int.mul_le_mul_of_nonneg_right px (by omega)
      show _ ≤ x.2 * den r
      omega
/-! what is told, drawn -/
def toldStep (x : List Fr × Bag) : List Fr × Bag :=
  (x.1 ++ [low (takeM (takeM x.2 6).2 (1 + (takeM x.2 6).1 + 1)).1 (1 + (takeM x.2 6).1)], (takeM (takeM x.2 6).2 (1 + (takeM x.2 6).1 + 1)).2)
def toldN : Nat → List Fr × Bag → List Fr × Bag
  | 0, x => x
  | k + 1, x => toldStep (toldN k x)
def toldM (b : Bag) : List Fr × Bag := toldN (takeM b 6).1.toNat ([(1, 1)], (takeM b 6).2)
/-- a drawn row of chances -/
structure Drawn (k : Nat) (l : List Fr) : Prop where
  sh : ∀ x ∈ l, Sh x ∧ x.2 ≤ 6
  len : l.length = k + 1
  fst : l[0]? = some (1, 1)
theorem low_bound {a q : Int} (h0 : 0 ≤ a) (h1 : a ≤ q) (h2 : 0 < q) (h3 : q ≤ 6) : Sh (low a q) ∧ (low a q).2 ≤ 6 := ⟨Sh.of h0 h1 h2, Int.le_trans (low_le h2) h3⟩
theorem toldStep_at (x : List Fr × Bag) : ∃ y, (Sh y ∧ y.2 ≤ 6) ∧ (toldStep x).1 = x.1 ++ [y] := by
  have a1 := takeM_lt (b := x.2) (top := 6) (by decide)
  have a2 := takeM_lt (b := (takeM x.2 6).2) (top := 1 + (takeM x.2 6).1 + 1) (by omega)
  exact ⟨_, low_bound a2.1 (by omega) (by omega) (by omega), rfl⟩
theorem toldN_drawn (b : Bag) : ∀ k, Drawn k (toldN k ([(1, 1)], b)).1
  | 0 => ⟨(fun x hx => by rcases List.mem_cons.mp hx with rfl | h; exact ⟨⟨by decide, by decide, by decide, by decide⟩, by decide⟩; cases h), rfl, rfl⟩
  | k + 1 => by
    obtain ⟨y, hy, e⟩ := toldStep_at (toldN k ([(1, 1)], b))
    have ih := toldN_drawn b k
    show Drawn (k + 1) (toldStep _).1
    rw [e]
    refine ⟨fun x hx => ?_, by rw [List.length_append, ih.len]; rfl, ?_⟩
    · rcases List.mem_append.mp hx with h | h
      · exact ih.sh x h
      · rcases List.mem_cons.mp h with rfl | h
        · exact hy
        · cases h
    · rw [List.getElem?_append_left (by rw [ih.len]; omega)]
      exact ih.fst
theorem den_le6 : ∀ {l : List Fr}, (∀ x ∈ l, Sh x ∧ x.2 ≤ 6) → den l ≤ 6 ^ l.length
  | [], _ => by decide
  | x :: r, h => by
    have hx := h x (by simp)
    have ih := den_le6 fun y hy => h y (List.mem_cons_of_mem _ hy)
    have p := den_pos fun y hy => (h y (List.mem_cons_of_mem x hy)).1
    show x.2 * den r ≤ _
    rw [List.length_cons, Int.pow_succ, Int.mul_comm _ (6 : Int)]
    have a1 : x.2 * den r ≤ 6 * den r := Int.mul_le_mul_of_nonneg_right hx.2 (by omega)
    omega
theorem Drawn.lenLt {k : Nat} {l : List Fr} (h : Drawn k l) (hk : k < 6) : den l ≤ 46656 := by
  have h1 := den_le6 h.sh
  rw [h.len] at h1
  have h2 : (6 : Int) ^ (k + 1) ≤ 6 ^ 6 := by
    match k, hk with
    | 0, _ => decide
    | 1, _ => decide
    | 2, _ => decide
    | 3, _ => decide
    | 4, _ => decide
    | 5, _ => decide
  have h3 : (6 : Int) ^ 6 = 46656 := by decide
  omega
theorem Drawn.told {k : Nat} {l : List Fr} (h : Drawn k l) (hk : k < 6) : Told l := ⟨fun x hx => (h.sh x hx).1, by have := h.lenLt hk; omega, by rw [h.len]; omega, h.fst⟩
section
variable {P : Program} {w : World} {K : PySem.W.Frag} {mg : Str → Option Value} {base : Heap} {T : List (Addr × Str)} {f fO fC : Addr} {fd fdC : FuncData}
theorem ok_law_held (F : FnP K "_law_held" s_law_held f fd) (g1 : mg "tuple" = none) (C1 : Cal P w K mg base T 1 "_law_lowest" ["top", "low"] R_law_lowest) : FnG P w K mg base 2 f fd ["told"] (spF T K R_law_held) := by
  refine FnG.mkF F sc_law_held (fun as r ⟨_, _, _, _, h, _⟩ => by rw [h]; rfl) fun B c as r hT hr ⟨l, hl, hz, hn, h1, h2⟩ => ?_
  subst h1 h2
  refine dss (ds_set 1 sc_law_held.nd (DO.fz (do_lst da_nil rfl)) rfl) ?_
  refine dss_cons (fun ρ' => ∃ s2, ρ' = [.d (.tuple (fsD l)), .d (.list (fsD (heldL l))), s2, .un])
    (ds_for (fun i ρ' => ∃ s2, ρ' = [.d (.tuple (fsD l)), .d (.list (fsD (heldL (l.take i)))), s2, .un]) .never rfl (di_tup (de_d 0 rfl)) ⟨_, rfl⟩ (fun c' le i y ρ' ⟨s2, e⟩ hy => ?_) (fun ρ' ⟨s2, e⟩ => ?_)) fun ρ' ⟨s2, e⟩ => ?_
  · subst e
    obtain ⟨x, hx, rfl⟩ := fsD_get hy
    have hs := hl x (List.mem_of_getElem? hx)
    have ps := hs.pos
    have bs := den_mem_le hl hx
    have ht : ∀ z ∈ l.take i, Sh z := fun z hz => hl z (List.mem_of_mem_take hz)
    have hd := den_take_le hl i
    refine ⟨_, dg_name 2 sc_law_held.nd, ?_⟩
    refine dss_one (ds_set 1 sc_law_held.nd (DO.fz (do_cat (DO.fl (ds := fsD ((heldL (l.take i)).map fun e => low (e.1 * (x.2 - x.1)) (e.2 * x.2))) (do_lc1 (x := "each") (ρ2 := [.d (.tuple (fsD l)), .d (.list (fsD (heldL (l.take i)))), .d (frD x), .un]) 3 (fun _ _ _ _ _ => pg_name sc_law_held.nd rfl (Or.inl rfl)) rfl sc_law_held.nd
      (blkOk_by (N := ["told", "found", "own", "each"]) (sc := defScope s_law_held) (by decide +kernel)) (di_list (de_d 1 rfl))
      (fun j acc ρ' => acc = fsD (((heldL (l.take i)).map fun e => low (e.1 * (x.2 - x.1)) (e.2 * x.2)).take j) ∧ ρ' = [.d (.tuple (fsD l)), .d (.list (fsD (heldL (l.take i)))), .d (frD x), .un]) ⟨rfl, rfl⟩ (fun c2 le2 j y acc ρ' ⟨e1, e2⟩ hy => ?_) (fun acc ρ' ⟨e1, e2⟩ => ?_))) (DO.fl (do_lst (da_cons (de_d 2 rfl) da_nil) rfl (show 1 ≤ 100000 by decide))) .l .l ?_)) ?_)
    · subst e1 e2
      obtain ⟨e, he, rfl⟩ := fsD_get hy
      obtain ⟨se, be⟩ := heldL_mem ht e (List.mem_of_getElem? he)
      have pe := se.pos
      refine ⟨frD (low (e.1 * (x.2 - x.1)) (e.2 * x.2)), _, fun _ _ _ _ _ => de_fn C1 hr ((le.trans le2).T.trans hT) (da_cons (de_mul (de_ix (de_d 3 rfl) de_int .dt rfl) (de_sub (de_ix (de_d 2 rfl) de_int .dt rfl) (de_ix (de_d 2 rfl) de_int .dt rfl)) (cmul_l se.nn (by have := se.le; omega)))
        (da_cons (de_mul (de_ix (de_d 3 rfl) de_int .dt rfl) (de_ix (de_d 2 rfl) de_int .dt rfl) (cmul_r (by omega) (by omega))) da_nil)) ⟨_, _, Int.mul_nonneg se.nn (by have := hs.le; omega), Int.mul_pos (by omega) (by omega), ?_, rfl, rfl⟩, ?_, ?_, rfl⟩
      · exact mul_wide3 pe (by omega) ps (by omega)
      · rw [List.length_map, List.length_take, List.length_map, heldL_len, List.length_take]
        omega
      · have he2 : ((heldL (l.take i)).map fun e => low (e.1 * (x.2 - x.1)) (e.2 * x.2))[j]? = some (low (e.1 * (x.2 - x.1)) (e.2 * x.2)) := by rw [List.getElem?_map, he]; rfl
        rw [take_snoc he2]
        simp [fsD]
    · subst e1 e2
      rw [show (fsD (heldL (l.take i))).length = ((heldL (l.take i)).map fun e => low (e.1 * (x.2 - x.1)) (e.2 * x.2)).length by rw [List.length_map, List.length_map], List.take_length]
      exact ⟨rfl, rfl⟩
    · rw [List.length_map, List.length_map, heldL_len, List.length_take]
      show _ + 1 ≤ _
      omega
    · refine ⟨.d (frD x), ?_⟩
      rw [take_snoc hx, heldL_snoc ht hs]
      simp [fsD]
  · subst e
    exact ⟨_, by rw [show (fsD l).length = l.length from List.length_map .., List.take_length]⟩
  · subst e
    exact dss_one (ds_ret (de_tupC g1 (de_d 1 rfl) .dl) rfl)
def R_law_told : PyData → List Ar → Re → PyData → Prop := fun z as r z' => ∃ b : Bag, z = bagD b ∧ as = [] ∧ r = .d (.tuple (fsD (toldM b).1)) ∧ z' = bagD (toldM b).2
theorem ok_law_told (F : FnP K "_law_told" s_law_told f fd) (g1 : mg "range" = none) (g2 : mg "tuple" = none) (C1 : CalB P w K mg base T 1 "_law_take" ["bag", "top"] R_law_take) (C2 : Cal P w K mg base T 1 "_law_lowest" ["top", "low"] R_law_lowest) : FnG P w K mg base 2 f fd ["bag"] (spB T K R_law_told) := by
  refine FnG.mkB F sc_law_told (fun z as r z' ⟨_, _, h, _⟩ => by rw [h]; rfl) fun B c z as r z' hT hr ⟨b, e1, e2, e3, e4⟩ => ?_
  subst e1 e2 e3 e4
  have h6 := takeM_lt (b := b) (top := 6) (by decide)
  refine dss (ds_setO 1 sc_law_told.nd (do_lst (da_cons (de_tup (da_cons de_int (da_cons de_int da_nil)) rfl (show 2 ≤ 100000 by decide)) da_nil) rfl (show 1 ≤ 100000 by decide)) rfl) ?_
  refine dss_cons (fun ρ' => ∃ s2 s3, ρ' = [.m true (bagD (toldM b).2), .m false (.list (fsD (toldM b).1)), s2, s3])
    (ds_for (fun i ρ' => ∃ s2 s3, ρ' = [.m true (bagD (toldN i ([(1, 1)], (takeM b 6).2)).2), .m false (.list (fsD (toldN i ([(1, 1)], (takeM b 6).2)).1)), s2, s3]) .never rfl (di_range g1 (de_fnB 0 C1 hr hT (da_cons (de_n 0 rfl) (da_cons de_int da_nil)) rfl ⟨b, 6, by decide, by decide, rfl, rfl, rfl, rfl⟩) ⟨by omega, by omega⟩) ⟨_, _, rfl⟩ (fun c' le i y ρ' ⟨s2, s3, e⟩ hy => ?_) (fun ρ' ⟨s2, s3, e⟩ => ?_)) fun ρ' ⟨s2, s3, e⟩ => ?_
  · subst e
    obtain ⟨hi, rfl⟩ := rangeD_get hy
    have hT' : c'.T = T := le.T.trans hT
    generalize hx : toldN i ([(1, 1)], (takeM b 6).2) = x
    have hdr : Drawn i x.1 := by rw [← hx]; exact toldN_drawn _ i
    have a1 := takeM_lt (b := x.2) (top := 6) (by decide)
    have a2 := takeM_lt (b := (takeM x.2 6).2) (top := 1 + (takeM x.2 6).1 + 1) (by omega)
    refine ⟨_, dg_name 2 sc_law_told.nd, ?_⟩
    refine dss (ds_set 3 sc_law_told.nd (de_add de_int (de_fnB 0 C1 hr hT' (da_cons (de_n 0 rfl) (da_cons de_int da_nil)) rfl ⟨x.2, 6, by decide, by decide, rfl, rfl, rfl, rfl⟩)) rfl) ?_
    refine dss_one (ds_append 1 (de_n 1 rfl) rfl (de_fn (y := frD (low (takeM (takeM x.2 6).2 (1 + (takeM x.2 6).1 + 1)).1 (1 + (takeM x.2 6).1))) C2 hr hT' (da_cons (de_fnB 0 C1 hr hT' (da_cons (de_n 0 rfl) (da_cons (de_add (de_d 3 rfl) de_int) da_nil)) rfl ⟨(takeM x.2 6).2, 1 + (takeM x.2 6).1 + 1, by omega, by omega, rfl, rfl, rfl, rfl⟩) (da_cons (de_d 3 rfl) da_nil)) ⟨_, _, a2.1, by omega, ?_, rfl, rfl⟩) rfl ?_ ?_)
    · have : (1 + (takeM x.2 6).1).natAbs < 2 ^ 10 := by omega
      exact Nat.lt_of_lt_of_le this (Nat.pow_le_pow_right (by decide) (by decide))
    · rw [List.length_map, hdr.len]
      omega
    · refine ⟨.d (.int (0 + (i : Nat))), .d (.int (1 + (takeM x.2 6).1)), ?_⟩
      show [_, _, _, _] = [Sl.m true (bagD (toldStep (toldN i ([(1, 1)], (takeM b 6).2))).2), Sl.m false (.list (fsD (toldStep (toldN i ([(1, 1)], (takeM b 6).2))).1)), _, _]
      rw [hx]
      simp [toldStep, fsD]
  · subst e
    rw [rangeD_len]
    exact ⟨_, _, rfl⟩
  · subst e
    exact dss_one (ds_ret (de_tupC g2 (de_n 1 rfl) (.n rfl)) ⟨rfl, rfl⟩)
end
end K63
set_option Elab.async false
set_option linter.all false
set_option maxRecDepth 100000
set_option maxHeartbeats 4000000
namespace K63
open PySem PySem.Spec L2 DL
/-! weights, drawn -/
def pullV (d : Int) : Int := if d.toNat = 0 then 4 else 99
def wtsStep (x : List Int × Bag) : List Int × Bag := (x.1 ++ [1 + (takeM (takeM x.2 2).2 (pullV (takeM x.2 2).1)).1], (takeM (takeM x.2 2).2 (pullV (takeM x.2 2).1)).2)
def wtsN : Nat → List Int × Bag → List Int × Bag
  | 0, x => x
  | k + 1, x => wtsStep (wtsN k x)
def wtsM (b : Bag) : List Int × Bag := wtsN (1 + (takeM b 6).1).toNat ([], (takeM b 6).2)
theorem pullV_in (d : Int) : 0 < pullV d ∧ pullV d ≤ 99 := by
  unfold pullV
  split <;> omega
theorem wtsN_ok (b : Bag) : ∀ k, (∀ x ∈ (wtsN k ([], b)).1, 1 ≤ x ∧ x ≤ 99) ∧ (wtsN k ([], b)).1.length = k
  | 0 => ⟨(fun x h => by cases h), rfl⟩
  | k + 1 => by
    obtain ⟨h1, h2⟩ := wtsN_ok b k
    have hv := pullV_in (takeM (wtsN k ([], b)).2 2).1
    have ht := takeM_lt (b := (takeM (wtsN k ([], b)).2 2).2) (top := pullV (takeM (wtsN k ([], b)).2 2).1) hv.1
    refine ⟨fun x hx => ?_, ?_⟩
    · rcases List.mem_append.mp hx with h | h
      · exact h1 x h
      · rcases List.mem_cons.mp h with rfl | h
        · omega
        · cases h
    · show (wtsStep (wtsN k ([], b))).1.length = _
      unfold wtsStep
      rw [List.length_append, h2]
      rfl
theorem wtsM_ok (b : Bag) : Wts (wtsM b).1 ∧ (wtsM b).1.length ≤ 6 := by
  have h := takeM_lt (b := b) (top := 6) (by decide)
  obtain ⟨h1, h2⟩ := wtsN_ok (takeM b 6).2 (1 + (takeM b 6).1).toNat
  have e : (wtsM b).1.length = (1 + (takeM b 6).1).toNat := h2
  exact ⟨⟨h1, by omega⟩, by omega⟩
def rightM (b : Bag) : Bag := (wtsM (toldM b).2).2
/-! the chances' sum, on the way -/
theorem part_suffix : ∀ {r : List Fr} {j : Nat}, (∀ z ∈ r, Sh z) → j ≤ r.length → ((heldL r).take j).foldl plus (low (num r) (den r)) = low (num (r.drop j)) (den (r.drop j))
  | r, 0, _, _ => by simp
  | [], j + 1, _, hj => by simp at hj
  | x :: r, j + 1, h, hj => by
    have hr : ∀ z ∈ r, Sh z := fun z hz => h z (List.mem_cons_of_mem _ hz)
    show (share x r :: (heldL r).take j).foldl plus _ = _
    rw [List.foldl_cons, plus_step (h x (by simp)) hr, part_suffix hr (by simpa using hj)]
    rfl
theorem part_ok {l : List Fr} (h : ∀ z ∈ l, Sh z) (h0 : l[0]? = some (1, 1)) {i : Nat} (hi : i ≤ l.length) : Sh (((heldL l).take i).foldl plus (0, 1)) ∧ (((heldL l).take i).foldl plus (0, 1)).2 ≤ den l := by
  cases l with
  | nil => cases h0
  | cons x r =>
    simp at h0
    subst h0
    have hr : ∀ z ∈ r, Sh z := fun z hz => h z (List.mem_cons_of_mem _ hz)
    have hd := den_pos h
    cases i with
    | zero => exact ⟨show Sh (0, 1) from ⟨by decide, by decide, by decide, by decide⟩, by show (1 : Int) ≤ _; omega⟩
    | succ j =>
      have e : ((heldL ((1, 1) :: r)).take (j + 1)).foldl plus (0, 1) = low (num (r.drop j)) (den (r.drop j)) := by
        show (share (1, 1) r :: (heldL r).take j).foldl plus (0, 1) = _
        rw [List.foldl_cons, plus_first hr, part_suffix hr (by simpa using hi)]
      have hs : ∀ z ∈ r.drop j, Sh z := fun z hz => hr z (List.mem_of_mem_drop hz)
      rw [e]
      have p := den_pos hs
      refine ⟨Sh.of (num_nonneg hs) (num_le hs) p, Int.le_trans (low_le p) ?_⟩
      have := den_drop_le hr j
      show _ ≤ (1 : Int) * den r
      omega
theorem rightF_den : ∀ {l : List Int} {s m : Int}, 0 ≤ s → (∀ x ∈ l, 1 ≤ x) → s + l.sum ≤ m → den (rightF s l) ≤ m ^ l.length
  | [], _, _, _, _, _ => by simp [rightF, den]
  | x :: r, s, m, hs, hx, hm => by
    have h1 := hx x (by simp)
    have hr : ∀ y ∈ r, 1 ≤ y := fun y hy => hx y (List.mem_cons_of_mem _ hy)
    rw [List.sum_cons, ← Int.add_assoc] at hm
    have ih := rightF_den (s := s + x) (by omega) hr hm
    have p := den_pos (rightF_sh (s := s + x) (by omega) hr)
    have tot : 0 ≤ r.sum := by
      clear ih p hm hx
      induction r with
      | nil => simp
      | cons a t ih2 =>
        have := hr a (by simp)
        have := ih2 fun y hy => hr y (List.mem_cons_of_mem _ hy)
        rw [List.sum_cons]
        omega
    have hl : (low x (s + x)).2 ≤ m := Int.le_trans (low_le (by omega)) (by omega)
    show (low x (s + x)).2 * den (rightF (s + x) r) ≤ _
    rw [List.length_cons, Int.pow_succ, Int.mul_comm _ m]
    exact Int.le_trans (Int.mul_le_mul_of_nonneg_right hl (by omega)) (Int.mul_le_mul_of_nonneg_left ih (by omega))
theorem right_told {l : List Int} (h : Wts l) (h6 : l.length ≤ 6) : Told (rightF 0 l) := by
  have hx : ∀ x ∈ l, 1 ≤ x := fun x hx => (h.in_ x hx).1
  have hs := sum_bound h.in_
  refine ⟨rightF_sh (by decide) hx, ?_, by rw [rightF_len]; exact h.len, ?_⟩
  · have h1 := rightF_den (m := 594) (s := 0) (by decide) hx (by omega)
    have h2 : ∀ n : Nat, n ≤ 6 → (594 : Int) ^ n ≤ 594 ^ 6 := by decide
    have h2 := h2 _ h6
    have h3 : (594 : Int) ^ 6 < 2 ^ 63 := by decide
    omega
  · cases l with
    | nil => have := h.len.1; simp at this
    | cons x r =>
      have h1 := hx x (by simp)
      show some (low x (0 + x)) = _
      rw [Int.zero_add, low_one (by omega)]
theorem rep_fs (x : Fr) : ∀ l : List Fr, (List.replicate l.length [frD x]).flatten = fsD (l.map fun _ => x)
  | [] => rfl
  | y :: r => by
    rw [List.length_cons, List.replicate_succ, List.flatten_cons, rep_fs x r]
    rfl
theorem Told.snoc {l : List Fr} (h : Told l) (h8 : l.length ≤ 8) {y : Fr} (hy : Sh y) (h1 : y.2 = 1) : Told (l ++ [y]) := by
  refine ⟨fun x hx => ?_, ?_, ?_, ?_⟩
  · rcases List.mem_append.mp hx with z | z
    · exact h.sh x z
    · rcases List.mem_cons.mp z with rfl | z
      · exact hy
      · cases z
  · rw [den_app]
    rw [show K63.den [y] = 1 by simp [K63.den, h1], Int.mul_one]
    exact h.den
  · rw [List.length_append]
    show _ ≤ _ + 1 ∧ _ + 1 ≤ _
    omega
  · rw [List.getElem?_append_left (by have := h.len; omega)]
    exact h.fst
end K63
set_option Elab.async false
set_option linter.all false
set_option maxRecDepth 100000
set_option maxHeartbeats 4000000
namespace K63
open PySem PySem.Spec L2 DL
section
variable {P : Program} {w : World} {K : PySem.W.Frag} {mg : Str → Option Value} {base : Heap} {T : List (Addr × Str)} {f fO fC : Addr} {fd fdC : FuncData}
abbrev N_right : List Str := ["bag", "told_here", "weights", "due", "whole", "own", "turn", "k", "weight"]
theorem sc_law_right : FnScope N_right ["bag"] (defScope s_law_right) := ⟨rfl, rfl, rfl, by decide +kernel, rfl, by decide +kernel, by decide +kernel⟩
theorem sc_law : FnScope ["script", "lap", "bag", "turn"] ["script"] (defScope s_law) := ⟨rfl, rfl, rfl, by decide +kernel, rfl, by decide +kernel, by decide +kernel⟩
def R_law_right : PyData → List Ar → Re → PyData → Prop := fun z as r z' => ∃ b : Bag, z = bagD b ∧ as = [] ∧ r = .d (.bool true) ∧ z' = bagD (rightM b)
theorem nice_two {y : PyData} {d n : Nat} (h : Nice 40 d n y) : Nice 40 (d + 1) (2 * (n + 1)) (.list [y, y]) := Nice.lst (fun z hz => by
  rcases List.mem_cons.mp hz with rfl | hz
  · exact h
  · rcases List.mem_cons.mp hz with rfl | hz
    · exact h
    · cases hz) (by simp)
theorem told_nice {l : List Fr} (h : Told l) : Nice 40 2 27 (.tuple (fsD l)) := nice_fs (m := 9) (by decide) (by decide) (sh_small h.sh h.den) h.len.2
theorem held_nice {l : List Fr} (h : Told l) : Nice 40 2 27 (.tuple (fsD (heldL l))) := nice_fs (m := 9) (by decide) (by decide) (fun x hx => by
  obtain ⟨hs, hb⟩ := heldL_mem h.sh x hx
  have a1 := hs.nn
  have a2 := hs.le
  have a3 := hs.pos
  have a4 := h.den
  have e : (2 : Int) ^ 63 = 9223372036854775808 := by decide
  have e2 : (10 : Nat) ^ 40 > 9223372036854775808 := by decide
  omega) (by rw [heldL_len]; exact h.len.2)
theorem eqv_fsT (l m : List Fr) : PyData.eqv (.tuple (fsD l)) (.tuple (fsD m)) = decide (l = m) := eqv_fs l m
theorem ok_law_right (F : FnP K "_law_right" s_law_right f fd) (g1 : mg "range" = none) (g2 : mg "tuple" = none) (g3 : mg "repr" = none) (g4 : mg "len" = none) (g5 : mg "sum" = none) (C1 : CalB P w K mg base T 1 "_law_take" ["bag", "top"] R_law_take) (C2 : CalB P w K mg base T 2 "_law_pull" ["bag", "some"] R_law_pull)
    (C3 : CalB P w K mg base T 2 "_law_told" ["bag"] R_law_told) (C4 : Cal P w K mg base T 2 "_law_held" ["told"] R_law_held) (C5 : Cal P w K mg base T 9 "held" ["told"] R_held) (C6 : CalK P w K mg base T 9 "held" ["told"] ["told"] [0] R_held) (C7 : Cal P w K mg base T 2 "_law_plus" ["one", "two"] R_law_plus)
    (C8 : Cal P w K mg base T 1 "_law_lowest" ["top", "low"] R_law_lowest) (C9 : Cal P w K mg base T 9 "right_chances" ["weights"] R_right_by) (C10 : CalK P w K mg base T 9 "right_chances" ["weights"] ["weights"] [0] R_right_by) : FnG P w K mg base 10 f fd ["bag"] (spB T K R_law_right) := by
  refine FnG.mkB F sc_law_right (fun z as r z' ⟨_, _, h, _⟩ => by rw [h]; rfl) fun B c z as r z' hT hr ⟨b, e1, e2, e3, e4⟩ => ?_
  subst e1 e2 e3 e4
  have h6 := takeM_lt (b := b) (top := 6) (by decide)
  have dr : Drawn (takeM b 6).1.toNat (toldM b).1 := toldN_drawn _ _
  have tl : Told (toldM b).1 := dr.told (by omega)
  have tlen : (toldM b).1.length ≤ 6 := by rw [dr.len]; omega
  have tden := dr.lenLt (by omega)
  obtain ⟨wt, w6⟩ := wtsM_ok (toldM b).2
  have hfin : rightM b = (wtsM (toldM b).2).2 := rfl
  rw [hfin]
  generalize ht : (toldM b).1 = l at *
  generalize hb2 : (toldM b).2 = b2 at *
  have k6 := takeM_lt (b := b2) (top := 6) (by decide)
  refine dss (ds_set 1 sc_law_right.nd (de_fnB (y := .tuple (fsD l)) (z' := bagD b2) 0 C3 hr hT (da_cons (de_n 0 rfl) da_nil) rfl ⟨b, rfl, rfl, by rw [ht], by rw [hb2]⟩) rfl) ?_
  refine dss (ρ1 := [.m true (bagD (wtsM b2).2), .d (.tuple (fsD l)), .d (.tuple (isD (wtsM b2).1)), .un, .un, .un, .un, .un, .un]) (ds_set 2 sc_law_right.nd (de_tupC g2 (DO.fl (ds := isD (wtsM b2).1) (do_lc1 (x := "turn") (ρ2 := [.m true (bagD (wtsM b2).2), .d (.tuple (fsD l)), .un, .un, .un, .un, .un, .un, .un]) 6 (fun _ _ _ _ _ => pg_name sc_law_right.nd rfl (Or.inl rfl)) rfl sc_law_right.nd
      (blkOk_by (N := N_right) (sc := defScope s_law_right) (by decide +kernel)) (di_range g1 (de_add de_int (de_fnB 0 C1 hr hT (da_cons (de_n 0 rfl) (da_cons de_int da_nil)) rfl ⟨b2, 6, by decide, by decide, rfl, rfl, rfl, rfl⟩)) ⟨by omega, by omega⟩)
      (fun j acc ρ' => acc = isD (wtsN j ([], (takeM b2 6).2)).1 ∧ ρ' = [.m true (bagD (wtsN j ([], (takeM b2 6).2)).2), .d (.tuple (fsD l)), .un, .un, .un, .un, .un, .un, .un]) ⟨rfl, rfl⟩ (fun c2 le2 j y acc ρ' ⟨e1, e2⟩ hy => ?_) (fun acc ρ' ⟨e1, e2⟩ => ?_))) .l) rfl) ?_
  · subst e1 e2
    obtain ⟨hj, rfl⟩ := rangeD_get hy
    have hw := wtsN_ok (takeM b2 6).2 j
    generalize hx : wtsN j ([], (takeM b2 6).2) = x at hw
    have hv := pullV_in (takeM x.2 2).1
    have h2 := takeM_lt (b := x.2) (top := 2) (by decide)
    have hT2 : c2.T = T := le2.T.trans hT
    refine ⟨.int (1 + (takeM (takeM x.2 2).2 (pullV (takeM x.2 2).1)).1), _, fun _ _ _ _ _ => de_add de_int (de_fnB 0 C1 hr hT2 (da_cons (de_n 0 rfl) (da_cons (de_fnB (y := .int (pullV (takeM x.2 2).1)) 0 C2 hr hT2 (da_cons (de_n 0 rfl) (da_cons (DO.fl (do_lst (da_cons de_int (da_cons de_int da_nil)) rfl (show 2 ≤ 100000 by decide))) da_nil)) rfl
      ⟨x.2, [.int 4, .int 99], _, by decide, by decide, ?_, rfl, rfl, rfl, rfl⟩) da_nil)) rfl ⟨(takeM x.2 2).2, pullV (takeM x.2 2).1, hv.1, by omega, rfl, rfl, rfl, rfl⟩), ?_, ?_, ?_⟩
    · show [PyData.int 4, PyData.int 99][(takeM x.2 2).1.toNat]? = _
      unfold pullV
      have : (takeM x.2 2).1.toNat = 0 ∨ (takeM x.2 2).1.toNat = 1 := by omega
      rcases this with q | q
      · rw [q]; rfl
      · rw [q]; rfl
    · rw [List.length_map, hw.2]
      omega
    · show isD x.1 ++ [_] = isD (wtsStep (wtsN j ([], (takeM b2 6).2))).1
      rw [hx]
      simp [wtsStep]
    · show _ = [Sl.m true (bagD (wtsStep (wtsN j ([], (takeM b2 6).2))).2), _, _, _, _, _, _, _, _]
      rw [hx]
      rfl
  · subst e1 e2
    rw [rangeD_len]
    exact ⟨rfl, rfl⟩
  generalize hW : (wtsM b2).1 = W at *
  generalize (wtsM b2).2 = b3
  refine dss (ds_par 3 4 rfl sc_law_right.nd (de_fn C4 hr hT (da_cons (de_d 1 rfl) da_nil) ⟨l, tl.sh, tl.den, tl.len.2, rfl, rfl⟩) (de_tup (da_cons de_int (da_cons de_int da_nil)) rfl (show 2 ≤ 100000 by decide)) rfl) ?_
  have n2 := nice_two (held_nice tl)
  refine dss_ifF (DT.is (dt_neS (de_reprN hr g3 (DO.fl (do_lst (da_cons (de_fn C5 hr hT (da_cons (de_d 1 rfl) da_nil) ⟨l, tl, rfl, rfl⟩) (da_cons (de_fnK C6 hr hT (dk_cons (de_d 1 rfl) dk_nil) ⟨l, tl, rfl, rfl⟩) da_nil)) rfl (show 2 ≤ 100000 by decide))) .l n2) (de_reprN hr g3 (DO.fl (do_lst (da_cons (de_d 3 rfl) (da_cons (de_d 3 rfl) da_nil)) rfl (show 2 ≤ 100000 by decide))) .l n2)) (by simp)) ?_
  have pw := fun {i : Nat} (hi : i ≤ l.length) => part_ok tl.sh tl.fst (i := i) hi
  refine dss_cons (fun ρ' => ∃ s5, ρ' = [.m true (bagD b3), .d (.tuple (fsD l)), .d (.tuple (isD W)), .d (.tuple (fsD (heldL l))), .d (frD (1, 1)), s5, .un, .un, .un])
    (ds_for (fun i ρ' => ∃ s5, ρ' = [.m true (bagD b3), .d (.tuple (fsD l)), .d (.tuple (isD W)), .d (.tuple (fsD (heldL l))), .d (frD (((heldL l).take i).foldl plus (0, 1))), s5, .un, .un, .un]) .never rfl (di_tup (de_d 3 rfl)) ⟨_, rfl⟩ (fun c' le i y ρ' ⟨s5, e⟩ hy => ?_) (fun ρ' ⟨s5, e⟩ => ?_)) fun ρ' ⟨s5, e⟩ => ?_
  · subst e
    obtain ⟨x, hx, rfl⟩ := fsD_get hy
    have hi : i < l.length := by rw [← heldL_len]; exact lt_of_get hx
    obtain ⟨s1, s2⟩ := pw (Nat.le_of_lt hi)
    obtain ⟨s3, s4⟩ := heldL_mem tl.sh x (List.mem_of_getElem? hx)
    refine ⟨_, dg_name 5 sc_law_right.nd, ?_⟩
    refine dss_one (ds_set 4 sc_law_right.nd (de_fn C7 hr (le.T.trans hT) (da_cons (de_d 4 rfl) (da_cons (de_d 5 rfl) da_nil)) ⟨_, x, s1, s3, by omega, by omega, rfl, rfl⟩) ?_)
    refine ⟨.d (frD x), ?_⟩
    rw [take_snoc hx, List.foldl_append]
    rfl
  · subst e
    refine ⟨s5, ?_⟩
    rw [show (fsD (heldL l)).length = (heldL l).length from List.length_map .., List.take_length]
    have : (heldL l).foldl plus (0, 1) = (1, 1) := by
      cases l with
      | nil => cases tl.fst
      | cons a r =>
        have e := tl.fst
        simp at e
        subst e
        exact whole_one fun z hz => tl.sh z (List.mem_cons_of_mem _ hz)
    rw [this]
  subst e
  have n11 : Nice 40 1 2 (frD (1, 1)) := nice_fr (by decide) (by decide) (by decide) (by decide)
  refine dss_ifF (DT.is (dt_neD hr.u (de_d 4 rfl) (de_tup (da_cons de_int (da_cons de_int da_nil)) rfl (show 2 ≤ 100000 by decide)) .d .d n11.shaped n11.shaped) (by rw [eqv_self n11]; rfl)) ?_
  have rt := right_told wt w6
  have rsh := rt.sh
  have wlen := wt.len
  refine dss (ρ1 := [.m true (bagD b3), .d (.tuple (fsD l)), .d (.tuple (isD W)), .d (.tuple (fsD (heldL l))), .d (frD (1, 1)), .d (.tuple (fsD (rightF 0 W))), .un, .un, .un]) (ds_set 5 sc_law_right.nd (de_tupC g2 (DO.fl (ds := fsD (rightF 0 W)) (do_lc1 (x := "k") (ρ2 := [.m true (bagD b3), .d (.tuple (fsD l)), .d (.tuple (isD W)), .d (.tuple (fsD (heldL l))), .d (frD (1, 1)), s5, .un, .un, .un]) 7 (fun _ _ _ _ _ => pg_name sc_law_right.nd rfl (Or.inl rfl)) rfl sc_law_right.nd
      (blkOk_by (N := N_right) (sc := defScope s_law_right) (by decide +kernel)) (di_range g1 (de_len g4 (de_d 2 rfl) .dt) ⟨by omega, by rw [List.length_map]; omega⟩)
      (fun j acc ρ' => acc = fsD ((rightF 0 W).take j) ∧ ρ' = [.m true (bagD b3), .d (.tuple (fsD l)), .d (.tuple (isD W)), .d (.tuple (fsD (heldL l))), .d (frD (1, 1)), s5, .un, .un, .un]) ⟨rfl, rfl⟩ (fun c2 le2 j y acc ρ' ⟨e1, e2⟩ hy => ?_) (fun acc ρ' ⟨e1, e2⟩ => ?_))) .l) rfl) ?_
  · subst e1 e2
    obtain ⟨hj, rfl⟩ := rangeD_get hy
    rw [List.length_map] at hj
    have hj' : j < W.length := by omega
    have q : W[j]? = some W[j] := List.getElem?_eq_getElem hj'
    have hx := wt.in_ _ (List.mem_of_getElem? q)
    have hb := sum_bound (l := W.take (j + 1)) fun y hy => wt.in_ y (List.mem_of_mem_take hy)
    have hlen : (W.take (j + 1)).length = j + 1 := by rw [List.length_take]; omega
    refine ⟨frD (low W[j] (0 + (W.take (j + 1)).sum)), _, fun _ _ _ _ _ => de_fn C8 hr (le2.T.trans hT) (da_cons (de_ix (de_d 2 rfl) (de_d 7 rfl) .dt (atN (isD_at q) (by omega))) (da_cons (de_sum rfl g5 (de_slT (de_d 2 rfl) dp_no (dp_so (de_add (de_d 7 rfl) de_int))) (ns := W.take (j + 1)) ?_) da_nil)) ⟨W[j], (W.take (j + 1)).sum, by omega, by omega, ?_, rfl, by rw [Int.zero_add]⟩, ?_, ?_, rfl⟩
    · rw [show (0 : Int) + ((j : Nat) : Int) + 1 = ((j + 1 : Nat) : Int) by omega, cutL_to, List.map_take]
      exact .dt
    · have : (W.take (j + 1)).sum.natAbs < 2 ^ 10 := by omega
      exact Nat.lt_of_lt_of_le this (Nat.pow_le_pow_right (by decide) (by decide))
    · rw [List.length_map, List.length_take, rightF_len]
      omega
    · rw [take_snoc (rightF_at (s := 0) q)]
      simp [fsD]
  · subst e1 e2
    rw [rangeD_len, show ((((isD W).length : Nat) : Int)).toNat = (rightF 0 W).length by rw [rightF_len, List.length_map]; omega, List.take_length]
    exact ⟨rfl, rfl⟩
  have nr2 := nice_two (told_nice rt)
  refine dss_ifF (DT.is (dt_neS (de_reprN hr g3 (DO.fl (do_lst (da_cons (de_fn C9 hr hT (da_cons (de_d 2 rfl) da_nil) ⟨W, wt, rfl, rfl⟩) (da_cons (de_fnK C10 hr hT (dk_cons (de_d 2 rfl) dk_nil) ⟨W, wt, rfl, rfl⟩) da_nil)) rfl (show 2 ≤ 100000 by decide))) .l nr2) (de_reprN hr g3 (DO.fl (do_lst (da_cons (de_d 5 rfl) (da_cons (de_d 5 rfl) da_nil)) rfl (show 2 ≤ 100000 by decide))) .l nr2)) (by simp)) ?_
  have hr1 : heldL (rightF 0 W) = W.map fun x => low x W.sum := by
    rw [held_right (by decide) fun x hx => (wt.in_ x hx).1]
    simp
  have hsW := sum_bound wt.in_
  refine dss_ifF (DT.is (dt_neD (y := .tuple (fsD (heldL (rightF 0 W)))) (z := .tuple (fsD (heldL (rightF 0 W)))) hr.u (de_fn C5 hr hT (da_cons (de_d 5 rfl) da_nil) ⟨rightF 0 W, rt, rfl, rfl⟩) (de_tupC g2 (DO.fl (ds := fsD (heldL (rightF 0 W))) (do_lc1 (x := "weight") (ρ2 := [.m true (bagD b3), .d (.tuple (fsD l)), .d (.tuple (isD W)), .d (.tuple (fsD (heldL l))), .d (frD (1, 1)), .d (.tuple (fsD (rightF 0 W))), .un, .un, .un]) 8 (fun _ _ _ _ _ => pg_name sc_law_right.nd rfl (Or.inl rfl)) rfl sc_law_right.nd
      (blkOk_by (N := N_right) (sc := defScope s_law_right) (by decide +kernel)) (di_tup (de_d 2 rfl))
      (fun j acc ρ' => acc = fsD ((W.map fun x => low x W.sum).take j) ∧ ρ' = [.m true (bagD b3), .d (.tuple (fsD l)), .d (.tuple (isD W)), .d (.tuple (fsD (heldL l))), .d (frD (1, 1)), .d (.tuple (fsD (rightF 0 W))), .un, .un, .un]) ⟨rfl, rfl⟩ (fun c2 le2 j y acc ρ' ⟨e1, e2⟩ hy => ?_) (fun acc ρ' ⟨e1, e2⟩ => ?_))) .l) .d .d (held_nice rt).shaped (held_nice rt).shaped) (by rw [eqv_self (held_nice rt)]; rfl)) ?_
  · subst e1 e2
    obtain ⟨x, q, rfl⟩ := isD_get hy
    have hx := wt.in_ x (List.mem_of_getElem? q)
    refine ⟨frD (low x W.sum), _, fun _ _ _ _ _ => de_fn C8 hr (le2.T.trans hT) (da_cons (de_d 8 rfl) (da_cons (de_sum rfl g5 (de_d 2 rfl) (ns := W) .dt) da_nil)) ⟨x, W.sum, by omega, by omega, ?_, rfl, rfl⟩, ?_, ?_, rfl⟩
    · have : W.sum.natAbs < 2 ^ 10 := by omega
      exact Nat.lt_of_lt_of_le this (Nat.pow_le_pow_right (by decide) (by decide))
    · rw [List.length_map, List.length_take, List.length_map]
      omega
    · rw [take_snoc (show (W.map fun x => low x W.sum)[j]? = some (low x W.sum) by rw [List.getElem?_map, q]; rfl)]
      simp [fsD]
  · subst e1 e2
    rw [hr1, show (isD W).length = (W.map fun x => low x W.sum).length by rw [List.length_map, List.length_map], List.take_length]
    exact ⟨rfl, rfl⟩
  refine dss_ifF (DT.is (dt_gt (de_len g4 (de_d 1 rfl) .dt) de_int) (decide_eq_false (by rw [List.length_map]; omega))) ?_
  have to1 : Told (l ++ [(1, 1)]) := tl.snoc (by omega) ⟨by decide, by decide, by decide, by decide⟩ rfl
  have to0 : Told (l ++ [(0, 1)]) := tl.snoc (by omega) ⟨by decide, by decide, by decide, by decide⟩ rfl
  have e1 : fsD l ++ [frD (1, 1)] = fsD (l ++ [(1, 1)]) := by simp [fsD]
  have e0 : fsD l ++ [frD (0, 1)] = fsD (l ++ [(0, 1)]) := by simp [fsD]
  refine dss_ifF (DT.is (dt_not (dt_eqD (y := .tuple (fsD (heldL (l ++ [(1, 1)])))) (z := .tuple (fsD (heldL (l ++ [(1, 1)])))) hr.u (de_fn C5 hr hT (da_cons (DE.is (de_catT (de_d 1 rfl) (de_tup (da_cons (de_tup (da_cons de_int (da_cons de_int da_nil)) rfl (show 2 ≤ 100000 by decide)) da_nil) rfl (show 1 ≤ 100000 by decide)) ?_) (congrArg (fun z => Wk.d (.tuple z)) e1)) da_nil) ⟨l ++ [(1, 1)], to1, rfl, rfl⟩)
    (DE.is (de_catT (de_repT (de_tup (da_cons (de_tup (da_cons de_int (da_cons de_int da_nil)) rfl (show 2 ≤ 100000 by decide)) da_nil) rfl (show 1 ≤ 100000 by decide)) (de_len g4 (de_d 1 rfl) .dt) (by simp) ?_ ?_ (by decide)) (de_tup (da_cons (de_tup (da_cons de_int (da_cons de_int da_nil)) rfl (show 2 ≤ 100000 by decide)) da_nil) rfl (show 1 ≤ 100000 by decide)) ?_) ?_) .d .d (held_nice to1).shaped (held_nice to1).shaped)) (by rw [eqv_self (held_nice to1)]; rfl)) ?_
  · rw [List.length_map]
    show _ + 1 ≤ _
    omega
  · rw [List.length_map]; omega
  · rw [List.length_map]; omega
  · rw [List.length_map, Int.toNat_natCast, rep_fs (0, 1) l, List.length_map, List.length_map]
    show _ + 1 ≤ _
    omega
  · rw [List.length_map, Int.toNat_natCast]
    show Wk.d (.tuple ((List.replicate l.length [frD (0, 1)]).flatten ++ [frD (1, 1)])) = _
    rw [rep_fs (0, 1) l, heldL_one tl.sh]
    simp [fsD]
  refine dss_one (ds_ret (y := .bool true) (DE.is (de_eqD (y := .tuple (fsD (heldL (l ++ [(0, 1)])))) (z := .tuple (fsD (heldL (l ++ [(0, 1)])))) hr.u (de_fn C5 hr hT (da_cons (DE.is (de_catT (de_d 1 rfl) (de_tup (da_cons (de_tup (da_cons de_int (da_cons de_int da_nil)) rfl (show 2 ≤ 100000 by decide)) da_nil) rfl (show 1 ≤ 100000 by decide)) ?_) (congrArg (fun z => Wk.d (.tuple z)) e0)) da_nil) ⟨l ++ [(0, 1)], to0, rfl, rfl⟩)
    (DE.is (de_catT (de_d 3 rfl) (de_tup (da_cons (de_tup (da_cons de_int (da_cons de_int da_nil)) rfl (show 2 ≤ 100000 by decide)) da_nil) rfl (show 1 ≤ 100000 by decide)) ?_) ?_) .d .d (held_nice to0).shaped (held_nice to0).shaped) (by rw [eqv_self (held_nice to0)])) ⟨rfl, rfl⟩)
  · rw [List.length_map]
    show _ + 1 ≤ _
    omega
  · rw [List.length_map, heldL_len]
    show _ + 1 ≤ _
    omega
  · rw [heldL_zero tl.sh]
    show Wk.d (.tuple (fsD (heldL l) ++ [frD (0, 1)])) = _
    simp [fsD]
end
end K63
set_option Elab.async false
set_option linter.all false
set_option maxRecDepth 100000
set_option maxHeartbeats 4000000
namespace K63
open PySem PySem.Spec L2 DL
section
variable {P : Program} {w : World} {K : PySem.W.Frag} {mg : Str → Option Value} {base : Heap} {T : List (Addr × Str)} {f fO fC : Addr} {fd fdC : FuncData}
def rightN : Nat → Bag → Bag
  | 0, b => b
  | k + 1, b => rightM (rightN k b)
def R_law : List Ar → Re → Prop := fun as r => ∃ ns : List Int, ns.length ≤ 63 ∧ as = [.d (.list (isD ns))] ∧ r = .d (.bool true)
theorem ok_law (F : FnP K "law" s_law f fd) (g1 : mg "range" = none) (g2 : mg "max" = none) (g3 : mg "min" = none) (g4 : mg "len" = none) (g5 : mg "all" = none) (C1 : Cal P w K mg base T 1 "_law_bag" ["script", "lap"] R_law_bag) (C2 : CalB P w K mg base T 10 "_law_right" ["bag"] R_law_right) : FnG P w K mg base 11 f fd ["script"] (spF T K R_law) := by
  refine FnG.mkF F sc_law (fun as r ⟨_, _, h, _⟩ => by rw [h]; rfl) fun B c as r hT hr ⟨ns, hn, h1, h2⟩ => ?_
  subst h1 h2
  refine dss_cons (fun _ => True) (ds_for (fun i ρ' => ∃ s1 s2, ρ' = [.d (.list (isD ns)), s1, s2, .un]) .never rfl
    (di_range g1 (de_max2 rfl g2 de_int (de_min2 rfl g3 (de_len g4 (de_d 0 rfl) .dl) de_int)) ⟨by omega, by omega⟩) ⟨_, _, rfl⟩ (fun c' le i y ρ' ⟨s1, s2, e⟩ hy => ?_) (fun ρ' _ => trivial)) fun ρ' _ => dss_one (ds_ret de_bl rfl)
  subst e
  obtain ⟨hi, rfl⟩ := rangeD_get hy
  have hi3 : i < 10 := by
    rw [List.length_map] at hi
    omega
  have hT' : c'.T = T := le.T.trans hT
  rw [Int.zero_add]
  refine ⟨_, dg_name 1 sc_law.nd, ?_⟩
  refine dss (ds_setO 2 sc_law.nd (do_fn C1 hr hT' (da_cons (de_d 0 rfl) (da_cons (de_d 1 rfl) da_nil)) ⟨ns, i, hi3, rfl, rfl⟩) rfl) ?_
  refine dss_ifF (ρ1 := [.d (.list (isD ns)), .d (.int (i : Nat)), .m false (bagD (rightN 15 (bagM ns i))), .un]) (DT.is (dt_not (dt_of (de_all (bs := List.replicate 15 true) rfl g5 (DO.fl (ds := (List.replicate 15 true).map PyData.bool) (do_lc1 (x := "turn") (ρ2 := [.d (.list (isD ns)), .d (.int (i : Nat)), .m false (bagD (rightN 15 (bagM ns i))), .un]) 3 (fun _ _ _ _ _ => pg_name sc_law.nd rfl (Or.inl rfl)) rfl sc_law.nd
      (blkOk_by (N := ["script", "lap", "bag", "turn"]) (sc := defScope s_law) (by decide +kernel)) (di_range g1 de_int ⟨by decide, by decide⟩)
      (fun j acc ρ' => acc = (List.replicate j true).map PyData.bool ∧ ρ' = [.d (.list (isD ns)), .d (.int (i : Nat)), .m false (bagD (rightN j (bagM ns i))), .un]) ⟨rfl, rfl⟩ (fun c2 le2 j y acc ρ' ⟨e1, e2⟩ hy => ?_) (fun acc ρ' ⟨e1, e2⟩ => ?_))) .l))) rfl) (dss_nil ⟨_, _, rfl⟩)
  · subst e1 e2
    obtain ⟨hj, rfl⟩ := rangeD_get hy
    refine ⟨.bool true, _, fun _ _ _ _ _ => de_fnB 2 C2 hr (le2.T.trans hT') (da_cons (de_n 2 rfl) da_nil) rfl ⟨rightN j (bagM ns i), rfl, rfl, rfl, rfl⟩, ?_, ?_, rfl⟩
    · rw [List.length_map, List.length_replicate]
      have : (15 : Int).toNat = 15 := rfl
      omega
    · rw [List.replicate_succ', List.map_append]
      rfl
  · subst e1 e2
    rw [rangeD_len, show (15 : Int).toNat = 15 from rfl]
    exact ⟨rfl, rfl⟩
end
end K63
set_option Elab.async false
set_option linter.all false
set_option maxRecDepth 100000
set_option maxHeartbeats 0
namespace K63
open PySem PySem.Spec PyProof.Rows L2 DL
/-! the head -/
abbrev dd (x : Str) (st : Stmt) : He.DefD := ⟨(x, none), x, x, defArgs st, defBody st, defScope st, [], []⟩
def fns : List He.DefD := [dd "is_whole" s_is_whole, ⟨("is_number", none), "is_number", "is_number", defArgs s_is_number, defBody s_is_number, defScope s_is_number, [.int 0, .non], []⟩, dd "is_between" s_is_between, dd "is_tuple_of" s_is_tuple_of, dd "is_row" s_is_row, dd "first_wrong" s_first_wrong, dd "lowest" s_lowest,
  dd "is_fraction" s_is_fraction, dd "is_share" s_is_share, dd "less_by" s_less_by, dd "times" s_times, dd "held_by" s_held_by, dd "right_by" s_right_by, dd "is_coming" s_is_coming, dd "wrong_told" s_wrong_told, dd "check_told" s_check_told, dd "wrong_weight" s_wrong_weight,
  dd "check_weights" s_check_weights, dd "held" s_held, dd "right_chances" s_right_chances, dd "_law_bag" s_law_bag, dd "_law_take" s_law_take, dd "_law_pull" s_law_pull, dd "_law_lowest" s_law_lowest, dd "_law_plus" s_law_plus, dd "_law_held" s_law_held, dd "_law_told" s_law_told, dd "_law_right" s_law_right, dd "law" s_law]
def glos : List Str := (["is_whole", "is_number", "is_between", "is_tuple_of", "is_row", "first_wrong", "lowest", "is_fraction", "is_share", "less_by", "times", "held_by", "right_by", "is_coming", "wrong_told"] : List Str) ++ (["check_told", "wrong_weight", "check_weights", "held", "right_chances", "_law_bag", "_law_take", "_law_pull", "_law_lowest", "_law_plus", "_law_held", "_law_told", "_law_right", "law"] : List Str)
def frees : List Str := ["isinstance", "int", "bool", "tuple", "len", "enumerate", "sum", "range", "repr", "divmod", "abs", "max", "min", "all"]
def fas : List He.Fa := glos.map He.Fa.glo ++ frees.map He.Fa.free ++ [.int "MOST_HELD" 9, .int "MOST_WEIGHT" 99]
def exs (K : PySem.W.Frag) : Bool := He.eqO (PySem.W.nsIn K mainGlobals "gcd") (some (some (.builtin "math.gcd"))) && (He.eqO (PySem.W.nsIn K mainGlobals "ONE") (some (some (.ref (He.ga K "ONE")))) && He.tupB K "ONE" [.int 1, .int 1])
abbrev Rw : PySem.W.OpenRow := PySem.W.OpenLaw.row PySem.Challenge.rw_tossplans_k63_whole_held_things
abbrev tfs : List He.Defn := [("wrong_weight", none)]
abbrev hk : PySem.W.Hook := He.hookX 4 fas fns [] tfs exs
def ob (s : PySem.W.SharedT) : He.AlX := He.obsX 4 fas fns [] tfs exs (HandSHeadRun.getT s)
theorem ob_eq (s : PySem.W.SharedT) : ob s = hk.obs s.abs := He.obsX_eq (HandSHeadRun.getT_eq s)
def loose : List Str := (["gcd", "TossError", "InvalidWeights", "is_whole", "is_number", "is_between", "is_tuple_of", "is_row", "first_wrong", "ONE", "lowest", "is_fraction", "is_share", "less_by", "times"] : List Str) ++ (["MOST_HELD", "MOST_WEIGHT", "held_by", "right_by", "is_coming", "wrong_told", "check_told", "wrong_weight", "check_weights", "held", "right_chances", "_law_bag", "_law_take", "_law_pull", "_law_lowest"] : List Str) ++ (["_law_plus", "_law_held", "_law_told", "_law_right"] : List Str)
theorem run (w : World) : DLH.RunI Rw (PySem.W.view Rw.prog [38]) hk ob 6000 3000 loose w := by
  unfold DLH.RunI
  kernel_rfl
end K63
set_option Elab.async false
set_option linter.all false
set_option maxRecDepth 100000
set_option maxHeartbeats 4000000
namespace K63
open PySem PySem.Spec PyProof.Rows L2 DL
theorem facts {l : PySem.W.OpenLaw} {w : World} {K : PySem.W.Frag} {h : Heap} {mg : Str → Option Value} {fa : Addr} (X : K.In h) (G : h.Ns mainGlobals mg) (hfa : mg ("law" : Str) = some (.ref fa)) (c : He.SaysX fas fns [] tfs exs w h K) : LawG l w K 11 63 "script" mg fa h := by
  have d := c.t.d
  obtain ⟨fdis_whole, Fis_whole⟩ := d.def_ 0 (d := dd "is_whole" s_is_whole) rfl
  have Gis_whole : mg "is_whole" = some (.ref (He.ga K "is_whole")) := He.glo_ok X G (d.fact 0 (f := .glo "is_whole") rfl)
  obtain ⟨fdis_number, Fis_number⟩ := d.def_ 1 (d := ⟨("is_number", none), "is_number", "is_number", defArgs s_is_number, defBody s_is_number, defScope s_is_number, [.int 0, .non], []⟩) rfl
  have Gis_number : mg "is_number" = some (.ref (He.ga K "is_number")) := He.glo_ok X G (d.fact 1 (f := .glo "is_number") rfl)
  obtain ⟨fdis_between, Fis_between⟩ := d.def_ 2 (d := dd "is_between" s_is_between) rfl
  have Gis_between : mg "is_between" = some (.ref (He.ga K "is_between")) := He.glo_ok X G (d.fact 2 (f := .glo "is_between") rfl)
  obtain ⟨fdis_tuple_of, Fis_tuple_of⟩ := d.def_ 3 (d := dd "is_tuple_of" s_is_tuple_of) rfl
  have Gis_tuple_of : mg "is_tuple_of" = some (.ref (He.ga K "is_tuple_of")) := He.glo_ok X G (d.fact 3 (f := .glo "is_tuple_of") rfl)
  obtain ⟨fdis_row, Fis_row⟩ := d.def_ 4 (d := dd "is_row" s_is_row) rfl
  have Gis_row : mg "is_row" = some (.ref (He.ga K "is_row")) := He.glo_ok X G (d.fact 4 (f := .glo "is_row") rfl)
  obtain ⟨fdfirst_wrong, Ffirst_wrong⟩ := d.def_ 5 (d := dd "first_wrong" s_first_wrong) rfl
  have Gfirst_wrong : mg "first_wrong" = some (.ref (He.ga K "first_wrong")) := He.glo_ok X G (d.fact 5 (f := .glo "first_wrong") rfl)
  obtain ⟨fdlowest, Flowest⟩ := d.def_ 6 (d := dd "lowest" s_lowest) rfl
  have Glowest : mg "lowest" = some (.ref (He.ga K "lowest")) := He.glo_ok X G (d.fact 6 (f := .glo "lowest") rfl)
  obtain ⟨fdis_fraction, Fis_fraction⟩ := d.def_ 7 (d := dd "is_fraction" s_is_fraction) rfl
  have Gis_fraction : mg "is_fraction" = some (.ref (He.ga K "is_fraction")) := He.glo_ok X G (d.fact 7 (f := .glo "is_fraction") rfl)
  obtain ⟨fdis_share, Fis_share⟩ := d.def_ 8 (d := dd "is_share" s_is_share) rfl
  have Gis_share : mg "is_share" = some (.ref (He.ga K "is_share")) := He.glo_ok X G (d.fact 8 (f := .glo "is_share") rfl)
  obtain ⟨fdless_by, Fless_by⟩ := d.def_ 9 (d := dd "less_by" s_less_by) rfl
  have Gless_by : mg "less_by" = some (.ref (He.ga K "less_by")) := He.glo_ok X G (d.fact 9 (f := .glo "less_by") rfl)
  obtain ⟨fdtimes, Ftimes⟩ := d.def_ 10 (d := dd "times" s_times) rfl
  have Gtimes : mg "times" = some (.ref (He.ga K "times")) := He.glo_ok X G (d.fact 10 (f := .glo "times") rfl)
  obtain ⟨fdheld_by, Fheld_by⟩ := d.def_ 11 (d := dd "held_by" s_held_by) rfl
  have Gheld_by : mg "held_by" = some (.ref (He.ga K "held_by")) := He.glo_ok X G (d.fact 11 (f := .glo "held_by") rfl)
  obtain ⟨fdright_by, Fright_by⟩ := d.def_ 12 (d := dd "right_by" s_right_by) rfl
  have Gright_by : mg "right_by" = some (.ref (He.ga K "right_by")) := He.glo_ok X G (d.fact 12 (f := .glo "right_by") rfl)
  obtain ⟨fdis_coming, Fis_coming⟩ := d.def_ 13 (d := dd "is_coming" s_is_coming) rfl
  have Gis_coming : mg "is_coming" = some (.ref (He.ga K "is_coming")) := He.glo_ok X G (d.fact 13 (f := .glo "is_coming") rfl)
  obtain ⟨fdwrong_told, Fwrong_told⟩ := d.def_ 14 (d := dd "wrong_told" s_wrong_told) rfl
  have Gwrong_told : mg "wrong_told" = some (.ref (He.ga K "wrong_told")) := He.glo_ok X G (d.fact 14 (f := .glo "wrong_told") rfl)
  obtain ⟨fdcheck_told, Fcheck_told⟩ := d.def_ 15 (d := dd "check_told" s_check_told) rfl
  have Gcheck_told : mg "check_told" = some (.ref (He.ga K "check_told")) := He.glo_ok X G (d.fact 15 (f := .glo "check_told") rfl)
  obtain ⟨fdwrong_weight, Fwrong_weight⟩ := d.def_ 16 (d := dd "wrong_weight" s_wrong_weight) rfl
  have Gwrong_weight : mg "wrong_weight" = some (.ref (He.ga K "wrong_weight")) := He.glo_ok X G (d.fact 16 (f := .glo "wrong_weight") rfl)
  obtain ⟨fdcheck_weights, Fcheck_weights⟩ := d.def_ 17 (d := dd "check_weights" s_check_weights) rfl
  have Gcheck_weights : mg "check_weights" = some (.ref (He.ga K "check_weights")) := He.glo_ok X G (d.fact 17 (f := .glo "check_weights") rfl)
  obtain ⟨fdheld, Fheld⟩ := d.def_ 18 (d := dd "held" s_held) rfl
  have Gheld : mg "held" = some (.ref (He.ga K "held")) := He.glo_ok X G (d.fact 18 (f := .glo "held") rfl)
  obtain ⟨fdright_chances, Fright_chances⟩ := d.def_ 19 (d := dd "right_chances" s_right_chances) rfl
  have Gright_chances : mg "right_chances" = some (.ref (He.ga K "right_chances")) := He.glo_ok X G (d.fact 19 (f := .glo "right_chances") rfl)
  obtain ⟨fd_law_bag, F_law_bag⟩ := d.def_ 20 (d := dd "_law_bag" s_law_bag) rfl
  have G_law_bag : mg "_law_bag" = some (.ref (He.ga K "_law_bag")) := He.glo_ok X G (d.fact 20 (f := .glo "_law_bag") rfl)
  obtain ⟨fd_law_take, F_law_take⟩ := d.def_ 21 (d := dd "_law_take" s_law_take) rfl
  have G_law_take : mg "_law_take" = some (.ref (He.ga K "_law_take")) := He.glo_ok X G (d.fact 21 (f := .glo "_law_take") rfl)
  obtain ⟨fd_law_pull, F_law_pull⟩ := d.def_ 22 (d := dd "_law_pull" s_law_pull) rfl
  have G_law_pull : mg "_law_pull" = some (.ref (He.ga K "_law_pull")) := He.glo_ok X G (d.fact 22 (f := .glo "_law_pull") rfl)
  obtain ⟨fd_law_lowest, F_law_lowest⟩ := d.def_ 23 (d := dd "_law_lowest" s_law_lowest) rfl
  have G_law_lowest : mg "_law_lowest" = some (.ref (He.ga K "_law_lowest")) := He.glo_ok X G (d.fact 23 (f := .glo "_law_lowest") rfl)
  obtain ⟨fd_law_plus, F_law_plus⟩ := d.def_ 24 (d := dd "_law_plus" s_law_plus) rfl
  have G_law_plus : mg "_law_plus" = some (.ref (He.ga K "_law_plus")) := He.glo_ok X G (d.fact 24 (f := .glo "_law_plus") rfl)
  obtain ⟨fd_law_held, F_law_held⟩ := d.def_ 25 (d := dd "_law_held" s_law_held) rfl
  have G_law_held : mg "_law_held" = some (.ref (He.ga K "_law_held")) := He.glo_ok X G (d.fact 25 (f := .glo "_law_held") rfl)
  obtain ⟨fd_law_told, F_law_told⟩ := d.def_ 26 (d := dd "_law_told" s_law_told) rfl
  have G_law_told : mg "_law_told" = some (.ref (He.ga K "_law_told")) := He.glo_ok X G (d.fact 26 (f := .glo "_law_told") rfl)
  obtain ⟨fd_law_right, F_law_right⟩ := d.def_ 27 (d := dd "_law_right" s_law_right) rfl
  have G_law_right : mg "_law_right" = some (.ref (He.ga K "_law_right")) := He.glo_ok X G (d.fact 27 (f := .glo "_law_right") rfl)
  obtain ⟨fdlaw, Flaw⟩ := d.def_ 28 (d := dd "law" s_law) rfl
  have Glaw : mg "law" = some (.ref (He.ga K "law")) := He.glo_ok X G (d.fact 28 (f := .glo "law") rfl)
  have Nisinstance : mg "isinstance" = none := He.free_ok X G (d.fact 29 (f := .free "isinstance") rfl)
  have Nint : mg "int" = none := He.free_ok X G (d.fact 30 (f := .free "int") rfl)
  have Nbool : mg "bool" = none := He.free_ok X G (d.fact 31 (f := .free "bool") rfl)
  have Ntuple : mg "tuple" = none := He.free_ok X G (d.fact 32 (f := .free "tuple") rfl)
  have Nlen : mg "len" = none := He.free_ok X G (d.fact 33 (f := .free "len") rfl)
  have Nenumerate : mg "enumerate" = none := He.free_ok X G (d.fact 34 (f := .free "enumerate") rfl)
  have Nsum : mg "sum" = none := He.free_ok X G (d.fact 35 (f := .free "sum") rfl)
  have Nrange : mg "range" = none := He.free_ok X G (d.fact 36 (f := .free "range") rfl)
  have Nrepr : mg "repr" = none := He.free_ok X G (d.fact 37 (f := .free "repr") rfl)
  have Ndivmod : mg "divmod" = none := He.free_ok X G (d.fact 38 (f := .free "divmod") rfl)
  have Nabs : mg "abs" = none := He.free_ok X G (d.fact 39 (f := .free "abs") rfl)
  have Nmax : mg "max" = none := He.free_ok X G (d.fact 40 (f := .free "max") rfl)
  have Nmin : mg "min" = none := He.free_ok X G (d.fact 41 (f := .free "min") rfl)
  have Nall : mg "all" = none := He.free_ok X G (d.fact 42 (f := .free "all") rfl)
  obtain ⟨t9, M9⟩ := He.int_ok X G (d.fact 43 (f := .int "MOST_HELD" 9) rfl)
  obtain ⟨t99, M99⟩ := He.int_ok X G (d.fact 44 (f := .int "MOST_WEIGHT" 99) rfl)
  obtain ⟨x1, x2⟩ := He.ba c.more
  obtain ⟨x2, x3⟩ := He.ba x2
  have Ggcd : mg "gcd" = some (.builtin "math.gcd") := PySem.W.mg_of X G (He.eqO_ok x1)
  have GONE : mg "ONE" = some (.ref (He.ga K "ONE")) := PySem.W.mg_of X G (He.eqO_ok x2)
  have RONE : ∀ I, Rp K I (.ref (He.ga K "ONE")) (frD (1, 1)) := fun I => .tup (He.tupB_ok x3 I) (.cons (.int 1) (.cons (.int 1) .nil))
  have e := hfa.symm.trans Glaw
  cases e
  have hcd : fdwrong_weight.code = .ref (He.cT K ("wrong_weight", none)).1 := by
    obtain ⟨oc, od, dV, kV, doc, pm, an, cdv, ct, osl, rfl, lk, hci, _⟩ := Fwrong_weight.ex
    obtain ⟨cc, ec⟩ := He.codeIn_ref hci
    have := He.codeOf_eq (p := ("wrong_weight", none)) lk (c := cc) ec
    show _ = Value.ref (He.codeOf K ("wrong_weight", none))
    rw [this, ← ec]
  refine ⟨fdlaw, tfs.map (He.cT K), [((He.cT K ("wrong_weight", none)).2, qLam)], R_law, fun p hp => ?_, fun p hp => ?_, fun p hp => ?_, fun p hp => ?_, fun s u => ?_, fun ns hn _ => ⟨ns, hn, rfl, rfl⟩, fun base inB nsB tb => ?_⟩
  · obtain ⟨q, hq, rfl⟩ := List.mem_map.mp hp
    exact c.empty q hq
  · obtain ⟨q, hq, rfl⟩ := List.mem_map.mp hp
    exact c.out q hq
  · obtain ⟨q, hq, rfl⟩ := List.mem_map.mp hp
    exact PySem.W.codeHd_of_K X (c.hd q hq)
  · rcases List.mem_cons.mp hp with rfl | hp
    · exact ⟨_, List.mem_cons_self .., rfl⟩
    · cases hp
  · exact FunD.bindsA (ps := ["script"]) Flaw (fun _ _ _ _ _ _ us hl => match us, hl with | [_], _ => rfl) s [u] rfl
  generalize hTt : ([((He.cT K ("wrong_weight", none)).2, qLam)] : List (Addr × Str)) = T
  have Cis_whole := Cal.of (w := w) (P := l.prog) (base := base) (T := T) Fis_whole Gis_whole (ok_is_whole Fis_whole Nisinstance Nint Nbool) fun _ _ _ _ _ _ us hl => match us, hl with | [_], _ => rfl
  have Cis_number : CalD l.prog w K mg base T 2 "is_number" ["value", "low", "high"] [.d .none] R_is_number := by
    obtain ⟨ds, v, b⟩ := FunD.binds1 (ps := ["value", "low", "high"]) Fis_number 2 1 (List.cons_ne_nil _ _) rfl fun TT kV doc pm an cdv ct us its h1 h2 => match us, h1, its, h2 with | [_, _], _, [_, _], _ => ⟨_, rfl, rfl⟩
    exact ⟨_, _, _, _, ok_is_number Fis_number Cis_whole, Gis_number, Fis_number.kp, b, v, fun O H => .cons Rp.non .nil⟩
  have Cis_between := Cal.of (w := w) (P := l.prog) (base := base) (T := T) Fis_between Gis_between (ok_is_between Fis_between Cis_whole) fun _ _ _ _ _ _ us hl => match us, hl with | [_, _, _], _ => rfl
  have Cis_tuple_of := Cal.of (w := w) (P := l.prog) (base := base) (T := T) Fis_tuple_of Gis_tuple_of (ok_is_tuple_of Fis_tuple_of Nisinstance Ntuple Nlen) fun _ _ _ _ _ _ us hl => match us, hl with | [_, _], _ => rfl
  have Cis_row := Cal.of (w := w) (P := l.prog) (base := base) (T := T) Fis_row Gis_row (ok_is_row Fis_row Nisinstance Ntuple Nlen) fun _ _ _ _ _ _ us hl => match us, hl with | [_, _, _], _ => rfl
  have Clowest := Cal.of (w := w) (P := l.prog) (base := base) (T := T) Flowest Glowest (ok_lowest Flowest Ggcd) fun _ _ _ _ _ _ us hl => match us, hl with | [_, _], _ => rfl
  have Cis_fraction := Cal.of (w := w) (P := l.prog) (base := base) (T := T) Fis_fraction Gis_fraction (ok_is_fraction Fis_fraction Ggcd Cis_whole Cis_tuple_of Cis_number) fun _ _ _ _ _ _ us hl => match us, hl with | [_], _ => rfl
  have Cis_share := Cal.of (w := w) (P := l.prog) (base := base) (T := T) Fis_share Gis_share (ok_is_share Fis_share Cis_fraction) fun _ _ _ _ _ _ us hl => match us, hl with | [_], _ => rfl
  have Cless_by := Cal.of (w := w) (P := l.prog) (base := base) (T := T) Fless_by Gless_by (ok_less_by Fless_by Clowest) fun _ _ _ _ _ _ us hl => match us, hl with | [_, _], _ => rfl
  have Ctimes := Cal.of (w := w) (P := l.prog) (base := base) (T := T) Ftimes Gtimes (ok_times Ftimes Clowest) fun _ _ _ _ _ _ us hl => match us, hl with | [_, _], _ => rfl
  have Cheld_by := Cal.of (w := w) (P := l.prog) (base := base) (T := T) Fheld_by Gheld_by (ok_held_by Fheld_by Nenumerate Ntuple GONE RONE Cless_by Ctimes) fun _ _ _ _ _ _ us hl => match us, hl with | [_], _ => rfl
  have Cright_by := Cal.of (w := w) (P := l.prog) (base := base) (T := T) Fright_by Gright_by (ok_right_by Fright_by Nenumerate Ntuple Nsum Clowest) fun _ _ _ _ _ _ us hl => match us, hl with | [_], _ => rfl
  have Cfirst_told := Cal.of (w := w) (P := l.prog) (base := base) (T := T) Ffirst_wrong Gfirst_wrong (ok_first_told Ffirst_wrong Nenumerate Fis_coming (ok_is_coming Fis_coming GONE RONE Cis_share)) fun _ _ _ _ _ _ us hl => match us, hl with | [_, _], _ => rfl
  have Cwrong_told := Cal.of (w := w) (P := l.prog) (base := base) (T := T) Fwrong_told Gwrong_told (ok_wrong_told Fwrong_told Gis_coming Cfirst_told) fun _ _ _ _ _ _ us hl => match us, hl with | [_], _ => rfl
  have Ccheck_told := Cal.of (w := w) (P := l.prog) (base := base) (T := T) Fcheck_told Gcheck_told (ok_check_told Fcheck_told M9 Cwrong_told Cis_row) fun _ _ _ _ _ _ us hl => match us, hl with | [_], _ => rfl
  have Cwrong_weight := Cal.of (w := w) (P := l.prog) (base := base) (T := T) Fwrong_weight Gwrong_weight (ok_wrong_weight Fwrong_weight Ffirst_wrong Gfirst_wrong Nenumerate M99 Cis_between (tb _ (List.mem_cons_self ..)) hcd (by rw [← hTt]; exact List.mem_cons_self ..) (fun p hp _ => by rw [← hTt] at hp; rcases List.mem_cons.mp hp with rfl | hp; rfl; cases hp)) fun _ _ _ _ _ _ us hl => match us, hl with | [_], _ => rfl
  have Ccheck_weights := Cal.of (w := w) (P := l.prog) (base := base) (T := T) Fcheck_weights Gcheck_weights (ok_check_weights Fcheck_weights M9 Cwrong_weight Cis_row) fun _ _ _ _ _ _ us hl => match us, hl with | [_], _ => rfl
  have Cheld := Cal.of (w := w) (P := l.prog) (base := base) (T := T) Fheld Gheld (ok_held Fheld Ccheck_told Cheld_by) fun _ _ _ _ _ _ us hl => match us, hl with | [_], _ => rfl
  have Cright_chances := Cal.of (w := w) (P := l.prog) (base := base) (T := T) Fright_chances Gright_chances (ok_right_chances Fright_chances Ccheck_weights Cright_by) fun _ _ _ _ _ _ us hl => match us, hl with | [_], _ => rfl
  have Kheld := CalK.of (w := w) (P := l.prog) (base := base) (T := T) (ks := ["told"]) (is := [0]) Fheld Gheld (ok_held Fheld Ccheck_told Cheld_by) fun _ _ _ _ _ _ us hl => match us, hl with | [_], _ => rfl
  have Kright := CalK.of (w := w) (P := l.prog) (base := base) (T := T) (ks := ["weights"]) (is := [0]) Fright_chances Gright_chances (ok_right_chances Fright_chances Ccheck_weights Cright_by) fun _ _ _ _ _ _ us hl => match us, hl with | [_], _ => rfl
  have C_law_bag := Cal.of (w := w) (P := l.prog) (base := base) (T := T) F_law_bag G_law_bag (ok_law_bag F_law_bag Nint Nlen Nabs) fun _ _ _ _ _ _ us hl => match us, hl with | [_, _], _ => rfl
  have C_law_take := CalB.of (w := w) (P := l.prog) (base := base) (T := T) F_law_take G_law_take (ok_law_take F_law_take Ndivmod Nint) fun _ _ _ _ _ _ us hl => match us, hl with | [_, _], _ => rfl
  have C_law_pull := CalB.of (w := w) (P := l.prog) (base := base) (T := T) F_law_pull G_law_pull (ok_law_pull F_law_pull Nlen C_law_take) fun _ _ _ _ _ _ us hl => match us, hl with | [_, _], _ => rfl
  have C_law_lowest := Cal.of (w := w) (P := l.prog) (base := base) (T := T) F_law_lowest G_law_lowest (ok_law_lowest F_law_lowest Nint) fun _ _ _ _ _ _ us hl => match us, hl with | [_, _], _ => rfl
  have C_law_plus := Cal.of (w := w) (P := l.prog) (base := base) (T := T) F_law_plus G_law_plus (ok_law_plus F_law_plus C_law_lowest) fun _ _ _ _ _ _ us hl => match us, hl with | [_, _], _ => rfl
  have C_law_held := Cal.of (w := w) (P := l.prog) (base := base) (T := T) F_law_held G_law_held (ok_law_held F_law_held Ntuple C_law_lowest) fun _ _ _ _ _ _ us hl => match us, hl with | [_], _ => rfl
  have C_law_told := CalB.of (w := w) (P := l.prog) (base := base) (T := T) F_law_told G_law_told (ok_law_told F_law_told Nrange Ntuple C_law_take C_law_lowest) fun _ _ _ _ _ _ us hl => match us, hl with | [_], _ => rfl
  have C_law_right := CalB.of (w := w) (P := l.prog) (base := base) (T := T) F_law_right G_law_right (ok_law_right F_law_right Nrange Ntuple Nrepr Nlen Nsum C_law_take C_law_pull C_law_told C_law_held Cheld Kheld C_law_plus C_law_lowest Cright_chances Kright) fun _ _ _ _ _ _ us hl => match us, hl with | [_], _ => rfl
  exact ok_law Flaw Nrange Nmax Nmin Nlen Nall C_law_bag C_law_right
end K63
open PySem PySem.W PySem.Calls PyProof.Rows
theorem PySem.Challenge.cw_tossplans_k63_whole_held_things_holds : PySem.Challenge.rw_tossplans_k63_whole_held_things.Holds := by
  w_on; o_law
  refine DLH.head_imp (r := OpenLaw.row PySem.Challenge.rw_tossplans_k63_whole_held_things) (q := view (OpenLaw.row PySem.Challenge.rw_tossplans_k63_whole_held_things).prog [38]) (H := K63.hk) (ob := K63.ob) (M1 := 6000) (M := 3000) (loose := K63.loose) (d := HandSHeadRun.topDef (OpenLaw.row PySem.Challenge.rw_tossplans_k63_whole_held_things).prog 38) (kwd := []) K63.ob_eq
    (by kernel_rfl) K63.run (by kernel_rfl) (by kernel_rfl) (by kernel_rfl) (by rfl) (by first | assumption | decide +kernel) (by decide +kernel) ⟨rfl, rfl, rfl, rfl, rfl, by decide +kernel⟩ ?hw ?hc
  case hw => w_witness2
  case hc =>
    refine DL.walk_G (l := PySem.Challenge.rw_tossplans_k63_whole_held_things) (n := 63) (k := 11) (x := "script") rfl (by decide) (by kernel_rfl) ⟨⟨rfl, by decide, by decide⟩, rfl⟩ ?F
    intro w mg fa h Y G hmg0
    obtain ⟨K, KX, c⟩ := Y
    have hmg : mg ("law" : PySem.Str) = some (.ref fa) := by
      have e : (HandSHeadRun.topDef (OpenLaw.row PySem.Challenge.rw_tossplans_k63_whole_held_things).prog 38).name = ("law" : PySem.Str) := by kernel_rfl
      rw [← e]
      exact hmg0
    exact ⟨K, KX, K63.facts KX G hmg c⟩
