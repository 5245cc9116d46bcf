import PyProof.Rows.All
import Wide.All
import OpenK.AllK
import Wide.FinOn
import HandS.ForMost
import HandS.ForExc
import HandS.Evl
import HandS.Flow
import HandS.Zip
import HandS.TupAny
import HandS.Style
import HandS.TupMul
import HandS.IsInst
import HandS.SetFor
import HandS.Conv
import KE.GoesMore
import KE.GoesEnum
import KE.GoesZip
import HandS.Deep
import HandS.Strs
import HandS.RaiseMore
import PyProof.SeqIndex
import HandS.ExcSuper
import HandS.ExcField
import HandS.TryMany
import HandS.Lambda
import KE.KExcSuper
import KE.KExcIs
import KE.GoesRaise
import HandS.ExcIs
import PyProof.CallFns
import HandS.Defaults
import HandS.HeadHook1
import HandS.HeadHook2
import HandS.HeadHook4
import KE.KStateDown
import HandS.Head0
import HandS.Head1
import HandS.Head2
import HandS.HeadWalk
import HandS.EndTab
import PySem.Challenge.RW_farstory_k23_whole_where_no_frame_goes_o
section
set_option Elab.async false
set_option autoImplicit false
set_option linter.all false
set_option maxRecDepth 100000
set_option maxHeartbeats 1000000
/-! D1: the data layer. Over the hand layer's readings: a state is told by data (Sl: by slot what it holds; Rs: the objects that may still change), a reading by what it wants of data alone. -/
namespace Dl
open PySem PySem.Spec PyProof.Rows L2 Evl

/-- what a name holds: data that changes no more, an object that may change, a built-in class, the script -/
inductive DV where
  | d (x : PyData) | p (a : Addr) | ty (n : String) | scr (ns : List Int)
/-- an object that may change: a list, an instance, a code object's table -/
inductive Res where
  | lst (ds : List PyData) | obj (C : Addr) (fs : List (Str × PyData)) | tab (q : Str)
abbrev Rs := List (Addr × Res)
abbrev Sl := List (Option DV)
abbrev Fg := PySem.W.Frag
abbrev Up (F G : Hp) : Prop := Ex F G

/-- a plain tuple, of which it is known that it has no dict of its own -/
abbrev zt (ds : List PyData) : PyData := .dict [(.tuple ds, .none)]
mutual
inductive Dq (F : Hp) : V → PyData → Prop
  | non : Dq F .non .none
  | bl (b : Bool) : Dq F (.bl b) (.bool b)
  | int (i : Int) : Dq F (.int i) (.int i)
  | str (x : Str) : Dq F (.str x) (.str x)
  | lst {a : Addr} {xs : List V} {ds : List PyData} : F a = some (.lst xs) → DqAll F xs ds → Dq F (.ref a) (.list ds)
  | tup {a : Addr} {xs : List V} {ds : List PyData} : F a = some (.tup xs) → DqAll F xs ds → Dq F (.ref a) (.tuple ds)
  | zt {a : Addr} {o : Obj} {xs : List V} {ds : List PyData} : F a = some (.frz o (.tup xs)) → o.dict = Option.none → DqAll F xs ds → Dq F (.ref a) (zt ds)
inductive DqAll (F : Hp) : List V → List PyData → Prop
  | nil : DqAll F [] []
  | cons {v : V} {vs : List V} {d : PyData} {ds : List PyData} : Dq F v d → DqAll F vs ds → DqAll F (v :: vs) (d :: ds)
end
mutual
theorem Dq.up' {F G : Hp} (e : Up F G) : ∀ {v : V} {d : PyData}, Dq F v d → Dq G v d
  | _, _, .non => .non
  | _, _, .bl b => .bl b
  | _, _, .int i => .int i
  | _, _, .str x => .str x
  | _, _, .lst h1 h2 => .lst (e _ _ h1) (DqAll.up' e h2)
  | _, _, .tup h1 h2 => .tup (e _ _ h1) (DqAll.up' e h2)
  | _, _, .zt h1 h3 h2 => .zt (e _ _ h1) h3 (DqAll.up' e h2)
theorem DqAll.up' {F G : Hp} (e : Up F G) : ∀ {vs : List V} {ds : List PyData}, DqAll F vs ds → DqAll G vs ds
  | _, _, .nil => .nil
  | _, _, .cons h1 h2 => .cons (Dq.up' e h1) (DqAll.up' e h2)
end
theorem Dq.up {F G : Hp} (e : Up F G) (d : PyData) (v : V) (h : Dq F v d) : Dq G v d := Dq.up' e h
theorem DqAll.up {F G : Hp} (e : Up F G) (ds : List PyData) (vs : List V) (h : DqAll F vs ds) : DqAll G vs ds := DqAll.up' e h
mutual
theorem Dq.dp {K : Fg} {F H : Hp} (e : Up F H) : ∀ {v : V} {d : PyData}, d.canLay0 = true → Dq F v d → Dp K H v d
  | _, _, _, .non => .non
  | _, _, _, .bl b => .bl b
  | _, _, _, .int i => .int i
  | _, _, _, .str x => .str x
  | _, _, c, .lst h1 h2 => .lst (SqL.of (e _ _ h1)) (DqAll.dp e (by simpa only [PyData.canLay0] using c) h2)
  | _, _, c, .tup h1 h2 => .tup (SqT.of (e _ _ h1)) (DqAll.dp e (by simpa only [PyData.canLay0] using c) h2)
  | _, _, c, .zt h1 h3 h2 => absurd c (by simp [PyData.canLay0])
theorem DqAll.dp {K : Fg} {F H : Hp} (e : Up F H) : ∀ {vs : List V} {ds : List PyData}, PyData.canLayAll0 ds = true → DqAll F vs ds → DpAll K H vs ds
  | _, _, _, .nil => .nil
  | _, _, c, .cons h1 h2 => .cons (Dq.dp e (by simp only [PyData.canLayAll0, Bool.and_eq_true] at c; exact c.1) h1) (DqAll.dp e (by simp only [PyData.canLayAll0, Bool.and_eq_true] at c; exact c.2) h2)
end
theorem DqAll.len {F : Hp} : ∀ {vs : List V} {ds : List PyData}, DqAll F vs ds → vs.length = ds.length
  | _, _, .nil => rfl
  | _, _, .cons _ t => congrArg (· + 1) (DqAll.len t)
theorem DqAll.get {F : Hp} : ∀ {vs : List V} {ds : List PyData} {i : Nat} {d : PyData}, DqAll F vs ds → ds[i]? = some d → ∃ v, vs[i]? = some v ∧ Dq F v d
  | _, _, _, _, .nil, e => by simp at e
  | _, _, 0, _, .cons r _, e => by simp at e; subst e; exact ⟨_, rfl, r⟩
  | _, _, i + 1, d, .cons _ t, e => by
    obtain ⟨u, h1, h2⟩ := DqAll.get (i := i) (d := d) t (by simpa using e)
    exact ⟨u, by simpa using h1, h2⟩
theorem DqAll.getV {F : Hp} {vs : List V} {ds : List PyData} {i : Nat} {v : V} (h : DqAll F vs ds) (e : vs[i]? = some v) : ∃ d, ds[i]? = some d ∧ Dq F v d := by
  have hl := h.len
  have hi : i < ds.length := by
    have := (List.getElem?_eq_some_iff.mp e).1
    omega
  obtain ⟨u, h1, h2⟩ := h.get (d := ds[i]) (List.getElem?_eq_getElem hi)
  rw [e] at h1
  cases h1
  exact ⟨_, List.getElem?_eq_getElem hi, h2⟩
theorem DqAll.app {F : Hp} : ∀ {vs ws : List V} {ds es : List PyData}, DqAll F vs ds → DqAll F ws es → DqAll F (vs ++ ws) (ds ++ es)
  | _, _, _, _, .nil, s => s
  | _, _, _, _, .cons r t, s => .cons r (DqAll.app t s)
theorem DqAll.take {F : Hp} : ∀ {vs : List V} {ds : List PyData} (n : Nat), DqAll F vs ds → DqAll F (vs.take n) (ds.take n)
  | _, _, 0, _ => by rw [List.take_zero, List.take_zero]; exact .nil
  | _, _, _ + 1, .nil => .nil
  | _, _, n + 1, .cons r t => .cons r (DqAll.take n t)
theorem DqAll.drop {F : Hp} : ∀ {vs : List V} {ds : List PyData} (n : Nat), DqAll F vs ds → DqAll F (vs.drop n) (ds.drop n)
  | _, _, 0, r => r
  | _, _, _ + 1, .nil => .nil
  | _, _, n + 1, .cons _ t => DqAll.drop n t
theorem DqAll.rev {F : Hp} : ∀ {vs : List V} {ds : List PyData}, DqAll F vs ds → DqAll F vs.reverse ds.reverse
  | _, _, .nil => .nil
  | _, _, .cons r t => by
    rw [List.reverse_cons, List.reverse_cons]
    exact DqAll.app (DqAll.rev t) (.cons r .nil)
theorem DqAll.set {F : Hp} {v : V} {d : PyData} (r : Dq F v d) : ∀ {vs : List V} {ds : List PyData} (i : Nat), DqAll F vs ds → DqAll F (vs.set i v) (ds.set i d)
  | _, _, _, .nil => .nil
  | _, _, 0, .cons _ t => .cons r t
  | _, _, i + 1, .cons q t => .cons q (DqAll.set r i t)
theorem DqAll.rep {F : Hp} {vs : List V} {ds : List PyData} (h : DqAll F vs ds) : ∀ n : Nat, DqAll F (List.replicate n vs).flatten (List.replicate n ds).flatten
  | 0 => .nil
  | n + 1 => by
    rw [List.replicate_succ, List.replicate_succ, List.flatten_cons, List.flatten_cons]
    exact DqAll.app h (DqAll.rep h n)
theorem DqAll.ints {F : Hp} : ∀ {vs : List V} {ns : List Int}, DqAll F vs (ns.map PyData.int) → vs = ns.map V.int
  | _, [], .nil => rfl
  | _, n :: ns, .cons r t => by
    cases r
    rw [DqAll.ints t]
    rfl
theorem DqAll.of_ints {F : Hp} : ∀ ns : List Int, DqAll F (ns.map V.int) (ns.map PyData.int)
  | [] => .nil
  | n :: ns => .cons (.int n) (DqAll.of_ints ns)

inductive FsOk (F : Hp) : List (Str × V) → List (Str × PyData) → Prop
  | nil : FsOk F [] []
  | cons {f : Str} {v : V} {d : PyData} {vs : List (Str × V)} {ds : List (Str × PyData)} : Dq F v d → FsOk F vs ds → FsOk F ((f, v) :: vs) ((f, d) :: ds)
def Is (K : Fg) (F : Hp) (v : V) : DV → Prop
  | .d x => Dq F v x
  | .p a => v = .ref a
  | .ty n => v = .ty n
  | .scr ns => ∃ a, v = .ref a ∧ SqL K F a (ns.map V.int)
def CodeAt (c : Addr) (q : Str) : HO := .ext fun h => ∃ (oc : Obj) (vs : Array Value) (t : Tok), h.get? c = some oc ∧ oc.data = .fields vs ∧ vs[1]? = some (.str q t)
def Hold (F H : Hp) (a : Addr) : Res → Prop
  | .lst ds => ∃ xs, H a = some (.lst xs) ∧ DqAll F xs ds
  | .obj C fs => ∃ dx vs, H a = some (.ins C dx vs) ∧ FsOk F vs fs
  | .tab q => ∃ ps : Array Value, H a = some (.tbl ps) ∧ TriplesOk ps.toList ∧ ∀ (pos : Pos) (cv : Value), codeAmong pos ps.toList = some cv → ∃ c, cv = .ref c ∧ F c = some (CodeAt c q)
theorem Is.up {K : Fg} {F G : Hp} {v : V} {x : DV} (e : Up F G) (h : Is K F v x) : Is K G v x := by
  cases x with
  | d x => exact Dq.up e x v h
  | p a => exact h
  | ty n => exact h
  | scr ns =>
    obtain ⟨a, h1, h2⟩ := h
    exact ⟨a, h1, ex_l e h2⟩
theorem FsOk.up {F G : Hp} (e : Up F G) : ∀ {vs : List (Str × V)} {ds : List (Str × PyData)}, FsOk F vs ds → FsOk G vs ds
  | _, _, .nil => .nil
  | _, _, .cons r t => .cons (Dq.up e _ _ r) (FsOk.up e t)
theorem FsOk.get {F : Hp} {f : Str} : ∀ {vs : List (Str × V)} {ds : List (Str × PyData)} {d : PyData}, FsOk F vs ds → ds.lookup f = some d → ∃ v, vs.lookup f = some v ∧ Dq F v d
  | _, _, _, .nil, e => by cases e
  | _, _, d, @FsOk.cons _ g v d' vs ds r t, e => by
    rw [List.lookup_cons] at e ⊢
    cases hb : f == g with
    | true =>
      rw [hb] at e
      cases e
      exact ⟨v, rfl, r⟩
    | false =>
      rw [hb] at e
      exact FsOk.get t e
theorem FsOk.none {F : Hp} {f : Str} : ∀ {vs : List (Str × V)} {ds : List (Str × PyData)}, FsOk F vs ds → ds.lookup f = none → vs.lookup f = none
  | _, _, .nil, e => rfl
  | _, _, @FsOk.cons _ g v d' vs ds r t, e => by
    rw [List.lookup_cons] at e ⊢
    cases hb : f == g with
    | true =>
      rw [hb] at e
      cases e
    | false =>
      rw [hb] at e
      exact FsOk.none t e
def putD (f : Str) (d : PyData) : List (Str × PyData) → List (Str × PyData)
  | [] => [(f, d)]
  | (g, e) :: r => if g = f then (g, d) :: r else (g, e) :: putD f d r
theorem FsOk.put {F : Hp} {f : Str} {v : V} {d : PyData} (r : Dq F v d) : ∀ {vs : List (Str × V)} {ds : List (Str × PyData)}, FsOk F vs ds → FsOk F (putF f v vs) (putD f d ds)
  | _, _, .nil => .cons r .nil
  | _, _, @FsOk.cons _ g v' d' vs ds q t => by
    unfold putD putF
    by_cases h : g = f
    · rw [if_pos h, if_pos h]
      exact .cons r t
    · rw [if_neg h, if_neg h]
      exact .cons q (FsOk.put r t)
theorem FsOk.len {F : Hp} : ∀ {vs : List (Str × V)} {ds : List (Str × PyData)}, FsOk F vs ds → vs.length = ds.length
  | _, _, .nil => rfl
  | _, _, .cons _ t => congrArg (· + 1) (FsOk.len t)
theorem Hold.some {F H : Hp} {a : Addr} {r : Res} (h : Hold F H a r) : ∃ o, H a = some o := by
  cases r with
  | lst ds => obtain ⟨xs, e, _⟩ := h; exact ⟨_, e⟩
  | obj C fs => obtain ⟨dx, vs, e, _⟩ := h; exact ⟨_, e⟩
  | tab q => obtain ⟨ps, e, _⟩ := h; exact ⟨_, e⟩

/-! ### states -/
/-- what is frozen (F), what stands (H), the slots, the objects that may change -/
structure KnL (K : Fg) (F H : Hp) (σ : L2.St) (sl : Sl) (rs : Rs) : Prop where
  ex : Up F H
  gs : ∀ (i : Nat) (dv : DV), sl[i]? = some (some dv) → ∃ v, σ[i]? = some (some v) ∧ Is K F v dv
  ln : σ.length = sl.length
  gr : ∀ q ∈ rs, F q.1 = none ∧ Hold F H q.1 q.2
  nd : (rs.map (·.1)).Nodup
/-- from one state to a later one: nothing but the objects told may have changed -/
structure Stp (F H : Hp) (rs : Rs) (F' H' : Hp) (rs' : Rs) : Prop where
  up : Up F F'
  fr : ∀ a o, H a = some o → a ∉ rs.map (·.1) → H' a = some o
  th : ∀ a, H' a = none → H a = none
  nw : ∀ a, F a = none → H a ≠ none → a ∉ rs.map (·.1) → F' a = none
  ow : ∀ a ∈ rs'.map (·.1), a ∈ rs.map (·.1) ∨ H a = none
theorem Stp.refl {F H : Hp} {rs : Rs} : Stp F H rs F H rs := ⟨fun _ _ h => h, fun _ _ h _ => h, fun _ h => h, fun _ h _ _ => h, fun _ h => .inl h⟩
theorem Stp.trans {F H F1 H1 F2 H2 : Hp} {rs rs1 rs2 : Rs} (a : Stp F H rs F1 H1 rs1) (b : Stp F1 H1 rs1 F2 H2 rs2) : Stp F H rs F2 H2 rs2 where
  up := fun x o h => b.up x o (a.up x o h)
  fr := fun x o h n => b.fr x o (a.fr x o h n) fun m => by
    rcases a.ow x m with z | z
    · exact n z
    · rw [h] at z; cases z
  th := fun x h => a.th x (b.th x h)
  nw := fun x f h n => b.nw x (a.nw x f h n) (fun z => h (a.th x z)) fun m => by
    rcases a.ow x m with z | z
    · exact n z
    · exact h z
  ow := fun x m => by
    rcases b.ow x m with z | z
    · exact a.ow x z
    · exact .inr (a.th x z)
/-- fewer objects told -/
theorem Stp.drop {F H F' H' : Hp} {rs rs1 rs2 : Rs} (a : Stp F H rs F' H' rs1) (h : ∀ q ∈ rs2.map (·.1), q ∈ rs1.map (·.1)) : Stp F H rs F' H' rs2 := ⟨a.up, a.fr, a.th, a.nw, fun x m => a.ow x (h x m)⟩
/-- more objects might have changed -/
theorem Stp.more {F H F' H' : Hp} {rs rs0 rs' : Rs} (a : Stp F H rs F' H' rs') (h : ∀ q ∈ rs.map (·.1), q ∈ rs0.map (·.1)) : Stp F H rs0 F' H' rs' :=
  ⟨a.up, fun x o e n => a.fr x o e fun m => n (h x m), a.th, fun x f e n => a.nw x f e fun m => n (h x m), fun x m => (a.ow x m).imp (h x) id⟩
section
variable {K : Fg} {F H F' H' : Hp} {σ : L2.St} {sl : Sl} {rs rs' rs1 rs2 : Rs} {p : Addr} {o : HO}
theorem KnL.fn (k : KnL K F H σ sl rs) (h : H p = none) : F p = none := by
  cases e : F p with
  | none => rfl
  | some o =>
    rw [k.ex p o e] at h
    cases h
theorem KnL.nr (k : KnL K F H σ sl rs) (h : H p = none) : p ∉ rs.map (·.1) := fun m => by
  obtain ⟨q, hq, e⟩ := List.mem_map.mp m
  obtain ⟨o, e2⟩ := (k.gr q hq).2.some
  rw [e, h] at e2
  cases e2
theorem Hold.up {a : Addr} {r : Res} (e : Up F F') (he : H' a = H a) (h : Hold F H a r) : Hold F' H' a r := by
  cases r with
  | lst ds => obtain ⟨xs, h1, h2⟩ := h; exact ⟨xs, he.trans h1, DqAll.up e _ _ h2⟩
  | obj C fs => obtain ⟨dx, vs, h1, h2⟩ := h; exact ⟨dx, vs, he.trans h1, h2.up e⟩
  | tab q =>
    obtain ⟨ps, h1, h2, h3⟩ := h
    refine ⟨ps, he.trans h1, h2, fun pos cv hc => ?_⟩
    obtain ⟨c, e1, e2⟩ := h3 pos cv hc
    exact ⟨c, e1, e c _ e2⟩
/-- a new object, frozen at once -/
theorem KnL.new (k : KnL K F H σ sl rs) (h : H p = none) : KnL K (upd F p o) (upd H p o) σ sl rs where
  ex := fun a u e => by
    by_cases hb : a = p
    · rw [hb, upd_same] at e ⊢; exact e
    · rw [upd_ne hb] at e ⊢; exact k.ex a u e
  gs := fun i dv e => let ⟨v, h1, h2⟩ := k.gs i dv e; ⟨v, h1, h2.up (Ex.new (k.fn h))⟩
  ln := k.ln
  gr := fun q hq => by
    have hne : q.1 ≠ p := fun z => k.nr h (z ▸ List.mem_map.mpr ⟨q, hq, rfl⟩)
    obtain ⟨h1, h2⟩ := k.gr q hq
    exact ⟨by rw [upd_ne hne]; exact h1, h2.up (Ex.new (k.fn h)) (upd_ne hne)⟩
  nd := k.nd
theorem Stp.new (k : KnL K F H σ sl rs) (h : H p = none) : Stp F H rs (upd F p o) (upd H p o) rs where
  up := Ex.new (k.fn h)
  fr := fun a u e _ => by rw [upd_ne (ne_of_none e h)]; exact e
  th := fun a e => by
    by_cases hb : a = p
    · rw [hb]; exact h
    · rw [upd_ne hb] at e; exact e
  nw := fun a f e _ => by
    by_cases hb : a = p
    · exact absurd (by rw [hb]; exact h) e
    · rw [upd_ne hb]; exact f
  ow := fun _ m => .inl m
/-- a new object that may change -/
theorem KnL.newR {r : Res} (k : KnL K F H σ sl rs) (h : H p = none) (hr : Hold F (upd H p o) p r) : KnL K F (upd H p o) σ sl ((p, r) :: rs) where
  ex := fun a u e => by rw [upd_ne (ne_of_none e (k.fn h))]; exact k.ex a u e
  gs := k.gs
  ln := k.ln
  gr := fun q hq => by
    rcases List.mem_cons.mp hq with z | hq
    · subst z; exact ⟨k.fn h, hr⟩
    · have hne : q.1 ≠ p := fun z => k.nr h (z ▸ List.mem_map.mpr ⟨q, hq, rfl⟩)
      exact ⟨(k.gr q hq).1, (k.gr q hq).2.up (Ex.refl F) (upd_ne hne)⟩
  nd := List.nodup_cons.mpr ⟨k.nr h, k.nd⟩
theorem Stp.newR {r : Res} (h : H p = none) : Stp F H rs F (upd H p o) ((p, r) :: rs) where
  up := Ex.refl F
  fr := fun a u e _ => by rw [upd_ne (ne_of_none e h)]; exact e
  th := fun a e => by
    by_cases hb : a = p
    · rw [hb]; exact h
    · rw [upd_ne hb] at e; exact e
  nw := fun a f _ _ => f
  ow := fun a m => by
    rcases List.mem_cons.mp m with z | z
    · exact .inr (z ▸ h)
    · exact .inl z
theorem nd_at {i j : Nat} {a b : Addr × Res} (hn : (rs.map (·.1)).Nodup) (h1 : rs[i]? = some a) (h2 : rs[j]? = some b) (e : a.1 = b.1) : i = j := by
  obtain ⟨l1, e1⟩ := List.getElem?_eq_some_iff.mp (show (rs.map (·.1))[i]? = some a.1 by rw [List.getElem?_map, h1]; rfl)
  obtain ⟨l2, e2⟩ := List.getElem?_eq_some_iff.mp (show (rs.map (·.1))[j]? = some a.1 by rw [List.getElem?_map, h2, e]; rfl)
  exact (List.getElem_inj hn).mp (e1.trans e2.symm)
/-- an object is written -/
theorem KnL.wr {i : Nat} {r r' : Res} (k : KnL K F H σ sl rs) (hi : rs[i]? = some (p, r)) (hr : Hold F (upd H p o) p r') : KnL K F (upd H p o) σ sl (rs.set i (p, r')) where
  ex := fun a u e => by
    have hp : F p = none := (k.gr _ (List.mem_of_getElem? hi)).1
    rw [upd_ne (ne_of_none e hp)]; exact k.ex a u e
  gs := k.gs
  ln := k.ln
  gr := fun q hq => by
    obtain ⟨j, hj⟩ := List.mem_iff_getElem?.mp hq
    by_cases hij : i = j
    · subst hij
      have hlt : i < rs.length := (List.getElem?_eq_some_iff.mp hi).1
      rw [List.getElem?_set_self hlt] at hj
      cases hj
      exact ⟨(k.gr _ (List.mem_of_getElem? hi)).1, hr⟩
    · rw [List.getElem?_set_ne hij] at hj
      have hm := List.mem_of_getElem? hj
      have hne : q.1 ≠ p := fun z => hij (nd_at k.nd hi hj z.symm)
      exact ⟨(k.gr q hm).1, (k.gr q hm).2.up (Ex.refl F) (upd_ne hne)⟩
  nd := by
    have e : (rs.set i (p, r')).map (·.1) = rs.map (·.1) := by
      rw [List.map_set]
      refine List.ext_getElem? fun j => ?_
      by_cases hij : i = j
      · subst hij
        have hlt : i < rs.length := (List.getElem?_eq_some_iff.mp hi).1
        rw [List.getElem?_set_self (by simpa using hlt), List.getElem?_map, hi]
        rfl
      · rw [List.getElem?_set_ne hij]
    rw [e]
    exact k.nd
theorem set_names {i : Nat} {r r' : Res} (hi : rs[i]? = some (p, r)) : (rs.set i (p, r')).map (·.1) = rs.map (·.1) := by
  rw [List.map_set]
  refine List.ext_getElem? fun j => ?_
  by_cases hij : i = j
  · subst hij
    have hlt : i < rs.length := (List.getElem?_eq_some_iff.mp hi).1
    rw [List.getElem?_set_self (by simpa using hlt), List.getElem?_map, hi]
    rfl
  · rw [List.getElem?_set_ne hij]
theorem Stp.wr {i : Nat} {r r' : Res} (k : KnL K F H σ sl rs) (hi : rs[i]? = some (p, r)) : Stp F H rs F (upd H p o) (rs.set i (p, r')) where
  up := Ex.refl F
  fr := fun a u e n => by
    have hp : p ∈ rs.map (·.1) := List.mem_map.mpr ⟨_, List.mem_of_getElem? hi, rfl⟩
    rw [upd_ne (fun z : a = p => n (by rw [z]; exact hp))]; exact e
  th := fun a e => by
    by_cases hb : a = p
    · rw [hb, upd_same] at e; cases e
    · rw [upd_ne hb] at e; exact e
  nw := fun a f _ _ => f
  ow := fun a m => by rw [set_names hi] at m; exact .inl m
/-- other slots -/
theorem KnL.slots {σ' : L2.St} {sl' : Sl} (k : KnL K F H σ sl rs) (h : ∀ (i : Nat) (dv : DV), sl'[i]? = some (some dv) → ∃ v, σ'[i]? = some (some v) ∧ Is K F v dv) (hl : σ'.length = sl'.length) : KnL K F H σ' sl' rs := ⟨k.ex, h, hl, k.gr, k.nd⟩
theorem KnL.none (k : KnL K F H σ sl rs) : KnL K F H [] [] rs := k.slots (fun i dv e => by simp at e) rfl
theorem KnL.set {i : Nat} {v : V} {dv : DV} (k : KnL K F H σ sl rs) (h : Is K F v dv) : KnL K F H (σ.set i (some v)) (sl.set i (some dv)) rs :=
  k.slots (fun j dw e => by
    by_cases hij : i = j
    · subst hij
      by_cases hlt : i < sl.length
      · rw [List.getElem?_set_self hlt] at e
        cases e
        exact ⟨v, List.getElem?_set_self (by rw [k.ln]; exact hlt), h⟩
      · rw [List.getElem?_eq_none (by rw [List.length_set]; omega)] at e
        cases e
    · rw [List.getElem?_set_ne hij] at e ⊢
      exact k.gs j dw e) (by rw [List.length_set, List.length_set, k.ln])
/-- fewer objects, in another order -/
theorem KnL.sub (k : KnL K F H σ sl rs) (hn : (rs'.map (·.1)).Nodup) (h : ∀ q ∈ rs', q ∈ rs) : KnL K F H σ sl rs' := ⟨k.ex, k.gs, k.ln, fun q hq => k.gr q (h q hq), hn⟩
theorem KnL.perm (k : KnL K F H σ sl rs) (h : rs.Perm rs') : KnL K F H σ sl rs' := k.sub ((h.map (·.1)).nodup_iff.mp k.nd) fun q hq => h.mem_iff.mpr hq
/-- later: what was told of other objects is still so -/
theorem KnL.later (k : KnL K F H σ sl (rs1 ++ rs2)) (s : Stp F H rs1 F' H' rs') (k' : KnL K F' H' [] [] rs') : KnL K F' H' σ sl (rs' ++ rs2) := by
  have nd2 := List.nodup_append.mp (show (rs1.map (·.1) ++ rs2.map (·.1)).Nodup by rw [← List.map_append]; exact k.nd)
  have ne : ∀ q ∈ rs2, q.1 ∉ rs1.map (·.1) := fun q hq m => nd2.2.2 _ m _ (List.mem_map.mpr ⟨q, hq, rfl⟩) rfl
  have hold : ∀ q ∈ rs2, F' q.1 = Option.none ∧ Hold F' H' q.1 q.2 := fun q hq => by
    obtain ⟨h1, h2⟩ := k.gr q (List.mem_append_right _ hq)
    obtain ⟨o, e⟩ := h2.some
    exact ⟨s.nw _ h1 (by rw [e]; simp) (ne q hq), h2.up s.up ((s.fr _ _ e (ne q hq)).trans e.symm)⟩
  refine ⟨k'.ex, fun i dv e => ?_, k.ln, fun q hq => ?_, ?_⟩
  · obtain ⟨v, h1, h2⟩ := k.gs i dv e
    exact ⟨v, h1, h2.up s.up⟩
  · rcases List.mem_append.mp hq with hq | hq
    · exact k'.gr q hq
    · exact hold q hq
  · rw [List.map_append]
    refine List.nodup_append.mpr ⟨k'.nd, nd2.2.1, fun a ha b hb z => ?_⟩
    subst z
    obtain ⟨q, hq, e⟩ := List.mem_map.mp hb
    rcases s.ow a ha with m | m
    · exact ne q hq (e ▸ m)
    · obtain ⟨o, e2⟩ := (k.gr q (List.mem_append_right _ hq)).2.some
      rw [e, m] at e2
      cases e2
theorem Stp.later (k : KnL K F H σ sl (rs1 ++ rs2)) (s : Stp F H rs1 F' H' rs') : Stp F H (rs1 ++ rs2) F' H' (rs' ++ rs2) where
  up := s.up
  fr := fun a o e n => s.fr a o e fun m => n (by rw [List.map_append]; exact List.mem_append_left _ m)
  th := s.th
  nw := fun a f e n => s.nw a f e fun m => n (by rw [List.map_append]; exact List.mem_append_left _ m)
  ow := fun a m => by
    rw [List.map_append] at m ⊢
    rcases List.mem_append.mp m with m | m
    · exact (s.ow a m).imp (List.mem_append_left _) id
    · exact .inl (List.mem_append_right _ m)
/-- an object is frozen -/
theorem KnL.frz {ds : List PyData} (k : KnL K F H σ sl ((p, .lst ds) :: rs)) : ∃ xs, H p = some (.lst xs) ∧ KnL K (upd F p (.lst xs)) H σ sl rs ∧ Stp F H ((p, .lst ds) :: rs) (upd F p (.lst xs)) H rs ∧ Dq (upd F p (.lst xs)) (.ref p) (.list ds) := by
  obtain ⟨hf, xs, hx, hd⟩ := k.gr _ List.mem_cons_self
  have hf : F p = Option.none := hf
  have hx : H p = some (.lst xs) := hx
  have e : Up F (upd F p (.lst xs)) := Ex.new hf
  have nd := List.nodup_cons.mp (show (p :: rs.map (·.1)).Nodup from k.nd)
  refine ⟨xs, hx, ⟨fun a u q => ?_, fun i dv q => ?_, k.ln, fun q hq => ?_, nd.2⟩, ⟨e, fun _ _ q _ => q, fun _ q => q, fun a f _ n => ?_, fun a m => .inl (List.mem_cons_of_mem _ m)⟩, .lst upd_same (DqAll.up e _ _ hd)⟩
  · by_cases hb : a = p
    · rw [hb, upd_same] at q; rw [hb, hx]; exact q
    · rw [upd_ne hb] at q; exact k.ex a u q
  · obtain ⟨v, h1, h2⟩ := k.gs i dv q
    exact ⟨v, h1, h2.up e⟩
  · obtain ⟨h1, h2⟩ := k.gr q (List.mem_cons_of_mem _ hq)
    have hne : q.1 ≠ p := fun z => nd.1 (z ▸ List.mem_map.mpr ⟨q, hq, rfl⟩)
    exact ⟨by rw [upd_ne hne]; exact h1, h2.up e rfl⟩
  · rw [upd_ne (fun z : a = p => n (by rw [z]; exact List.mem_cons_self))]
    exact f
end
end Dl
end
section
set_option Elab.async false
set_option autoImplicit false
set_option linter.all false
set_option maxRecDepth 100000
set_option maxHeartbeats 1000000
/-! D2: what a reading wants, told by data: WE (expressions), WT (tests), WA (arguments), WS (statements), WG (targets), WI (what is walked); a def's promise by data (toSp). -/
namespace Dl
open PySem PySem.Spec PyProof.Rows L2 Evl

/-- one activation: its entry, what it wishes of an error (of the class at C, with the field x) -/
structure Wd (K : Fg) (E : XK) where
  F0 : Hp
  H0 : Hp
  r0 : Rs
  X : Addr → PyData → Rs → Prop
  xo : ∀ (F' H' : Hp) (C : Addr) (x : PyData) (xv : V) (dd : Addr) (rs' : Rs), Stp F0 H0 r0 F' H' rs' → KnL K F' H' [] [] rs' → X C x rs' → H' dd = some (.xd [("at", xv)]) → Dq F' xv x → E (.ref C) (some dd) H'
def Kn {K : Fg} {E : XK} (W : Wd K E) (F H : Hp) (σ : L2.St) (sl : Sl) (rs : Rs) : Prop := KnL K F H σ sl rs ∧ Stp W.F0 W.H0 W.r0 F H rs
theorem Kn.go {K : Fg} {E : XK} {W : Wd K E} {F H F' H' : Hp} {σ σ' : L2.St} {sl sl' : Sl} {rs rs' : Rs} (k : Kn W F H σ sl rs) (s : Stp F H rs F' H' rs') (k' : KnL K F' H' σ' sl' rs') : Kn W F' H' σ' sl' rs' := ⟨k', k.2.trans s⟩

def WE {K : Fg} {E : XK} (W : Wd K E) (te : TE) (sl : Sl) (rs : Rs) (P : DV → Rs → Prop) : Prop :=
  ∀ (F H : Hp) (σ : L2.St), Kn W F H σ sl rs → ∀ Q : VK, (∀ (F' H' : Hp) (v : V) (dv : DV) (rs' : Rs), Stp F H rs F' H' rs' → KnL K F' H' σ sl rs' → Is K F' v dv → P dv rs' → Q v H') → te σ H Q
def WT {K : Fg} {E : XK} (W : Wd K E) (tt : TT) (sl : Sl) (rs : Rs) (P : Bool → Rs → Prop) : Prop :=
  ∀ (F H : Hp) (σ : L2.St), Kn W F H σ sl rs → ∀ Q : Bool → Hp → Prop, (∀ (F' H' : Hp) (b : Bool) (rs' : Rs), Stp F H rs F' H' rs' → KnL K F' H' σ sl rs' → P b rs' → Q b H') → tt σ H Q
inductive IsAll (K : Fg) (F : Hp) : List V → List DV → Prop
  | nil : IsAll K F [] []
  | cons {v : V} {x : DV} {vs : List V} {xs : List DV} : Is K F v x → IsAll K F vs xs → IsAll K F (v :: vs) (x :: xs)
theorem IsAll.up {K : Fg} {F G : Hp} (e : Up F G) : ∀ {vs : List V} {xs : List DV}, IsAll K F vs xs → IsAll K G vs xs
  | _, _, .nil => .nil
  | _, _, .cons r t => .cons (r.up e) (IsAll.up e t)
theorem IsAll.len {K : Fg} {F : Hp} : ∀ {vs : List V} {xs : List DV}, IsAll K F vs xs → vs.length = xs.length
  | _, _, .nil => rfl
  | _, _, .cons _ t => congrArg (· + 1) (IsAll.len t)
theorem IsAll.get {K : Fg} {F : Hp} : ∀ {vs : List V} {xs : List DV} {i : Nat} {x : DV}, IsAll K F vs xs → xs[i]? = some x → ∃ v, vs[i]? = some v ∧ Is K F v x
  | _, _, _, _, .nil, e => by simp at e
  | _, _, 0, _, .cons r _, e => by simp at e; subst e; exact ⟨_, rfl, r⟩
  | _, _, i + 1, d, .cons _ t, e => by
    obtain ⟨u, h1, h2⟩ := IsAll.get (i := i) (x := d) t (by simpa using e)
    exact ⟨u, by simpa using h1, h2⟩
theorem IsAll.app {K : Fg} {F : Hp} : ∀ {vs ws : List V} {xs ys : List DV}, IsAll K F vs xs → IsAll K F ws ys → IsAll K F (vs ++ ws) (xs ++ ys)
  | _, _, _, _, .nil, s => s
  | _, _, _, _, .cons r t, s => .cons r (IsAll.app t s)
/-- all of it data -/
theorem IsAll.dq {K : Fg} {F : Hp} : ∀ {vs : List V} {ds : List PyData}, IsAll K F vs (ds.map DV.d) → DqAll F vs ds
  | _, [], .nil => .nil
  | _, d :: ds, .cons r t => .cons r (IsAll.dq t)
def WA {K : Fg} {E : XK} (W : Wd K E) (ta : TA) (sl : Sl) (rs : Rs) (P : List DV → Rs → Prop) : Prop :=
  ∀ (F H : Hp) (σ : L2.St), Kn W F H σ sl rs → ∀ Q : List V → Hp → Prop, (∀ (F' H' : Hp) (vs : List V) (xs : List DV) (rs' : Rs), Stp F H rs F' H' rs' → KnL K F' H' σ sl rs' → IsAll K F' vs xs → P xs rs' → Q vs H') → ta σ H Q
structure Po where
  nx : Sl → Rs → Prop
  rt : DV → Rs → Prop
  bk : Sl → Rs → Prop := fun _ _ => False
  ct : Sl → Rs → Prop := fun _ _ => False
structure EO {K : Fg} {E : XK} (W : Wd K E) (F H : Hp) (rs : Rs) (D : Ends) (N : Po) : Prop where
  nx : ∀ (F' H' : Hp) (σ' : L2.St) (sl' : Sl) (rs' : Rs), Stp F H rs F' H' rs' → KnL K F' H' σ' sl' rs' → N.nx sl' rs' → D.nx σ' H'
  rt : ∀ (F' H' : Hp) (v : V) (dv : DV) (rs' : Rs), Stp F H rs F' H' rs' → KnL K F' H' [] [] rs' → Is K F' v dv → N.rt dv rs' → D.rt v H'
  bk : ∀ (F' H' : Hp) (σ' : L2.St) (sl' : Sl) (rs' : Rs), Stp F H rs F' H' rs' → KnL K F' H' σ' sl' rs' → N.bk sl' rs' → D.bk σ' H'
  ct : ∀ (F' H' : Hp) (σ' : L2.St) (sl' : Sl) (rs' : Rs), Stp F H rs F' H' rs' → KnL K F' H' σ' sl' rs' → N.ct sl' rs' → D.ct σ' H'
def WS {K : Fg} {E : XK} (W : Wd K E) (ts : TS) (sl : Sl) (rs : Rs) (N : Po) : Prop :=
  ∀ (F H : Hp) (σ : L2.St) (D : Ends), Kn W F H σ sl rs → EO W F H rs D N → ts D σ H
def WG {K : Fg} {E : XK} (W : Wd K E) (g : TG) (dv : DV) (sl : Sl) (rs : Rs) (P : Sl → Rs → Prop) : Prop :=
  ∀ (F H : Hp) (σ : L2.St) (v : V), Kn W F H σ sl rs → Is K F v dv → ∀ Q : L2.St → Hp → Prop, (∀ (F' H' : Hp) (σ' : L2.St) (sl' : Sl) (rs' : Rs), Stp F H rs F' H' rs' → KnL K F' H' σ' sl' rs' → P sl' rs' → Q σ' H') → g v σ H Q
def WGs {K : Fg} {E : XK} (W : Wd K E) (g : TGs) (ds : List PyData) (sl : Sl) (rs : Rs) (P : Sl → Rs → Prop) : Prop :=
  ∀ (F H : Hp) (σ : L2.St) (vs : List V), Kn W F H σ sl rs → DqAll F vs ds → ∀ Q : L2.St → Hp → Prop, (∀ (F' H' : Hp) (σ' : L2.St) (sl' : Sl) (rs' : Rs), Stp F H rs F' H' rs' → KnL K F' H' σ' sl' rs' → P sl' rs' → Q σ' H') → g vs σ H Q

section
variable {K : Fg} {E : XK} {W : Wd K E} {F H F' H' F1 H1 : Hp} {σ : L2.St} {sl : Sl} {rs rs1 : Rs} {D : Ends} {N : Po}
theorem EO.go (e : EO W F H rs D N) (s : Stp F H rs F1 H1 rs1) : EO W F1 H1 rs1 D N :=
  ⟨fun _ _ _ _ _ a k n => e.nx _ _ _ _ _ (s.trans a) k n, fun _ _ _ _ _ a k i n => e.rt _ _ _ _ _ (s.trans a) k i n, fun _ _ _ _ _ a k n => e.bk _ _ _ _ _ (s.trans a) k n, fun _ _ _ _ _ a k n => e.ct _ _ _ _ _ (s.trans a) k n⟩
end

theorem isI {K : Fg} {F : Hp} (n : Int) : Is K F (.int n) (.d (.int n)) := Dq.int n
theorem isB {K : Fg} {F : Hp} (b : Bool) : Is K F (.bl b) (.d (.bool b)) := Dq.bl b
theorem isN {K : Fg} {F : Hp} : Is K F .non (.d .none) := Dq.non
theorem isS {K : Fg} {F : Hp} (x : Str) : Is K F (.str x) (.d (.str x)) := Dq.str x
theorem isD {K : Fg} {F : Hp} {v : V} {x : PyData} (h : Dq F v x) : Is K F v (.d x) := h
section
variable {K : Fg} {E : XK} {W : Wd K E} {sl : Sl} {rs : Rs} {P P' : DV → Rs → Prop} {ta tb tc te : TE} {i : Nat} {dv : DV}
theorem WE.mono (h : WE W te sl rs P) (hp : ∀ dv rs, P dv rs → P' dv rs) : WE W te sl rs P' := fun F H σ k Q q => h F H σ k Q fun F' H' v dv rs' s k' i p => q F' H' v dv rs' s k' i (hp dv rs' p)
/-- one after another -/
theorem WE.then {Q : VK} {R : VK} {F H : Hp} {σ : L2.St} (h : WE W te sl rs P) (k : Kn W F H σ sl rs) (f : ∀ (F' H' : Hp) (v : V) (dv : DV) (rs' : Rs), Stp F H rs F' H' rs' → Kn W F' H' σ sl rs' → Is K F' v dv → P dv rs' → Q v H') : te σ H Q :=
  h F H σ k Q fun F' H' v dv rs' s k' i p => f F' H' v dv rs' s (k.go s k') i p
/-! ### names, constants -/
theorem we_var (h : sl[i]? = some (some dv)) (hp : P dv rs) : WE W (tVar i) sl rs P := fun F H σ k Q q =>
  let ⟨v, e, r⟩ := k.1.gs i dv h
  ⟨v, e, q F H v dv rs .refl k.1 r hp⟩
theorem we_int {n : Int} (hp : P (.d (.int n)) rs) : WE W (tC (.int n)) sl rs P := fun F H σ k Q q => q F H _ _ rs .refl k.1 (isI n) hp
theorem we_bl {b : Bool} (hp : P (.d (.bool b)) rs) : WE W (tC (.bl b)) sl rs P := fun F H σ k Q q => q F H _ _ rs .refl k.1 (isB b) hp
theorem we_non (hp : P (.d .none) rs) : WE W (tC .non) sl rs P := fun F H σ k Q q => q F H _ _ rs .refl k.1 isN hp
theorem we_str {x : Str} (hp : P (.d (.str x)) rs) : WE W (tC (.str x)) sl rs P := fun F H σ k Q q => q F H _ _ rs .refl k.1 (isS x) hp
theorem we_ref {a : Addr} (hp : P (.p a) rs) : WE W (tC (.ref a)) sl rs P := fun F H σ k Q q => q F H _ (.p a) rs .refl k.1 rfl hp
theorem we_ty {n : String} (hp : P (.ty n) rs) : WE W (tC (.ty n)) sl rs P := fun F H σ k Q q => q F H _ (.ty n) rs .refl k.1 rfl hp

/-! ### operators -/
theorem two {R : DV → DV → Rs → Prop} {F H : Hp} {σ : L2.St} (k : Kn W F H σ sl rs) (h : WE W ta sl rs fun x rs1 => WE W tb sl rs1 fun y rs2 => R x y rs2) {Z : V → V → Hp → Prop}
    (f : ∀ (F' H' : Hp) (v u : V) (x y : DV) (rs' : Rs), Stp F H rs F' H' rs' → Kn W F' H' σ sl rs' → Is K F' v x → Is K F' u y → R x y rs' → Z v u H') : ta σ H fun v H1 => tb σ H1 fun u H2 => Z v u H2 :=
  h F H σ k _ fun F1 H1 v x rs1 s1 k1 i1 p1 => p1 F1 H1 σ (k.go s1 k1) _ fun F2 H2 u y rs2 s2 k2 i2 p2 => f F2 H2 v u x y rs2 (s1.trans s2) (k.go (s1.trans s2) k2) (i1.up s2.up) i2 p2
theorem is_int {K : Fg} {F : Hp} {v : V} {n : Int} (h : Is K F v (.d (.int n))) : v = .int n := by
  have h' : Dq F v (.int n) := h
  cases h'
  rfl
theorem is_bl {K : Fg} {F : Hp} {v : V} {b : Bool} (h : Is K F v (.d (.bool b))) : v = .bl b := by
  have h' : Dq F v (.bool b) := h
  cases h'
  rfl
theorem is_str {K : Fg} {F : Hp} {v : V} {b : Str} (h : Is K F v (.d (.str b))) : v = .str b := by
  have h' : Dq F v (.str b) := h
  cases h'
  rfl
theorem is_non {K : Fg} {F : Hp} {v : V} (h : Is K F v (.d .none)) : v = .non := by
  have h' : Dq F v .none := h
  cases h'
  rfl
theorem is_tup {K : Fg} {F : Hp} {v : V} {ds : List PyData} (h : Is K F v (.d (.tuple ds))) : ∃ a xs, v = .ref a ∧ F a = some (.tup xs) ∧ DqAll F xs ds := by
  have h' : Dq F v (.tuple ds) := h
  cases h' with
  | tup h1 h2 => exact ⟨_, _, rfl, h1, h2⟩
theorem is_lst {K : Fg} {F : Hp} {v : V} {ds : List PyData} (h : Is K F v (.d (.list ds))) : ∃ a xs, v = .ref a ∧ F a = some (.lst xs) ∧ DqAll F xs ds := by
  have h' : Dq F v (.list ds) := h
  cases h' with
  | lst h1 h2 => exact ⟨_, _, rfl, h1, h2⟩
theorem we_opI {g : Int → Int → Int} (h : WE W ta sl rs fun x rs1 => WE W tb sl rs1 fun y rs2 => ∃ i j, x = .d (.int i) ∧ y = .d (.int j) ∧ P (.d (.int (g i j))) rs2) : WE W (tOp (rI0 fun i j => .int (g i j)) ta tb) sl rs P := fun F H σ k Q q =>
  two k h fun F' H' v u x y rs' s k' i1 i2 ⟨i, j, e1, e2, p⟩ => by
    subst e1 e2
    exact ⟨i, j, is_int i1, is_int i2, q F' H' _ _ rs' s k'.1 (isI _) p⟩
theorem we_opIC {C : Int → Int → Prop} {g : Int → Int → Int} (h : WE W ta sl rs fun x rs1 => WE W tb sl rs1 fun y rs2 => ∃ i j, x = .d (.int i) ∧ y = .d (.int j) ∧ C i j ∧ P (.d (.int (g i j))) rs2) : WE W (tOp (rI C fun i j => .int (g i j)) ta tb) sl rs P := fun F H σ k Q q =>
  two k h fun F' H' v u x y rs' s k' i1 i2 ⟨i, j, e1, e2, c, p⟩ => by
    subst e1 e2
    exact ⟨i, j, is_int i1, is_int i2, c, q F' H' _ _ rs' s k'.1 (isI _) p⟩
/-- a comparison of two ints -/
theorem we_opB {g : Int → Int → Bool} (h : WE W ta sl rs fun x rs1 => WE W tb sl rs1 fun y rs2 => ∃ i j, x = .d (.int i) ∧ y = .d (.int j) ∧ P (.d (.bool (g i j))) rs2) : WE W (tOp (rI0 fun i j => .bl (g i j)) ta tb) sl rs P := fun F H σ k Q q =>
  two k h fun F' H' v u x y rs' s k' i1 i2 ⟨i, j, e1, e2, p⟩ => by
    subst e1 e2
    exact ⟨i, j, is_int i1, is_int i2, q F' H' _ _ rs' s k'.1 (isB _) p⟩
theorem we_neg {g : Int → Int} (h : WE W ta sl rs fun x rs1 => ∃ i, x = .d (.int i) ∧ P (.d (.int (g i))) rs1) : WE W (tUn (rU fun i => .int (g i)) ta) sl rs P := fun F H σ k Q q =>
  h F H σ k _ fun F' H' v x rs' s k' i1 ⟨i, e1, p⟩ => by
    subst e1
    exact ⟨i, is_int i1, q F' H' _ _ rs' s k' (isI _) p⟩
/-- == of scalars -/
def scD : PyData → PyData → Bool
  | .none, .none => true | .none, .int _ => true | .int _, .none => true | .int _, .int _ => true | .bool _, .bool _ => true | .str _, .str _ => true
  | _, _ => false
def deq : PyData → PyData → Bool
  | .none, .none => true | .int i, .int j => decide (i = j) | .bool i, .bool j => decide (i = j) | .str i, .str j => decide (i = j)
  | _, _ => false
theorem sc_dq {F : Hp} {v u : V} {x y : PyData} (h1 : Dq F v x) (h2 : Dq F u y) (h : scD x y = true) : scal v u = true ∧ decide (v = u) = deq x y := by
  cases h1 <;> cases h2 <;> first
    | exact ⟨rfl, by simp [deq]⟩
    | exact absurd (show false = true from h) Bool.false_ne_true
theorem we_eq (h : WE W ta sl rs fun x rs1 => WE W tb sl rs1 fun y rs2 => ∃ i j, x = .d i ∧ y = .d j ∧ scD i j = true ∧ P (.d (.bool (deq i j))) rs2) : WE W (tOp rEq ta tb) sl rs P := fun F H σ k Q q =>
  two k h fun F' H' v u x y rs' s k' i1 i2 ⟨i, j, e1, e2, c, p⟩ => by
    subst e1 e2
    obtain ⟨h1, h2⟩ := sc_dq i1 i2 c
    exact ⟨h1, q F' H' _ _ rs' s k'.1 (isB _) (by rw [h2]; exact p)⟩
theorem we_ne (h : WE W ta sl rs fun x rs1 => WE W tb sl rs1 fun y rs2 => ∃ i j, x = .d i ∧ y = .d j ∧ scD i j = true ∧ P (.d (.bool (!deq i j))) rs2) : WE W (tOp rNe ta tb) sl rs P := fun F H σ k Q q =>
  two k h fun F' H' v u x y rs' s k' i1 i2 ⟨i, j, e1, e2, c, p⟩ => by
    subst e1 e2
    obtain ⟨h1, h2⟩ := sc_dq i1 i2 c
    exact ⟨h1, q F' H' _ _ rs' s k'.1 (isB _) (by rw [h2]; exact p)⟩
/-- == of data of any depth -/
theorem we_eqD {K2 : Fg} (h : WE W ta sl rs fun x rs1 => WE W tb sl rs1 fun y rs2 => ∃ i j, x = .d i ∧ y = .d j ∧ SeqAt.shaped i = true ∧ SeqAt.shaped j = true ∧ P (.d (.bool (PyData.eqv i j))) rs2) : WE W (tOp (rEqD K2) ta tb) sl rs P := fun F H σ k Q q =>
  two k h fun F' H' v u x y rs' s k' i1 i2 ⟨i, j, e1, e2, c1, c2, p⟩ => by
    subst e1 e2
    exact ⟨i, j, Dq.dp k'.1.ex (SeqAt.canLay_of_shaped c1) i1, Dq.dp k'.1.ex (SeqAt.canLay_of_shaped c2) i2, c1, c2, q F' H' _ _ rs' s k'.1 (isB _) p⟩
theorem we_neD {K2 : Fg} (h : WE W ta sl rs fun x rs1 => WE W tb sl rs1 fun y rs2 => ∃ i j, x = .d i ∧ y = .d j ∧ SeqAt.shaped i = true ∧ SeqAt.shaped j = true ∧ P (.d (.bool (!PyData.eqv i j))) rs2) : WE W (tOp (rNeD K2) ta tb) sl rs P := fun F H σ k Q q =>
  two k h fun F' H' v u x y rs' s k' i1 i2 ⟨i, j, e1, e2, c1, c2, p⟩ => by
    subst e1 e2
    exact ⟨i, j, Dq.dp k'.1.ex (SeqAt.canLay_of_shaped c1) i1, Dq.dp k'.1.ex (SeqAt.canLay_of_shaped c2) i2, c1, c2, q F' H' _ _ rs' s k'.1 (isB _) p⟩
/-- is None, is not None -/
def isNo : DV → Bool
  | .d .none => true
  | _ => false
theorem is_no {K : Fg} {F : Hp} {v : V} {x : DV} (h : Is K F v x) : decide (v = .non) = isNo x := by
  cases x with
  | d x =>
    have h' : Dq F v x := h
    cases h' <;> simp [isNo]
  | p a =>
    have h' : v = .ref a := h
    subst h'; rfl
  | ty n =>
    have h' : v = .ty n := h
    subst h'; rfl
  | scr ns =>
    obtain ⟨a, e, _⟩ := h
    subst e; rfl
theorem we_isN (h : WE W ta sl rs fun x rs1 => P (.d (.bool (isNo x))) rs1) : WE W (tIsN ta) sl rs P := fun F H σ k Q q =>
  h F H σ k _ fun F' H' v x rs' s k' i1 p => by
    rw [is_no i1]
    exact q F' H' _ _ rs' s k' (isB _) p
theorem we_notN (h : WE W ta sl rs fun x rs1 => P (.d (.bool (!isNo x))) rs1) : WE W (tNotN ta) sl rs P := fun F H σ k Q q =>
  h F H σ k _ fun F' H' v x rs' s k' i1 p => by
    rw [is_no i1]
    exact q F' H' _ _ rs' s k' (isB _) p
/-- a op b op c -/
theorem we_chainI {g g' : Int → Int → Bool} (h : WE W ta sl rs fun x rs1 => WE W tb sl rs1 fun y rs2 => ∃ i j, x = .d (.int i) ∧ y = .d (.int j) ∧
    if g i j = true then WE W tc sl rs2 fun z rs3 => ∃ l, z = .d (.int l) ∧ P (.d (.bool (g' j l))) rs3 else P (.d (.bool false)) rs2) : WE W (tChain (rI0 fun i j => .bl (g i j)) (rI0 fun i j => .bl (g' i j)) ta tb tc) sl rs P := fun F H σ k Q q =>
  two k h fun F' H' v u x y rs' s k' i1 i2 ⟨i, j, e1, e2, p⟩ => by
    subst e1 e2
    refine ⟨i, j, is_int i1, is_int i2, _, rfl, ?_⟩
    by_cases c : g i j = true
    · rw [if_pos c] at p ⊢
      exact p F' H' σ k' _ fun F2 H2 w z rs2 s2 k2 i3 ⟨l, e3, p3⟩ => by
        subst e3
        exact ⟨j, l, is_int i2, is_int i3, q F2 H2 _ _ rs2 (s.trans s2) k2 (isB _) p3⟩
    · rw [if_neg c] at p ⊢
      exact q F' H' _ _ rs' s k'.1 (isB _) p
/-- the same by == of ints -/
theorem we_chainE (h : WE W ta sl rs fun x rs1 => WE W tb sl rs1 fun y rs2 => ∃ i j, x = .d (.int i) ∧ y = .d (.int j) ∧
    if decide (i = j) = true then WE W tc sl rs2 fun z rs3 => ∃ l, z = .d (.int l) ∧ P (.d (.bool (decide (j = l)))) rs3 else P (.d (.bool false)) rs2) : WE W (tChain rEq rEq ta tb tc) sl rs P := fun F H σ k Q q =>
  two k h fun F' H' v u x y rs' s k' i1 i2 ⟨i, j, e1, e2, p⟩ => by
    subst e1 e2
    cases is_int i1
    cases is_int i2
    have hd : decide (V.int i = V.int j) = decide (i = j) := by simp
    refine ⟨rfl, decide (i = j), by rw [hd], ?_⟩
    by_cases c : decide (i = j) = true
    · rw [if_pos c] at p ⊢
      exact p F' H' σ k' _ fun F2 H2 w z rs2 s2 k2 i3 ⟨l, e3, p3⟩ => by
        subst e3
        cases is_int i3
        have hd2 : decide (V.int j = V.int l) = decide (j = l) := by simp
        exact ⟨rfl, q F2 H2 _ _ rs2 (s.trans s2) k2 (by rw [hd2]; exact isB _) p3⟩
    · rw [if_neg c] at p ⊢
      exact q F' H' _ _ rs' s k'.1 (isB _) p

/-! ### tests -/
variable {tt tu : TT} {R : Bool → Rs → Prop}
theorem wt_test (h : WE W te sl rs fun x rs1 => ∃ b, x = .d (.bool b) ∧ R b rs1) : WT W (tTest te) sl rs R := fun F H σ k Q q =>
  h F H σ k _ fun F' H' v x rs' s k' i ⟨b, e, p⟩ => by
    subst e
    exact ⟨b, is_bl i, q F' H' b rs' s k' p⟩
theorem wt_B (h : WE W te sl rs fun x rs1 => ∃ b, x = .d (.bool b) ∧ R b rs1) : WT W (tB te) sl rs R := fun F H σ k Q q =>
  h F H σ k _ fun F' H' v x rs' s k' i ⟨b, e, p⟩ => by
    subst e
    exact ⟨b, is_bl i, q F' H' b rs' s k' p⟩
theorem wt_not (h : WT W tt sl rs fun b rs1 => R (!b) rs1) : WT W (tNot tt) sl rs R := fun F H σ k Q q =>
  h F H σ k _ fun F' H' b rs' s k' p => q F' H' _ rs' s k' p
theorem wt_and (h : WT W tt sl rs fun b rs1 => if b = true then WT W tu sl rs1 R else R false rs1) : WT W (tAnd tt tu) sl rs R := fun F H σ k Q q =>
  h F H σ k _ fun F' H' b rs' s k' p => by
    try dsimp only at p
    by_cases c : b = true
    · rw [if_pos c] at p ⊢
      exact p F' H' σ (k.go s k') Q fun F2 H2 b2 rs2 s2 k2 p2 => q F2 H2 b2 rs2 (s.trans s2) k2 p2
    · rw [if_neg c] at p ⊢
      exact q F' H' _ rs' s k' p
theorem wt_or (h : WT W tt sl rs fun b rs1 => if b = true then R true rs1 else WT W tu sl rs1 R) : WT W (tOr tt tu) sl rs R := fun F H σ k Q q =>
  h F H σ k _ fun F' H' b rs' s k' p => by
    try dsimp only at p
    by_cases c : b = true
    · rw [if_pos c] at p ⊢
      exact q F' H' _ rs' s k' p
    · rw [if_neg c] at p ⊢
      exact p F' H' σ (k.go s k') Q fun F2 H2 b2 rs2 s2 k2 p2 => q F2 H2 b2 rs2 (s.trans s2) k2 p2
theorem we_andV (h : WE W ta sl rs fun x rs1 => ∃ b, x = .d (.bool b) ∧ if b = true then WE W tb sl rs1 P else P (.d (.bool false)) rs1) : WE W (tAndV ta tb) sl rs P := fun F H σ k Q q =>
  h F H σ k _ fun F' H' v x rs' s k' i ⟨b, e, p⟩ => by
    subst e
    refine ⟨b, is_bl i, ?_⟩
    try dsimp only at p
    by_cases c : b = true
    · rw [if_pos c] at p ⊢
      exact p F' H' σ (k.go s k') Q fun F2 H2 v2 x2 rs2 s2 k2 i2 p2 => q F2 H2 v2 x2 rs2 (s.trans s2) k2 i2 p2
    · rw [if_neg c] at p ⊢
      exact q F' H' _ _ rs' s k' (isB _) p
theorem we_orV (h : WE W ta sl rs fun x rs1 => ∃ b, x = .d (.bool b) ∧ if b = true then P (.d (.bool true)) rs1 else WE W tb sl rs1 P) : WE W (tOrV ta tb) sl rs P := fun F H σ k Q q =>
  h F H σ k _ fun F' H' v x rs' s k' i ⟨b, e, p⟩ => by
    subst e
    refine ⟨b, is_bl i, ?_⟩
    try dsimp only at p
    by_cases c : b = true
    · rw [if_pos c] at p ⊢
      exact q F' H' _ _ rs' s k' (isB _) p
    · rw [if_neg c] at p ⊢
      exact p F' H' σ (k.go s k') Q fun F2 H2 v2 x2 rs2 s2 k2 i2 p2 => q F2 H2 v2 x2 rs2 (s.trans s2) k2 i2 p2
theorem we_notV (h : WE W ta sl rs fun x rs1 => ∃ b, x = .d (.bool b) ∧ P (.d (.bool (!b))) rs1) : WE W (tNotV ta) sl rs P := fun F H σ k Q q =>
  h F H σ k _ fun F' H' v x rs' s k' i ⟨b, e, p⟩ => by
    subst e
    exact ⟨b, is_bl i, q F' H' _ _ rs' s k' (isB _) p⟩
theorem we_if (h : WT W tt sl rs fun b rs1 => if b = true then WE W ta sl rs1 P else WE W tb sl rs1 P) : WE W (tIf tt ta tb) sl rs P := fun F H σ k Q q =>
  h F H σ k _ fun F' H' b rs' s k' p => by
    try dsimp only at p
    by_cases c : b = true
    · rw [if_pos c] at p ⊢
      exact p F' H' σ (k.go s k') Q fun F2 H2 v2 x2 rs2 s2 k2 i2 p2 => q F2 H2 v2 x2 rs2 (s.trans s2) k2 i2 p2
    · rw [if_neg c] at p ⊢
      exact p F' H' σ (k.go s k') Q fun F2 H2 v2 x2 rs2 s2 k2 i2 p2 => q F2 H2 v2 x2 rs2 (s.trans s2) k2 i2 p2

/-! ### arguments, displays -/
variable {tr : TA} {Pa : List DV → Rs → Prop}
theorem wa_nil (h : Pa [] rs) : WA W tNil sl rs Pa := fun F H σ k Q q => q F H [] [] rs .refl k.1 .nil h
theorem wa_cons (h : WE W te sl rs fun x rs1 => WA W tr sl rs1 fun xs rs2 => Pa (x :: xs) rs2) : WA W (tCons te tr) sl rs Pa := fun F H σ k Q q =>
  h F H σ k _ fun F1 H1 v x rs1 s1 k1 i1 p1 => p1 F1 H1 σ (k.go s1 k1) _ fun F2 H2 vs xs rs2 s2 k2 i2 p2 => q F2 H2 (v :: vs) (x :: xs) rs2 (s1.trans s2) k2 (.cons (i1.up s2.up) i2) p2
/-- a tuple, a list of data -/
theorem we_tup (h : WA W tr sl rs fun xs rs1 => ∃ ds : List PyData, xs = ds.map DV.d ∧ ds.length ≤ 100000 ∧ P (.d (.tuple ds)) rs1) : WE W (tTup tr) sl rs P := fun F H σ k Q q =>
  h F H σ k _ fun F1 H1 vs xs rs1 s1 k1 i1 ⟨ds, e, hz, p⟩ => by
    subst e
    have hd := i1.dq
    refine ⟨sz_of (by rw [hd.len]; exact hz), fun a ha => ?_⟩
    exact q _ _ _ _ rs1 (s1.trans (.new k1 ha)) (k1.new ha) (isD <| Dq.tup upd_same (DqAll.up (Ex.new (k1.fn ha)) _ _ hd)) p
theorem we_lst (h : WA W tr sl rs fun xs rs1 => ∃ ds : List PyData, xs = ds.map DV.d ∧ ds.length ≤ 100000 ∧ P (.d (.list ds)) rs1) : WE W (tLst tr) sl rs P := fun F H σ k Q q =>
  h F H σ k _ fun F1 H1 vs xs rs1 s1 k1 i1 ⟨ds, e, hz, p⟩ => by
    subst e
    have hd := i1.dq
    refine ⟨sz_of (by rw [hd.len]; exact hz), fun a ha => ?_⟩
    exact q _ _ _ _ rs1 (s1.trans (.new k1 ha)) (k1.new ha) (isD <| Dq.lst upd_same (DqAll.up (Ex.new (k1.fn ha)) _ _ hd)) p
/-- a list that may change -/
theorem we_lstR (h : WA W tr sl rs fun xs rs1 => ∃ ds : List PyData, xs = ds.map DV.d ∧ ds.length ≤ 100000 ∧ ∀ a, P (.p a) ((a, .lst ds) :: rs1)) : WE W (tLst tr) sl rs P := fun F H σ k Q q =>
  h F H σ k _ fun F1 H1 vs xs rs1 s1 k1 i1 ⟨ds, e, hz, p⟩ => by
    subst e
    have hd := i1.dq
    refine ⟨sz_of (by rw [hd.len]; exact hz), fun a ha => ?_⟩
    exact q _ _ _ _ ((a, .lst ds) :: rs1) (s1.trans (.newR ha)) (k1.newR (r := .lst ds) ha ⟨vs, upd_same, hd⟩) (show Is K F1 (.ref a) (.p a) from rfl) (p a)
/-- an object that changes no more -/
theorem we_frz {a : Addr} {ds : List PyData} (h : WE W te sl rs fun x rs1 => ∃ rs2, x = .p a ∧ rs1.Perm ((a, .lst ds) :: rs2) ∧ P (.d (.list ds)) rs2) : WE W te sl rs P := fun F H σ k Q q =>
  h F H σ k _ fun F1 H1 v x rs1 s1 k1 i1 ⟨rs2, e, pm, p⟩ => by
    subst e
    have e2 : v = .ref a := i1
    subst e2
    obtain ⟨xs, hx, k2, s2, d2⟩ := (k1.perm pm).frz
    refine q _ _ _ _ rs2 (s1.trans ((s2.more fun z hz => (pm.map (·.1)).mem_iff.mpr hz))) k2 (isD d2) p
/-- fewer objects told -/
theorem we_drop {rs2 : Rs} (h : WE W te sl rs fun x rs1 => rs2.Sublist rs1 ∧ P x rs2) : WE W te sl rs P := fun F H σ k Q q =>
  h F H σ k _ fun F1 H1 v x rs1 s1 k1 i1 ⟨hs, p⟩ => q F1 H1 v x rs2 (s1.drop fun z hz => (hs.map (·.1)).subset hz) (k1.sub (k1.nd.sublist (hs.map (·.1))) fun z hz => hs.subset hz) i1 p
end
end Dl
end
section
set_option Elab.async false
set_option autoImplicit false
set_option linter.all false
set_option maxRecDepth 100000
set_option maxHeartbeats 1000000
/-! D3: statements, targets, what is walked, a def's promise by data and its call. -/
namespace Dl
open PySem PySem.Spec PyProof.Rows L2 Evl

section
variable {K : Fg} {E : XK} {W : Wd K E} {sl : Sl} {rs : Rs} {P P' : DV → Rs → Prop} {ta tb tc te : TE} {i j : Nat} {dv : DV} {N N' : Po} {ts tu : TS} {tt : TT} {g : TG} {gs : TGs}
/-! ### statements -/
theorem WS.mono (h : WS W ts sl rs N) (h1 : ∀ sl rs, N.nx sl rs → N'.nx sl rs) (h2 : ∀ dv rs, N.rt dv rs → N'.rt dv rs) (h3 : ∀ sl rs, N.bk sl rs → N'.bk sl rs) (h4 : ∀ sl rs, N.ct sl rs → N'.ct sl rs) : WS W ts sl rs N' :=
  fun F H σ D k e => h F H σ D k ⟨fun _ _ _ _ _ a b c => e.nx _ _ _ _ _ a b (h1 _ _ c), fun _ _ _ _ _ a b i c => e.rt _ _ _ _ _ a b i (h2 _ _ c), fun _ _ _ _ _ a b c => e.bk _ _ _ _ _ a b (h3 _ _ c), fun _ _ _ _ _ a b c => e.ct _ _ _ _ _ a b (h4 _ _ c)⟩
theorem ws_seq (h : WS W ts sl rs ⟨fun sl1 rs1 => WS W tu sl1 rs1 N, N.rt, N.bk, N.ct⟩) : WS W (tSeq ts tu) sl rs N := fun F H σ D k e =>
  h F H σ { D with nx := tu D } k ⟨fun F' H' σ' sl' rs' s k' n => n F' H' σ' D (k.go s k') (e.go s), e.rt, e.bk, e.ct⟩
theorem ws_next (h : N.nx sl rs) : WS W tNext sl rs N := fun F H σ D k e => e.nx F H σ sl rs .refl k.1 h
theorem ws_break (h : N.bk sl rs) : WS W tBreak sl rs N := fun F H σ D k e => e.bk F H σ sl rs .refl k.1 h
theorem ws_cont (h : N.ct sl rs) : WS W tCont sl rs N := fun F H σ D k e => e.ct F H σ sl rs .refl k.1 h
theorem ws_drop (h : WE W te sl rs fun _ rs1 => N.nx sl rs1) : WS W (tDrop te) sl rs N := fun F H σ D k e =>
  h F H σ k _ fun F' H' v dv rs' s k' i p => e.nx F' H' σ sl rs' s k' p
theorem ws_ret (h : WE W te sl rs N.rt) : WS W (tRet te) sl rs N := fun F H σ D k e =>
  h F H σ k _ fun F' H' v dv rs' s k' i p => e.rt F' H' v dv rs' s k'.none i p
theorem ws_retN (h : N.rt (.d .none) rs) : WS W tRetN sl rs N := fun F H σ D k e => e.rt F H _ _ rs .refl k.1.none isN h
theorem ws_if (h : WT W tt sl rs fun b rs1 => if b = true then WS W ts sl rs1 N else WS W tu sl rs1 N) : WS W (tIfS tt ts tu) sl rs N := fun F H σ D k e =>
  h F H σ k _ fun F' H' b rs' s k' p => by
    try dsimp only at p
    by_cases c : b = true
    · rw [if_pos c] at p ⊢
      exact p F' H' σ D (k.go s k') (e.go s)
    · rw [if_neg c] at p ⊢
      exact p F' H' σ D (k.go s k') (e.go s)
theorem ws_asg (h : WE W te sl rs fun dv rs1 => WG W g dv sl rs1 N.nx) : WS W (tAsg te g) sl rs N := fun F H σ D k e =>
  h F H σ k _ fun F' H' v dv rs' s k' i p => p F' H' σ v (k.go s k') i _ fun F2 H2 σ2 sl2 rs2 s2 k2 n => e.nx F2 H2 σ2 sl2 rs2 (s.trans s2) k2 n
theorem ws_set (h : WE W te sl rs fun dv rs1 => N.nx (sl.set i (some dv)) rs1) : WS W (tAsg te (gName i)) sl rs N := fun F H σ D k e =>
  h F H σ k _ fun F' H' v dv rs' s k' i p => e.nx F' H' _ _ rs' s (k'.set i) p
theorem ws_par {tr : TA} (h : WA W tr sl rs fun xs rs1 => ∃ x y, xs = [x, y] ∧ N.nx ((sl.set i (some x)).set j (some y)) rs1) : WS W (tPar i j tr) sl rs N := fun F H σ D k e =>
  h F H σ k _ fun F' H' vs xs rs' s k' i ⟨x, y, ex, p⟩ => by
    subst ex
    cases i with
    | cons i1 r =>
      cases r with
      | cons i2 r =>
        cases r
        exact ⟨_, _, rfl, e.nx F' H' _ _ rs' s ((k'.set i1).set i2) p⟩
theorem ws_aug {f : Int → Int → Int} (h0 : sl[i]? = some (some dv)) (h : WE W te sl rs fun y rs1 => ∃ a b, dv = .d (.int a) ∧ y = .d (.int b) ∧ N.nx (sl.set i (some (.d (.int (f a b))))) rs1) : WS W (tAug i te (ipI f)) sl rs N := fun F H σ D k e => by
  obtain ⟨v, hv, iv⟩ := k.1.gs i dv h0
  refine ⟨v, hv, h F H σ k _ fun F' H' u y rs' s k' i1 ⟨a, b, e1, e2, p⟩ => ?_⟩
  subst e1 e2
  exact ⟨a, b, is_int iv, is_int i1, e.nx F' H' _ _ rs' s (k'.set (isI _)) p⟩
theorem ws_augR {f : Int → Int → Int} {C : Int → Int → Prop} (h0 : sl[i]? = some (some dv)) (h : WE W te sl rs fun y rs1 => ∃ a b, dv = .d (.int a) ∧ y = .d (.int b) ∧ C a b ∧ N.nx (sl.set i (some (.d (.int (f a b))))) rs1) : WS W (tAug i te (rI C fun a b => .int (f a b))) sl rs N := fun F H σ D k e => by
  obtain ⟨v, hv, iv⟩ := k.1.gs i dv h0
  refine ⟨v, hv, h F H σ k _ fun F' H' u y rs' s k' i1 ⟨a, b, e1, e2, c, p⟩ => ?_⟩
  subst e1 e2
  exact ⟨a, b, is_int iv, is_int i1, c, e.nx F' H' _ _ rs' s (k'.set (isI _)) p⟩

/-! ### targets -/
variable {R : Sl → Rs → Prop}
theorem wg_name (h : R (sl.set i (some dv)) rs) : WG W (gName i) dv sl rs R := fun F H σ v k iv Q q => q F H _ _ rs .refl (k.1.set iv) h
theorem wg_tup {K2 : Fg} {n : Nat} (h : ∃ ds, dv = .d (.tuple ds) ∧ ds.length = n ∧ WGs W gs ds sl rs R) : WG W (gTup K2 n gs) dv sl rs R := fun F H σ v k iv Q q => by
  obtain ⟨ds, e, hl, p⟩ := h
  subst e
  obtain ⟨a, xs, e, ha, hd⟩ := is_tup iv
  exact ⟨a, xs, e, st_of (k.1.ex _ _ ha), by rw [hd.len]; exact hl, p F H σ xs k hd Q q⟩
theorem wgs_nil (h : R sl rs) : WGs W gNil [] sl rs R := fun F H σ vs k hd Q q => by
  cases hd
  exact ⟨rfl, q F H σ sl rs .refl k.1 h⟩
theorem wgs_cons {d : PyData} {ds : List PyData} (h : WG W g (.d d) sl rs fun sl1 rs1 => WGs W gs ds sl1 rs1 R) : WGs W (gCons g gs) (d :: ds) sl rs R := fun F H σ vs k hd Q q => by
  cases hd with
  | @cons v vs _ _ h1 h2 =>
    exact ⟨v, vs, rfl, h F H σ v k h1 _ fun F1 H1 σ1 sl1 rs1 s1 k1 p1 => p1 F1 H1 σ1 vs (k.go s1 k1) (DqAll.up s1.up _ _ h2) Q fun F2 H2 σ2 sl2 rs2 s2 k2 p2 => q F2 H2 σ2 sl2 rs2 (s1.trans s2) k2 p2⟩

/-! ### while -/
theorem ws_while (Iv : Nat → Sl → Rs → Prop) (m : Nat) (h0 : Iv m sl rs)
    (hs : ∀ m sl rs, Iv m sl rs → WT W tt sl rs fun b rs1 => if b = true then WS W ts sl rs1 ⟨fun sl2 rs2 => ∃ m', m' < m ∧ Iv m' sl2 rs2, N.rt, N.nx, fun sl2 rs2 => ∃ m', m' < m ∧ Iv m' sl2 rs2⟩ else N.nx sl rs1) : WS W (tWhile tt ts) sl rs N := fun F H σ D k e => by
  refine ⟨fun m σ' H' => ∃ F' sl' rs', Stp F H rs F' H' rs' ∧ KnL K F' H' σ' sl' rs' ∧ Iv m sl' rs', ⟨m, F, sl, rs, .refl, k.1, h0⟩, ?_⟩
  rintro m σ1 H1 ⟨F1, sl1, rs1, s1, k1, w1⟩
  refine hs m sl1 rs1 w1 F1 H1 σ1 (k.go s1 k1) _ fun F2 H2 b rs2 s2 k2 p => ?_
  try dsimp only at p
  by_cases c : b = true
  · rw [if_pos c] at p ⊢
    refine ⟨fun σ' H' => ∃ m', m' < m ∧ ∃ F' sl' rs', Stp F H rs F' H' rs' ∧ KnL K F' H' σ' sl' rs' ∧ Iv m' sl' rs', fun σ' H' h => h, ?_⟩
    have en := (e.go (s1.trans s2))
    refine p F2 H2 σ1 _ (k.go (s1.trans s2) k2) ⟨fun F3 H3 σ3 sl3 rs3 s3 k3 ⟨m', hm, w3⟩ => ⟨m', hm, F3, sl3, rs3, (s1.trans s2).trans s3, k3, w3⟩, en.rt, en.nx, fun F3 H3 σ3 sl3 rs3 s3 k3 ⟨m', hm, w3⟩ => ⟨m', hm, F3, sl3, rs3, (s1.trans s2).trans s3, k3, w3⟩⟩
  · rw [if_neg c] at p ⊢
    exact e.nx F2 H2 σ1 sl1 rs2 (s1.trans s2) k2 p
end

/-! ### what is walked -/
/-- nothing, or one new object -/
def Gr (F H F' H' : Hp) : Prop := (F' = F ∧ H' = H) ∨ ∃ a o, H a = none ∧ F' = upd F a o ∧ H' = upd H a o
/-- the items xs, one by one -/
def ItOk (F : Hp) (J : It) (xs : List PyData) : Prop := ∀ (F1 H1 : Hp), Up F F1 → Up F1 H1 → ∀ i : Nat,
  (∀ d, xs[i]? = some d → J.go i H1 ∧ ∀ x H2, J.yld i H1 x H2 → ∃ F2, Gr F1 H1 F2 H2 ∧ Dq F2 x d) ∧ (i = xs.length → J.stop i H1)
def WI {K : Fg} {E : XK} (W : Wd K E) (wi : TI) (sl : Sl) (rs : Rs) (P : List PyData → Rs → Prop) : Prop :=
  ∀ (F H : Hp) (σ : L2.St), Kn W F H σ sl rs → ∀ Q : It → Hp → Prop, (∀ (F' H' : Hp) (J : It) (xs : List PyData) (rs' : Rs), Stp F H rs F' H' rs' → KnL K F' H' σ sl rs' → ItOk F' J xs → P xs rs' → Q J H') → wi σ H Q
theorem Gr.kn {K : Fg} {F H F' H' : Hp} {σ : L2.St} {sl : Sl} {rs : Rs} (g : Gr F H F' H') (k : KnL K F H σ sl rs) : KnL K F' H' σ sl rs ∧ Stp F H rs F' H' rs := by
  rcases g with ⟨rfl, rfl⟩ | ⟨a, o, h, rfl, rfl⟩
  · exact ⟨k, .refl⟩
  · exact ⟨k.new h, .new k h⟩
section
variable {K : Fg} {E : XK} {W : Wd K E} {sl : Sl} {rs : Rs} {P P' : DV → Rs → Prop} {ta tb tc te : TE} {i j : Nat} {dv : DV} {N N' : Po} {ts tu : TS} {tt : TT} {g : TG} {gs : TGs} {wi : TI} {tr : TA} {R : List PyData → Rs → Prop} {K2 : Fg}
theorem ws_for (Iv : Nat → Sl → Rs → Prop) (xs : List PyData) (h : WI W wi sl rs fun ys rs1 => ys = xs ∧ Iv 0 sl rs1)
    (hs : ∀ i d sl rs, xs[i]? = some d → Iv i sl rs → WG W g (.d d) sl rs fun sl2 rs2 => WS W ts sl2 rs2 ⟨Iv (i + 1), N.rt, N.nx, Iv (i + 1)⟩) (hd : ∀ sl rs, Iv xs.length sl rs → N.nx sl rs) : WS W (tFor wi g ts) sl rs N := fun F H σ D k e =>
  h F H σ k _ fun F1 H1 J ys rs1 s1 k1 it ⟨ey, w0⟩ => by
    subst ey
    refine ⟨fun i m σ' H' => m = ys.length - i ∧ i ≤ ys.length ∧ ∃ F' sl' rs', Stp F1 H1 rs1 F' H' rs' ∧ KnL K F' H' σ' sl' rs' ∧ Iv i sl' rs', ⟨_, rfl, Nat.zero_le _, F1, sl, rs1, .refl, k1, w0⟩, ?_⟩
    rintro i m σ2 H2 ⟨rfl, hi, F2, sl2, rs2, s2, k2, w2⟩
    obtain ⟨t1, t2⟩ := it F2 H2 s2.up k2.ex i
    by_cases hlt : i < ys.length
    · have hx : ys[i]? = some ys[i] := List.getElem?_eq_getElem hlt
      obtain ⟨go, yl⟩ := t1 _ hx
      refine .inr ⟨go, fun σ' H' => ∃ F' sl' rs', Stp F1 H1 rs1 F' H' rs' ∧ KnL K F' H' σ' sl' rs' ∧ Iv (i + 1) sl' rs', fun σ' H' ⟨F', sl', rs', a, b, c⟩ => ⟨ys.length - (i + 1), by omega, rfl, hlt, F', sl', rs', a, b, c⟩, fun x H3 y3 => ?_⟩
      obtain ⟨F3, g3, d3⟩ := yl x H3 y3
      obtain ⟨k3, s3⟩ := g3.kn k2
      refine hs i _ sl2 rs2 hx w2 F3 H3 σ2 x (k.go ((s1.trans s2).trans s3) k3) (isD d3) _ fun F4 H4 σ4 sl4 rs4 s4 k4 p4 => ?_
      have s14 := (s2.trans s3).trans s4
      have en := e.go (s1.trans s14)
      exact p4 F4 H4 σ4 _ (k.go (s1.trans s14) k4) ⟨fun F5 H5 σ5 sl5 rs5 s5 k5 w5 => ⟨F5, sl5, rs5, s14.trans s5, k5, w5⟩, en.rt, en.nx, fun F5 H5 σ5 sl5 rs5 s5 k5 w5 => ⟨F5, sl5, rs5, s14.trans s5, k5, w5⟩⟩
    · have hie : i = ys.length := by omega
      exact .inl ⟨t2 hie, e.nx F2 H2 σ2 sl2 rs2 (s1.trans s2) k2 (hd sl2 rs2 (hie ▸ w2))⟩
theorem wi_tup (h : WE W te sl rs fun x rs1 => ∃ ds, x = .d (.tuple ds) ∧ R ds rs1) : WI W (iTup K2 te) sl rs R := fun F H σ k Q q =>
  h F H σ k _ fun F1 H1 v x rs1 s1 k1 i1 ⟨ds, e, p⟩ => by
    subst e
    obtain ⟨a, xs, e, ha, hd⟩ := is_tup i1
    refine ⟨a, e, ⟨xs, st_of (k1.ex _ _ ha)⟩, q F1 H1 _ ds rs1 s1 k1 (fun F2 H2 u1 u2 i => ⟨fun d hx => ?_, fun hi => ⟨xs, st_of (u2 _ _ (u1 _ _ ha)), by rw [hd.len]; omega⟩⟩) p⟩
    obtain ⟨z, hz, dz⟩ := hd.get hx
    have hst : SqT K2 H2 a xs := st_of (u2 _ _ (u1 _ _ ha))
    exact ⟨⟨xs, z, hst, hz⟩, fun y H3 ⟨e3, hy⟩ => ⟨F2, .inl ⟨rfl, e3⟩, by
      have h2 := hy xs hst
      rw [hz] at h2
      cases h2
      exact Dq.up u1 _ _ dz⟩⟩
theorem wi_lst (h : WE W te sl rs fun x rs1 => ∃ ds, x = .d (.list ds) ∧ R ds rs1) : WI W (iList K2 te) sl rs R := fun F H σ k Q q =>
  h F H σ k _ fun F1 H1 v x rs1 s1 k1 i1 ⟨ds, e, p⟩ => by
    subst e
    obtain ⟨a, xs, e, ha, hd⟩ := is_lst i1
    refine ⟨a, e, ⟨xs, sq_of (k1.ex _ _ ha)⟩, q F1 H1 _ ds rs1 s1 k1 (fun F2 H2 u1 u2 i => ⟨fun d hx => ?_, fun hi => ⟨xs, sq_of (u2 _ _ (u1 _ _ ha)), by rw [hd.len]; omega⟩⟩) p⟩
    obtain ⟨z, hz, dz⟩ := hd.get hx
    have hst : SqL K2 H2 a xs := sq_of (u2 _ _ (u1 _ _ ha))
    exact ⟨⟨xs, z, hst, hz⟩, fun y H3 ⟨e3, hy⟩ => ⟨F2, .inl ⟨rfl, e3⟩, by
      have h2 := hy xs hst
      rw [hz] at h2
      cases h2
      exact Dq.up u1 _ _ dz⟩⟩
/-- lo, lo + 1, .. -/
def rgD (lo : Int) (n : Nat) : List PyData := (List.range n).map fun i => PyData.int (lo + (i : Nat))
theorem rgD_len (lo : Int) (n : Nat) : (rgD lo n).length = n := by unfold rgD; rw [List.length_map, List.length_range]
theorem rgD_at {lo : Int} {n i : Nat} {d : PyData} (h : (rgD lo n)[i]? = some d) : i < n ∧ d = .int (lo + (i : Nat)) := by
  unfold rgD at h
  rw [List.getElem?_map] at h
  cases e : (List.range n)[i]? with
  | none => rw [e] at h; cases h
  | some m =>
    rw [e] at h
    obtain ⟨hlt, hm⟩ := List.getElem?_eq_some_iff.mp e
    rw [List.length_range] at hlt
    rw [List.getElem_range] at hm
    subst hm
    exact ⟨hlt, (Option.some.inj h).symm⟩
theorem itr_ok {F : Hp} (lo : Int) (n : Nat) : ItOk F (Itr lo n) (rgD lo n) := fun F1 H1 _ _ i => by
  refine ⟨fun d hx => ?_, fun hi => ?_⟩
  · obtain ⟨hlt, e⟩ := rgD_at hx
    subst e
    exact ⟨hlt, fun x H2 ⟨e1, e2⟩ => ⟨F1, .inl ⟨rfl, e1⟩, by rw [e2]; exact Dq.int _⟩⟩
  · rw [rgD_len] at hi
    exact Nat.le_of_eq hi.symm
theorem wi_rng1 (h : WA W tr sl rs fun xs rs1 => ∃ n : Int, xs = [.d (.int n)] ∧ -1000000 ≤ n ∧ n ≤ 1000000 ∧ R (rgD 0 n.toNat) rs1) : WI W (iRng1 tr) sl rs R := fun F H σ k Q q =>
  h F H σ k _ fun F1 H1 vs xs rs1 s1 k1 i1 ⟨n, e, h1, h2, p⟩ => by
    subst e
    cases i1 with
    | cons i1 r =>
      cases r
      cases is_int i1
      exact ⟨n, rfl, by omega, by omega, q F1 H1 _ _ rs1 s1 k1 (itr_ok 0 n.toNat) p⟩
theorem wi_rng2 (h : WA W tr sl rs fun xs rs1 => ∃ a b : Int, xs = [.d (.int a), .d (.int b)] ∧ 0 ≤ a ∧ a ≤ 1000000 ∧ 0 ≤ b ∧ b ≤ 1000000 ∧ R (rgD a (b - a).toNat) rs1) : WI W (iRng2 tr) sl rs R := fun F H σ k Q q =>
  h F H σ k _ fun F1 H1 vs xs rs1 s1 k1 i1 ⟨a, b, e, h1, h2, h3, h4, p⟩ => by
    subst e
    cases i1 with
    | cons i1 r =>
      cases r with
      | cons i2 r =>
        cases r
        cases is_int i1
        cases is_int i2
        exact ⟨a, b, rfl, ⟨by omega, by omega, by omega, by omega⟩, q F1 H1 _ _ rs1 s1 k1 (itr_ok a (b - a).toNat) p⟩

/-! ### comprehensions -/
def wipeS (sl : Sl) : List Nat → Sl
  | [] => sl
  | v :: vs => (wipeS sl vs).set v Option.none
theorem wipeS_len (sl : Sl) : ∀ vs : List Nat, (wipeS sl vs).length = sl.length
  | [] => rfl
  | v :: vs => by unfold wipeS; rw [List.length_set, wipeS_len sl vs]
theorem KnL.wipe {F H : Hp} {σ : L2.St} (k : KnL K F H σ sl rs) (vs : List Nat) : KnL K F H (L2.wipe σ vs) (wipeS sl vs) rs := by
  induction vs with
  | nil => exact k
  | cons v vs ih =>
    refine ih.slots (fun i dv e => ?_) ?_
    · have e' : ((wipeS sl vs).set v Option.none)[i]? = some (some dv) := e
      by_cases hij : v = i
      · subst hij
        by_cases hlt : v < (wipeS sl vs).length
        · rw [List.getElem?_set_self hlt] at e'
          cases e'
        · rw [List.getElem?_eq_none (by rw [List.length_set]; omega)] at e'
          cases e'
      · rw [List.getElem?_set_ne hij] at e'
        obtain ⟨u, h1, h2⟩ := ih.gs i dv e'
        exact ⟨u, by show ((L2.wipe σ vs).set v Option.none)[i]? = _; rw [List.getElem?_set_ne hij]; exact h1, h2⟩
    · show ((L2.wipe σ vs).set v Option.none).length = ((wipeS sl vs).set v Option.none).length
      rw [List.length_set, List.length_set]
      exact ih.ln
end
end Dl
end
section
set_option Elab.async false
set_option autoImplicit false
set_option linter.all false
set_option maxRecDepth 100000
set_option maxHeartbeats 1000000
/-! D4: comprehensions, fields, a def's promise by data and its call, the built-ins. -/
namespace Dl
open PySem PySem.Spec PyProof.Rows L2 Evl

/-! ### targets that store in some slots alone -/
theorem wipe_at (σ : L2.St) (i : Nat) : ∀ vs : List Nat, (L2.wipe σ vs)[i]? = if i ∈ vs then (if i < σ.length then some none else none) else σ[i]?
  | [] => by rw [if_neg (by simp)]; rfl
  | v :: vs => by
    have ih := wipe_at σ i vs
    show ((L2.wipe σ vs).set v none)[i]? = _
    by_cases h : v = i
    · subst h
      rw [if_pos List.mem_cons_self]
      by_cases hl : v < σ.length
      · rw [List.getElem?_set_self (by rw [L2.wipe_length]; exact hl), if_pos hl]
      · rw [if_neg hl, List.getElem?_eq_none (by rw [List.length_set, L2.wipe_length]; omega)]
    · rw [List.getElem?_set_ne h, ih]
      by_cases hm : i ∈ vs
      · rw [if_pos hm, if_pos (List.mem_cons_of_mem _ hm)]
      · rw [if_neg hm, if_neg (fun z => (List.mem_cons.mp z).elim (fun e => h e.symm) hm)]
theorem wipe_set {σ : L2.St} {j : Nat} {x : Option V} {vs : List Nat} (h : j ∈ vs) : L2.wipe (σ.set j x) vs = L2.wipe σ vs := by
  refine List.ext_getElem? fun i => ?_
  rw [wipe_at, wipe_at, List.length_set]
  by_cases hm : i ∈ vs
  · rw [if_pos hm, if_pos hm]
  · rw [if_neg hm, if_neg hm, List.getElem?_set_ne (fun e : j = i => hm (by rw [← e]; exact h))]
theorem wipe_wipe (σ : L2.St) (vs : List Nat) : L2.wipe (L2.wipe σ vs) vs = L2.wipe σ vs := by
  refine List.ext_getElem? fun i => ?_
  rw [wipe_at, wipe_at, L2.wipe_length]
  by_cases hm : i ∈ vs
  · rw [if_pos hm, if_pos hm]
  · rw [if_neg hm, if_neg hm]
def Own (vs : List Nat) (g : TG) : Prop := ∀ (v : V) (σ : L2.St) (H : Hp) (Q : L2.St → Hp → Prop), g v σ H Q → g v σ H fun σ' H' => L2.wipe σ' vs = L2.wipe σ vs ∧ Q σ' H'
def OwnS (vs : List Nat) (g : TGs) : Prop := ∀ (us : List V) (σ : L2.St) (H : Hp) (Q : L2.St → Hp → Prop), g us σ H Q → g us σ H fun σ' H' => L2.wipe σ' vs = L2.wipe σ vs ∧ Q σ' H'
theorem own_name {vs : List Nat} {j : Nat} (h : j ∈ vs) : Own vs (gName j) := fun v σ H Q q => ⟨wipe_set h, q⟩
theorem owns_nil {vs : List Nat} : OwnS vs gNil := fun us σ H Q ⟨e, q⟩ => ⟨e, rfl, q⟩
theorem own_tup {vs : List Nat} {K2 : Fg} {n : Nat} {gs : TGs} (h : OwnS vs gs) : Own vs (gTup K2 n gs) := fun v σ H Q ⟨a, xs, e, h1, h2, q⟩ => ⟨a, xs, e, h1, h2, h xs σ H Q q⟩
/-- targets leave what is wanted behind them alone -/
def MonoG (g : TG) : Prop := ∀ (v : V) (σ : L2.St) (H : Hp) (Q Q' : L2.St → Hp → Prop), (∀ σ' H', Q σ' H' → Q' σ' H') → g v σ H Q → g v σ H Q'
def MonoGs (g : TGs) : Prop := ∀ (us : List V) (σ : L2.St) (H : Hp) (Q Q' : L2.St → Hp → Prop), (∀ σ' H', Q σ' H' → Q' σ' H') → g us σ H Q → g us σ H Q'
theorem mg_name {j : Nat} : MonoG (gName j) := fun v σ H Q Q' f q => f _ _ q
theorem mgs_nil : MonoGs gNil := fun us σ H Q Q' f ⟨e, q⟩ => ⟨e, f _ _ q⟩
theorem mgs_cons {g : TG} {gs : TGs} (h1 : MonoG g) (h2 : MonoGs gs) : MonoGs (gCons g gs) := fun us σ H Q Q' f ⟨v, r, e, q⟩ => ⟨v, r, e, h1 v σ H _ _ (fun σ' H' q' => h2 r σ' H' Q Q' f q') q⟩
theorem mg_tup {K2 : Fg} {n : Nat} {gs : TGs} (h : MonoGs gs) : MonoG (gTup K2 n gs) := fun v σ H Q Q' f ⟨a, xs, e, h1, h2, q⟩ => ⟨a, xs, e, h1, h2, h xs σ H Q Q' f q⟩
theorem owns_cons {vs : List Nat} {g : TG} {gs : TGs} (m : MonoG g) (m2 : MonoGs gs) (h1 : Own vs g) (h2 : OwnS vs gs) : OwnS vs (gCons g gs) := fun us σ H Q ⟨v, r, e, q⟩ => by
  refine ⟨v, r, e, m v σ H _ _ (fun σ' H' ⟨e1, q'⟩ => ?_) (h1 v σ H _ q)⟩
  exact m2 r σ' H' _ _ (fun σ2 H2 ⟨e2, q2⟩ => ⟨e2.trans e1, q2⟩) (h2 r σ' H' Q q')

section
variable {K : Fg} {E : XK} {W : Wd K E} {sl : Sl} {rs : Rs} {P P' : DV → Rs → Prop} {ta tb tc te : TE} {i j : Nat} {dv : DV} {N N' : Po} {ts tu : TS} {tt : TT} {g : TG} {gs : TGs} {wi : TI} {tr : TA} {K2 : Fg}
theorem KnL.later2 {F H F' H' : Hp} {σ σ' : L2.St} {sl' : Sl} {rs1 rs2 rs' : Rs} (k : KnL K F H σ sl (rs1 ++ rs2)) (s : Stp F H rs1 F' H' rs') (k' : KnL K F' H' σ' sl' rs') : KnL K F' H' σ' sl' (rs' ++ rs2) :=
  (k.later s k'.none).slots k'.gs k'.ln
/-- within a comprehension whose new list stands at D -/
def LcIn (K : Fg) (F H : Hp) (rs : Rs) (σ : L2.St) (sl : Sl) (D : Addr) (Iv : Nat → List PyData → Rs → Prop) (i : Nat) (H' : Hp) : Prop :=
  ∃ (F' : Hp) (acc : List PyData) (rs' : Rs), Stp F H rs F' H' (rs' ++ [(D, .lst acc)]) ∧ KnL K F' H' σ sl (rs' ++ [(D, .lst acc)]) ∧ Iv i acc rs'
theorem at_end {rs2 : Rs} {x : Addr × Res} : (rs2 ++ [x])[rs2.length]? = some x := by simp
theorem set_end {rs2 : Rs} {x y : Addr × Res} : (rs2 ++ [x]).set rs2.length y = rs2 ++ [y] := by simp
/-- [e for target in ys if t] -/
theorem we_lc {vs : List Nat} (Iv : Nat → List PyData → Rs → Prop) (ys : List PyData) (own : Own vs g) (h : WI W wi sl rs fun xs rs1 => xs = ys ∧ Iv 0 [] rs1)
    (hs : ∀ i d acc rs', ys[i]? = some d → Iv i acc rs' → WG W g (.d d) (wipeS sl vs) rs' fun sl2 rs2 => WT W tt sl2 rs2 fun b rs3 => if b = true then WE W te sl2 rs3 fun y rs4 => ∃ yd, y = .d yd ∧ acc.length < 100000 ∧ Iv (i + 1) (acc ++ [yd]) rs4 else Iv (i + 1) acc rs3)
    (hd : ∀ acc rs', Iv ys.length acc rs' → P (.d (.list acc)) rs') : WE W (tLc wi g tt te vs) sl rs P := fun F H σ k Q q =>
  h F H σ k _ fun F1 H1 J xs rs1 s1 k1 it ⟨ey, w0⟩ => by
    subst ey
    intro D hD
    have start : LcIn K F1 H1 rs1 σ sl D Iv 0 (upd H1 D (.lst [])) := by
      have p : ((D, Res.lst []) :: rs1).Perm (rs1 ++ [(D, .lst [])]) := List.perm_append_singleton _ _ |>.symm
      exact ⟨F1, [], rs1, (Stp.newR (F := F1) (rs := rs1) (o := .lst []) (r := .lst []) hD).drop fun z hz => (p.map (·.1)).mem_iff.mpr hz, (k1.newR (r := .lst []) hD ⟨[], upd_same, .nil⟩).perm p, w0⟩
    refine ⟨fun i m H' => m = xs.length - i ∧ i ≤ xs.length ∧ LcIn K F1 H1 rs1 σ sl D Iv i H', ⟨_, rfl, Nat.zero_le _, start⟩, ?_⟩
    rintro i m H2 ⟨rfl, hi, F2, acc, rs2, s2, k2, w2⟩
    obtain ⟨t1, t2⟩ := it F2 H2 s2.up k2.ex i
    have dropD : ∀ {F' H' : Hp} {acc : List PyData} {rs' : Rs}, Stp F1 H1 rs1 F' H' (rs' ++ [(D, .lst acc)]) → Stp F H rs F' H' rs' := fun {F' H' acc rs'} a => s1.trans (a.drop fun z hz => by rw [List.map_append]; exact List.mem_append_left _ hz)
    have kd : KnL K F2 H2 σ sl rs2 := k2.sub (k2.nd.sublist (by rw [List.map_append]; exact List.sublist_append_left _ _)) fun z hz => List.mem_append_left _ hz
    by_cases hlt : i < xs.length
    · have hx : xs[i]? = some xs[i] := List.getElem?_eq_getElem hlt
      obtain ⟨go, yl⟩ := t1 _ hx
      refine .inr ⟨go, LcIn K F1 H1 rs1 σ sl D Iv (i + 1), fun H' h => ⟨xs.length - (i + 1), by omega, rfl, hlt, h⟩, fun x H3 y3 => ?_⟩
      obtain ⟨F3, g3, d3⟩ := yl x H3 y3
      obtain ⟨k3, s3⟩ := g3.kn k2
      have s13 := s2.trans s3
      have kd3 : KnL K F3 H3 (L2.wipe σ vs) (wipeS sl vs) rs2 := ((g3.kn kd).1).wipe vs
      have z := own x (L2.wipe σ vs) H3 _ (hs i _ acc rs2 hx w2 F3 H3 (L2.wipe σ vs) x ⟨kd3, k.2.trans (dropD s13)⟩ (isD d3) (fun σ2 H4 => tt σ2 H4 fun b H5 => if b = true then te σ2 H5 fun y H6 => ∃ acc, H6 D = some (.lst acc) ∧ acc.length < sizeLine ∧ LcIn K F1 H1 rs1 σ sl D Iv (i + 1) (upd H6 D (.lst (acc ++ [y]))) else LcIn K F1 H1 rs1 σ sl D Iv (i + 1) H5) fun F4 H4 σ4 sl4 rs4 s4 k4 p4 => ?_)
      · rw [wipe_wipe] at z
        exact z
      -- behind the target
      have k4D : KnL K F4 H4 σ sl (rs4 ++ [(D, .lst acc)]) := k3.later s4 k4.none
      have s14 := s13.trans (Stp.later k3 s4)
      refine p4 F4 H4 σ4 ⟨k4, k.2.trans (dropD s14)⟩ _ fun F5 H5 b rs5 s5 k5 p5 => ?_
      try dsimp only at p5
      have k5D : KnL K F5 H5 σ sl (rs5 ++ [(D, .lst acc)]) := k4D.later s5 k5.none
      have s15 := s14.trans (Stp.later k4D s5)
      by_cases c : b = true
      · rw [if_pos c] at p5 ⊢
        refine p5 F5 H5 σ4 ⟨k5, k.2.trans (dropD s15)⟩ _ fun F6 H6 y dy rs6 s6 k6 i6 ⟨yd, e6, hz, w6⟩ => ?_
        subst e6
        have k6D : KnL K F6 H6 σ sl (rs6 ++ [(D, .lst acc)]) := k5D.later s6 k6.none
        have s16 := s15.trans (Stp.later k5D s6)
        obtain ⟨accV, ha, hda⟩ := (k6D.gr (D, .lst acc) (by simp)).2
        refine ⟨accV, ha, sz_lt (by rw [hda.len]; exact hz), F6, acc ++ [yd], rs6, ?_, ?_, w6⟩
        · have := s16.trans (Stp.wr (o := .lst (accV ++ [y])) (r' := .lst (acc ++ [yd])) k6D (at_end (rs2 := rs6)))
          rw [set_end] at this
          exact this
        · have := k6D.wr (o := .lst (accV ++ [y])) (r' := .lst (acc ++ [yd])) (at_end (rs2 := rs6)) ⟨accV ++ [y], upd_same, hda.app (.cons i6 .nil)⟩
          rw [set_end] at this
          exact this
      · rw [if_neg c] at p5 ⊢
        exact ⟨F5, acc, rs5, s15, k5D, p5⟩
    · have hie : i = xs.length := by omega
      have p : (rs2 ++ [(D, Res.lst acc)]).Perm ((D, .lst acc) :: rs2) := List.perm_append_singleton _ _
      obtain ⟨ys, hy, k4, s4, d4⟩ := (k2.perm p).frz
      refine .inl ⟨t2 hie, q _ H2 _ _ rs2 ((s1.trans s2).trans (s4.more fun z hz => (p.map (·.1)).mem_iff.mpr hz)) k4 (isD d4) (hd acc rs2 (hie ▸ w2))⟩
end
end Dl
end
section
set_option Elab.async false
set_option autoImplicit false
set_option linter.all false
set_option maxRecDepth 100000
set_option maxHeartbeats 1000000
/-! D5: a def's promise by data and its call, fields, the built-ins. -/
namespace Dl
open PySem PySem.Spec PyProof.Rows L2 Evl

/-- a promise by data: the arguments, the objects that may change, what is wanted of the answer, what of an error -/
abbrev Dsp := List DV → Rs → (DV → Rs → Prop) → (Addr → PyData → Rs → Prop) → Prop
def toSp (K : Fg) (f : Dsp) : Sp := fun vs H Q E => ∃ (F : Hp) (xs : List DV) (rs : Rs) (P : DV → Rs → Prop) (X : Addr → PyData → Rs → Prop), KnL K F H [] [] rs ∧ IsAll K F vs xs ∧ f xs rs P X ∧
  (∀ (F' H' : Hp) (v : V) (dv : DV) (rs' : Rs), Stp F H rs F' H' rs' → KnL K F' H' [] [] rs' → Is K F' v dv → P dv rs' → Q v H') ∧
  (∀ (F' H' : Hp) (C : Addr) (x : PyData) (xv : V) (dd : Addr) (rs' : Rs), Stp F H rs F' H' rs' → KnL K F' H' [] [] rs' → X C x rs' → H' dd = some (.xd [("at", xv)]) → Dq F' xv x → E (.ref C) (some dd) H')
def startS (N : List Str) (xs : List DV) : Sl := xs.map some ++ List.replicate (N.length - xs.length) none
theorem toSp_len {K : Fg} {f : Dsp} {n : Nat} (h : ∀ xs rs P X, f xs rs P X → xs.length = n) : ∀ vs H Q E, toSp K f vs H Q E → vs.length = n := fun vs H Q E ⟨F, xs, rs, P, X, _, i, hf, _, _⟩ => i.len.trans (h xs rs P X hf)
/-- a def's body -/
theorem to_body {K : Fg} {f : Dsp} {vs : List V} {H : Hp} {Q : VK} {E : XK} {t : TS} {N : List Str} (h : toSp K f vs H Q E)
    (hb : ∀ (W : Wd K E) (xs : List DV) (rs : Rs) (P : DV → Rs → Prop), f xs rs P W.X → WS W t (startS N xs) rs ⟨fun _ rs1 => P (.d .none) rs1, P, fun _ _ => False, fun _ _ => False⟩) : t { nx := fun _ H' => Q .non H', rt := Q } (L2.start N vs) H := by
  obtain ⟨F, xs, rs, P, X, k, i, hf, hp, hx⟩ := h
  refine hb ⟨F, H, rs, X, hx⟩ xs rs P hf F H (L2.start N vs) _ ⟨?_, .refl⟩ ⟨fun F' H' σ' sl' rs' s k' n => hp F' H' _ _ rs' s k'.none isN n, fun F' H' v dv rs' s k' iv n => hp F' H' v dv rs' s k' iv n, fun _ _ _ _ _ _ _ n => n, fun _ _ _ _ _ _ _ n => n⟩
  have hl := i.len
  refine k.slots (fun j dv e => ?_) ?_
  · have hj : j < xs.length := by
      unfold startS at e
      by_cases hj : j < xs.length
      · exact hj
      · rw [List.getElem?_append_right (by rw [List.length_map]; omega), List.getElem?_replicate] at e
        split at e <;> cases e
    unfold startS at e
    rw [List.getElem?_append_left (by rw [List.length_map]; exact hj), List.getElem?_map] at e
    cases ex : xs[j]? with
    | none => rw [ex] at e; cases e
    | some x =>
      rw [ex] at e
      cases e
      obtain ⟨v, hv, iv⟩ := i.get ex
      refine ⟨v, ?_, iv⟩
      unfold L2.start
      rw [List.getElem?_append_left (by rw [List.length_map, hl]; exact hj), List.getElem?_map, hv]
      rfl
  · unfold L2.start startS
    rw [List.length_append, List.length_append, List.length_map, List.length_map, List.length_replicate, List.length_replicate, hl]

section
variable {K : Fg} {E : XK} {W : Wd K E} {sl : Sl} {rs : Rs} {P P' : DV → Rs → Prop} {ta tb tc te : TE} {i j : Nat} {dv : DV} {N N' : Po} {ts tu : TS} {tt : TT} {g : TG} {gs : TGs} {wi : TI} {tr : TA} {K2 : Fg} {f : Dsp}
/-- what a callee leaves, for the caller -/
theorem call_core {F H : Hp} {σ : L2.St} {rs sub rest : Rs} {vs : List V} {xs : List DV} {Q : VK} {E' : XK} {X : Addr → PyData → Rs → Prop} (k : Kn W F H σ sl rs) (ix : IsAll K F vs xs) (pm : rs.Perm (sub ++ rest)) (hf : f xs sub (fun dv rs' => P dv (rs' ++ rest)) X)
    (q : ∀ (F' H' : Hp) (v : V) (dv : DV) (rs' : Rs), Stp F H rs F' H' rs' → KnL K F' H' σ sl rs' → Is K F' v dv → P dv rs' → Q v H')
    (hx : ∀ (F' H' : Hp) (C : Addr) (x : PyData) (xv : V) (dd : Addr) (rs' : Rs), Stp F H rs F' H' (rs' ++ rest) → KnL K F' H' σ sl (rs' ++ rest) → X C x rs' → H' dd = some (.xd [("at", xv)]) → Dq F' xv x → E' (.ref C) (some dd) H') : toSp K f vs H Q E' := by
  have kp := k.1.perm pm
  have ks : KnL K F H [] [] sub := (kp.sub (kp.nd.sublist (by rw [List.map_append]; exact List.sublist_append_left _ _)) fun z hz => List.mem_append_left _ hz).none
  have more : ∀ {F' H' : Hp} {rs' : Rs}, Stp F H sub F' H' rs' → Stp F H rs F' H' (rs' ++ rest) := fun {F' H' rs'} s => (Stp.later kp s).more fun z hz => (pm.map (·.1)).mem_iff.mpr hz
  exact ⟨F, xs, sub, _, X, ks, ix, hf, fun F' H' v dv rs' s k' iv p => q F' H' v dv _ (more s) (kp.later s k') iv p, fun F' H' C x xv dd rs' s k' hX e d => hx F' H' C x xv dd rs' (more s) (kp.later s k') hX e d⟩
/-- f(..), nothing is raised -/
theorem we_call (h : WA W tr sl rs fun xs rs1 => ∃ sub rest, rs1.Perm (sub ++ rest) ∧ f xs sub (fun dv rs' => P dv (rs' ++ rest)) (fun _ _ _ => False)) : WE W (tCall (toSp K f) [] E0 tr) sl rs P := fun F H σ k Q q =>
  h F H σ k _ fun F1 H1 vs xs rs1 s1 k1 i1 ⟨sub, rest, pm, hf⟩ => by
    rw [List.append_nil]
    exact call_core (W := W) (P := P) (k.go s1 k1) i1 pm hf (fun F' H' v dv rs' s k' iv p => q F' H' v dv rs' (s1.trans s) k' iv p) fun _ _ _ _ _ _ _ _ _ hX => hX.elim
/-- f(..), what is raised is this def's -/
theorem we_callX (h : WA W tr sl rs fun xs rs1 => ∃ sub rest, rs1.Perm (sub ++ rest) ∧ f xs sub (fun dv rs' => P dv (rs' ++ rest)) (fun C x rs' => W.X C x (rs' ++ rest))) : WE W (tCall (toSp K f) [] E tr) sl rs P := fun F H σ k Q q =>
  h F H σ k _ fun F1 H1 vs xs rs1 s1 k1 i1 ⟨sub, rest, pm, hf⟩ => by
    rw [List.append_nil]
    exact call_core (W := W) (P := P) (k.go s1 k1) i1 pm hf (fun F' H' v dv rs' s k' iv p => q F' H' v dv rs' (s1.trans s) k' iv p) fun F' H' C x xv dd rs' s k' hX e d =>
      W.xo F' H' C x xv dd _ ((k.go s1 k1).2.trans s) k'.none hX e d

/-! ### instances -/
/-- the object at a, as told -/
def At (rs : Rs) (a : Addr) (r : Res) : Prop := ∃ i : Nat, rs[i]? = some (a, r)
theorem at0 {a : Addr} {r : Res} {l : Rs} : At ((a, r) :: l) a r := ⟨0, rfl⟩
theorem at1 {a : Addr} {r : Res} {x : Addr × Res} {l : Rs} : At (x :: (a, r) :: l) a r := ⟨1, rfl⟩
theorem at2 {a : Addr} {r : Res} {x y : Addr × Res} {l : Rs} : At (x :: y :: (a, r) :: l) a r := ⟨2, rfl⟩
theorem we_fld {fn : Str} (h : WE W ta sl rs fun x rs1 => ∃ a C fs d, x = .p a ∧ At rs1 a (.obj C fs) ∧ Cls K2 C ∧ NoAttr K2 C fn ∧ fs.lookup fn = some d ∧ P (.d d) rs1) : WE W (tFld K2 ta fn) sl rs P := fun F H σ k Q q =>
  h F H σ k _ fun F1 H1 v x rs1 s1 k1 i1 ⟨a, C, fs, d, e, ⟨j, hj⟩, c, n, l, p⟩ => by
    subst e
    obtain ⟨dx, vs, h1, h2⟩ := (k1.gr _ (List.mem_of_getElem? hj)).2
    obtain ⟨u, h3, h4⟩ := h2.get l
    exact ⟨a, C, dx, vs, u, i1, h1, c, n, h3, q F1 H1 u _ rs1 s1 k1 (isD h4) p⟩
theorem ws_fld {fn : Str} (h : WE W tb sl rs fun y rs1 => ∃ d, y = .d d ∧ WE W ta sl rs1 fun x rs2 => ∃ a C fs j, x = .p a ∧ rs2[j]? = some (a, .obj C fs) ∧ Cls K2 C ∧ NoAttr K2 C fn ∧ fs.length < 1000 ∧ N.nx sl (rs2.set j (a, .obj C (putD fn d fs)))) : WS W (sFld K2 ta tb fn) sl rs N := fun F H σ D k e =>
  h F H σ k _ fun F1 H1 u y rs1 s1 k1 i1 ⟨d, ey, p1⟩ => by
    subst ey
    refine p1 F1 H1 σ (k.go s1 k1) _ fun F2 H2 v x rs2 s2 k2 i2 ⟨a, C, fs, j, ex, hj, c, n, l, p⟩ => ?_
    subst ex
    obtain ⟨dx, vs, h1, h2⟩ := (k2.gr _ (List.mem_of_getElem? hj)).2
    exact ⟨a, C, dx, vs, i2, h1, c, n, by rw [h2.len]; exact l, e.nx F2 _ σ sl _ ((s1.trans s2).trans (.wr k2 hj)) (k2.wr (r' := .obj C (putD fn d fs)) hj ⟨dx, _, upd_same, h2.put (Dq.up s2.up _ _ i1)⟩) p⟩
/-- o.f += e, of ints -/
theorem ws_fldaug {fn : Str} (h : WE W ta sl rs fun x rs1 => ∃ a C fs m, x = .p a ∧ At rs1 a (.obj C fs) ∧ Cls K2 C ∧ NoAttr K2 C fn ∧ fs.lookup fn = some (.int m) ∧ fs.length < 1000 ∧
    WE W tb sl rs1 fun y rs2 => ∃ n j, y = .d (.int n) ∧ rs2[j]? = some (a, .obj C fs) ∧ N.nx sl (rs2.set j (a, .obj C (putD fn (.int (m + n)) fs)))) : WS W (sFldAug K2 ta tb L2.rAdd fn) sl rs N := fun F H σ D k e =>
  h F H σ k _ fun F1 H1 v x rs1 s1 k1 i1 ⟨a, C, fs, m, ex, ⟨j, hj⟩, c, n, l, hl, p1⟩ => by
    subst ex
    obtain ⟨dx, vs, h1, h2⟩ := (k1.gr _ (List.mem_of_getElem? hj)).2
    obtain ⟨u, h3, h4⟩ := h2.get l
    refine ⟨a, C, dx, vs, u, i1, h1, c, n, h3, p1 F1 H1 σ (k.go s1 k1) _ fun F2 H2 w y rs2 s2 k2 i2 ⟨z, j2, ey, hj2, p⟩ => ?_⟩
    subst ey
    cases h4
    obtain ⟨dx2, vs2, g1, g2⟩ := (k2.gr _ (List.mem_of_getElem? hj2)).2
    exact ⟨m, z, rfl, is_int i2, dx2, vs2, g1, by rw [g2.len]; exact hl, e.nx F2 _ σ sl _ ((s1.trans s2).trans (.wr k2 hj2)) (k2.wr (r' := .obj C (putD fn (.int (m + z)) fs)) hj2 ⟨dx2, _, upd_same, g2.put (.int _)⟩) p⟩
/-- o.m(..) -/
theorem we_methX {C : Addr} {m : Str} (h : WE W ta sl rs fun x rs1 => ∃ a fs, x = .p a ∧ At rs1 a (.obj C fs) ∧ fs.lookup m = none ∧ WA W tr sl rs1 fun xs rs2 => ∃ sub rest, rs2.Perm (sub ++ rest) ∧ f (.p a :: xs) sub (fun dv rs' => P dv (rs' ++ rest)) (fun C x rs' => W.X C x (rs' ++ rest))) :
    WE W (tMeth C m (toSp K f) [] E ta tr) sl rs P := fun F H σ k Q q =>
  h F H σ k _ fun F1 H1 v x rs1 s1 k1 i1 ⟨a, fs, ex, ⟨j, hj⟩, l, p1⟩ => by
    subst ex
    obtain ⟨dx, vs, h1, h2⟩ := (k1.gr _ (List.mem_of_getElem? hj)).2
    refine ⟨a, dx, vs, i1, h1, h2.none l, p1 F1 H1 σ (k.go s1 k1) _ fun F2 H2 us xs rs2 s2 k2 i2 ⟨sub, rest, pm, hf⟩ => ?_⟩
    rw [List.append_nil]
    exact call_core (W := W) (P := P) (k.go (s1.trans s2) k2) (IsAll.cons (i1.up s2.up) i2) pm hf (fun F' H' v dv rs' s k' iv p => q F' H' v dv rs' ((s1.trans s2).trans s) k' iv p) fun F' H' C x xv dd rs' s k' hX e d =>
      W.xo F' H' C x xv dd _ ((k.go (s1.trans s2) k2).2.trans s) k'.none hX e d
/-- C(..) -/
theorem we_make {C : Addr} (h : WA W tr sl rs fun xs rs1 => ∀ a, f (.p a :: xs) [(a, .obj C [])] (fun dv rs' => dv = .d .none ∧ P (.p a) (rs' ++ rs1)) (fun _ _ _ => False)) : WE W (tMake C (toSp K f) [] E0 tr) sl rs P := fun F H σ k Q q =>
  h F H σ k _ fun F1 H1 vs xs rs1 s1 k1 i1 hf => by
    intro x dx hx hdx hne
    rw [List.append_nil]
    have k2 : KnL K F1 (upd H1 dx (.own x)) σ sl rs1 := by
      refine ⟨fun a u e => ?_, k1.gs, k1.ln, fun z hz => ⟨(k1.gr z hz).1, (k1.gr z hz).2.up (Ex.refl F1) (upd_ne fun e => k1.nr hdx (e ▸ List.mem_map.mpr ⟨z, hz, rfl⟩))⟩, k1.nd⟩
      rw [upd_ne (ne_of_none e (k1.fn hdx))]
      exact k1.ex a u e
    have s2 : Stp F1 H1 rs1 F1 (upd H1 dx (.own x)) rs1 := ⟨Ex.refl F1, fun a u e _ => by rw [upd_ne (ne_of_none e hdx)]; exact e, fun a e => by
      by_cases hb : a = dx
      · rw [hb]; exact hdx
      · rw [upd_ne hb] at e; exact e, fun a h _ _ => h, fun _ m => .inl m⟩
    have hx2 : upd H1 dx (.own x) x = none := by rw [upd_ne (Ne.symm hne)]; exact hx
    have k3 := k2.newR (r := .obj C []) (o := .ins C dx []) hx2 ⟨dx, [], upd_same, .nil⟩
    have s3 := s2.trans (Stp.newR (F := F1) (rs := rs1) (r := .obj C []) (o := .ins C dx []) hx2)
    refine call_core (W := W) (P := fun dv rs' => dv = .d .none ∧ P (.p x) rs') (k.go (s1.trans s3) k3) (IsAll.cons (show Is K F1 (.ref x) (.p x) from rfl) i1) (List.Perm.refl _ : ((x, Res.obj C []) :: rs1).Perm ([(x, .obj C [])] ++ rs1)) (hf x) (fun F' H' v dv rs' s k' iv ⟨e, p⟩ => ?_) fun _ _ _ _ _ _ _ _ _ hX => hX.elim
    subst e
    exact ⟨is_non iv, q F' H' (.ref x) (.p x) rs' ((s1.trans s3).trans s) k' rfl p⟩

/-! ### lists and tuples read -/
inductive LstOf (rs : Rs) : DV → List PyData → Prop
  | d (ds : List PyData) : LstOf rs (.d (.list ds)) ds
  | p {a : Addr} {ds : List PyData} : At rs a (.lst ds) → LstOf rs (.p a) ds
theorem LstOf.get {F H : Hp} {σ : L2.St} {v : V} {x : DV} {ds : List PyData} (l : LstOf rs x ds) (k : KnL K F H σ sl rs) (h : Is K F v x) : ∃ a xs, v = .ref a ∧ H a = some (.lst xs) ∧ DqAll F xs ds := by
  cases l with
  | d ds =>
    obtain ⟨a, xs, e, ha, hd⟩ := is_lst h
    exact ⟨a, xs, e, k.ex _ _ ha, hd⟩
  | @p a ds hj =>
    obtain ⟨j, hj⟩ := hj
    obtain ⟨xs, h1, h2⟩ := (k.gr _ (List.mem_of_getElem? hj)).2
    exact ⟨a, xs, h, h1, h2⟩
inductive SeqOf (rs : Rs) : DV → List PyData → Prop
  | l {x : DV} {ds : List PyData} : LstOf rs x ds → SeqOf rs x ds
  | t (ds : List PyData) : SeqOf rs (.d (.tuple ds)) ds
theorem SeqOf.get {F H : Hp} {σ : L2.St} {v : V} {x : DV} {ds : List PyData} (l : SeqOf rs x ds) (k : KnL K F H σ sl rs) (h : Is K F v x) : ∃ a xs, v = .ref a ∧ (SqL K2 H a xs ∨ SqT K2 H a xs) ∧ DqAll F xs ds := by
  cases l with
  | l hl =>
    obtain ⟨a, xs, e, h1, h2⟩ := hl.get k h
    exact ⟨a, xs, e, .inl (SqL.of h1), h2⟩
  | t ds =>
    obtain ⟨a, xs, e, ha, hd⟩ := is_tup h
    exact ⟨a, xs, e, .inr (SqT.of (k.ex _ _ ha)), hd⟩
/-- len(x) -/
theorem we_len (h : WA W tr sl rs fun xs rs1 => ∃ x ds, xs = [x] ∧ SeqOf rs1 x ds ∧ P (.d (.int (ds.length : Nat))) rs1) : WE W (tCB (fun xs H Q => ∃ p ys, xs = [.ref p] ∧ (SqL K2 H p ys ∨ SqT K2 H p ys) ∧ Q (.int ys.length) H) tr) sl rs P := fun F H σ k Q q =>
  h F H σ k _ fun F1 H1 vs xs rs1 s1 k1 i1 ⟨x, ds, e, l, p⟩ => by
    subst e
    cases i1 with
    | cons i1 r =>
      cases r
      obtain ⟨a, ys, e, h1, h2⟩ := l.get k1 i1
      exact ⟨a, ys, by rw [e], h1, by rw [h2.len]; exact q F1 H1 _ _ rs1 s1 k1 (isI _) p⟩
/-- len(script) -/
theorem we_lenS (h : WA W tr sl rs fun xs rs1 => ∃ ns, xs = [.scr ns] ∧ P (.d (.int (ns.length : Nat))) rs1) : WE W (tCB (fun xs H Q => ∃ p ys, xs = [.ref p] ∧ (SqL K H p ys ∨ SqT K H p ys) ∧ Q (.int ys.length) H) tr) sl rs P := fun F H σ k Q q =>
  h F H σ k _ fun F1 H1 vs xs rs1 s1 k1 i1 ⟨ns, e, p⟩ => by
    subst e
    cases i1 with
    | cons i1 r =>
      cases r
      obtain ⟨a, e, h1⟩ := i1
      exact ⟨a, _, by rw [e], .inl (ex_l k1.ex h1), by rw [List.length_map]; exact q F1 H1 _ _ rs1 s1 k1 (isI _) p⟩
/-- tuple(x) -/
theorem we_tuple (h : WA W tr sl rs fun xs rs1 => ∃ x ds, xs = [x] ∧ SeqOf rs1 x ds ∧ P (.d (.tuple ds)) rs1) : WE W (tCB (fun xs H Q => ∃ p ys, xs = [.ref p] ∧ ((SqL K2 H p ys ∧ ∀ l, H l = none → Q (.ref l) (upd H l (.tup ys))) ∨ (SqT K2 H p ys ∧ Q (.ref p) H))) tr) sl rs P := fun F H σ k Q q =>
  h F H σ k _ fun F1 H1 vs xs rs1 s1 k1 i1 ⟨x, ds, e, l, p⟩ => by
    subst e
    cases i1 with
    | cons i1 r =>
      cases r
      cases l with
      | l hl =>
        obtain ⟨a, ys, e, h1, h2⟩ := hl.get k1 i1
        refine ⟨a, ys, by rw [e], .inl ⟨SqL.of h1, fun b hb => ?_⟩⟩
        exact q _ _ _ _ rs1 (s1.trans (.new k1 hb)) (k1.new hb) (isD <| Dq.tup upd_same (DqAll.up (Ex.new (k1.fn hb)) _ _ h2)) p
      | t ds =>
        obtain ⟨a, ys, e, ha, hd⟩ := is_tup i1
        exact ⟨a, ys, by rw [e], .inr ⟨SqT.of (k1.ex _ _ ha), q F1 H1 _ _ rs1 s1 k1 (isD <| Dq.tup ha hd) p⟩⟩
/-- x[i] -/
theorem we_ixT (h : WE W ta sl rs fun x rs1 => WE W tb sl rs1 fun y rs2 => ∃ ds n d, x = .d (.tuple ds) ∧ y = .d (.int n) ∧ atI ds n = some d ∧ P (.d d) rs2) : WE W (tOp (rIxT K2) ta tb) sl rs P := fun F H σ k Q q =>
  two k h fun F' H' v u x y rs' s k' i1 i2 ⟨ds, n, d, e1, e2, hat, p⟩ => by
    subst e1 e2
    obtain ⟨a, xs, e, ha, hd⟩ := is_tup i1
    obtain ⟨z, h1, h2⟩ : ∃ z, atI xs n = some z ∧ Dq F' z d := by
      unfold atI at hat ⊢
      rw [hd.len]
      cases hj : ixN ds.length n with
      | none => rw [hj] at hat; cases hat
      | some j =>
        rw [hj] at hat
        exact hd.get hat
    exact ⟨a, xs, n, z, e, is_int i2, SqT.of (k'.1.ex _ _ ha), h1, q F' H' _ _ rs' s k'.1 (isD h2) p⟩
theorem we_ixL (h : WE W ta sl rs fun x rs1 => WE W tb sl rs1 fun y rs2 => ∃ ds n d, LstOf rs2 x ds ∧ y = .d (.int n) ∧ atI ds n = some d ∧ P (.d d) rs2) : WE W (tOp (rIxL K2) ta tb) sl rs P := fun F H σ k Q q =>
  two k h fun F' H' v u x y rs' s k' i1 i2 ⟨ds, n, d, l, e2, hat, p⟩ => by
    subst e2
    obtain ⟨a, xs, e, ha, hd⟩ := l.get k'.1 i1
    obtain ⟨z, h1, h2⟩ : ∃ z, atI xs n = some z ∧ Dq F' z d := by
      unfold atI at hat ⊢
      rw [hd.len]
      cases hj : ixN ds.length n with
      | none => rw [hj] at hat; cases hat
      | some j =>
        rw [hj] at hat
        exact hd.get hat
    exact ⟨a, xs, n, z, e, is_int i2, SqL.of ha, h1, q F' H' _ _ rs' s k'.1 (isD h2) p⟩
/-- script[i] -/
theorem we_ixS (h : WE W ta sl rs fun x rs1 => WE W tb sl rs1 fun y rs2 => ∃ ns n m, x = .scr ns ∧ y = .d (.int n) ∧ atI ns n = some m ∧ P (.d (.int m)) rs2) : WE W (tOp (rIxL K) ta tb) sl rs P := fun F H σ k Q q =>
  two k h fun F' H' v u x y rs' s k' i1 i2 ⟨ns, n, m, e1, e2, hat, p⟩ => by
    subst e1 e2
    obtain ⟨a, e, h1⟩ := i1
    have h2 : atI (ns.map V.int) n = some (.int m) := by
      unfold atI at hat ⊢
      rw [List.length_map]
      cases hj : ixN ns.length n with
      | none => rw [hj] at hat; cases hat
      | some j =>
        rw [hj] at hat
        have hat : ns[j]? = some m := hat
        show (ns.map V.int)[j]? = some (.int m)
        rw [List.getElem?_map, hat]
        rfl
    exact ⟨a, _, n, _, e, is_int i2, ex_l k'.1.ex h1, h2, q F' H' _ _ rs' s k'.1 (isI m) p⟩
/-- parts of a slice -/
def WO (W : Wd K E) (to : TO) (sl : Sl) (rs : Rs) (P : Option Int → Rs → Prop) : Prop :=
  ∀ (F H : Hp) (σ : L2.St), Kn W F H σ sl rs → ∀ Q : Option Int → Hp → Prop, (∀ (F' H' : Hp) (o : Option Int) (rs' : Rs), Stp F H rs F' H' rs' → KnL K F' H' σ sl rs' → P o rs' → Q o H') → to σ H Q
variable {Po' : Option Int → Rs → Prop} {tl th : TO}
theorem wo_none (h : Po' none rs) : WO W tNoPart sl rs Po' := fun F H σ k Q q => q F H none rs .refl k.1 h
theorem wo_some (h : WE W te sl rs fun x rs1 => ∃ n, x = .d (.int n) ∧ Po' (some n) rs1) : WO W (tPart te) sl rs Po' := fun F H σ k Q q =>
  h F H σ k _ fun F' H' v x rs' s k' i ⟨n, e, p⟩ => by
    subst e
    exact ⟨n, is_int i, q F' H' _ rs' s k' p⟩
def cutD (ds : List PyData) (lo hi : Option Int) : List PyData := (ds.drop (HT.sIx ds.length 0 lo)).take (HT.sIx ds.length ds.length hi - HT.sIx ds.length 0 lo)
theorem cut_dq {F : Hp} {xs : List V} {ds : List PyData} (h : DqAll F xs ds) (lo hi : Option Int) : DqAll F (cutV xs lo hi) (cutD ds lo hi) := by
  unfold cutV cutD
  rw [h.len]
  exact (h.drop _).take _
theorem cutD_take {ds : List PyData} {n : Int} (h : 0 ≤ n) : cutD ds none (some n) = ds.take n.toNat := by
  unfold cutD
  show (ds.drop 0).take ((if n < 0 then (n + (ds.length : Int)).toNat else min n.toNat ds.length) - 0) = _
  rw [if_neg (by omega), List.drop_zero, Nat.sub_zero]
  by_cases hl : n.toNat ≤ ds.length
  · rw [Nat.min_eq_left hl]
  · rw [Nat.min_eq_right (by omega), List.take_length, List.take_of_length_le (by omega)]
theorem cutD_drop {ds : List PyData} {n : Int} (h : 0 ≤ n) : cutD ds (some n) none = ds.drop n.toNat := by
  unfold cutD
  show (ds.drop (if n < 0 then (n + (ds.length : Int)).toNat else min n.toNat ds.length)).take (ds.length - (if n < 0 then (n + (ds.length : Int)).toNat else min n.toNat ds.length)) = _
  rw [if_neg (by omega)]
  by_cases hl : n.toNat ≤ ds.length
  · rw [Nat.min_eq_left hl, List.take_of_length_le (by rw [List.length_drop]; omega)]
  · rw [Nat.min_eq_right (by omega), List.drop_length, List.drop_of_length_le (by omega)]
    simp
theorem we_slT (h : WE W te sl rs fun x rs1 => ∃ ds, x = .d (.tuple ds) ∧ WO W tl sl rs1 fun lo rs2 => WO W th sl rs2 fun hi rs3 => P (.d (.tuple (cutD ds lo hi))) rs3) : WE W (tSl (rSlA K2) te tl th) sl rs P := fun F H σ k Q q =>
  h F H σ k _ fun F1 H1 v x rs1 s1 k1 i1 ⟨ds, e, p1⟩ => by
    subst e
    obtain ⟨a, xs, e, ha, hd⟩ := is_tup i1
    refine p1 F1 H1 σ (k.go s1 k1) _ fun F2 H2 lo rs2 s2 k2 p2 => p2 F2 H2 σ (k.go (s1.trans s2) k2) _ fun F3 H3 hi rs3 s3 k3 p3 => ?_
    have s := (s1.trans s2).trans s3
    have ha3 := s3.up _ _ (s2.up _ _ ha)
    have hd3 := DqAll.up s3.up _ _ (DqAll.up s2.up _ _ hd)
    refine ⟨a, xs, e, SqT.of (k3.ex _ _ ha3), fun hw => ?_, fun _ b hb => ?_⟩
    · have e2 : cutD ds lo hi = ds := by
        unfold cutD
        rw [← hd.len, hw.1, hw.2, List.drop_zero, Nat.sub_zero, hd.len, List.take_length]
      dsimp only at p3
      rw [e2] at p3
      exact q F3 H3 _ _ rs3 s k3 (isD <| Dq.tup ha3 hd3) p3
    · exact q _ _ _ _ rs3 (s.trans (.new k3 hb)) (k3.new hb) (isD <| Dq.tup upd_same (DqAll.up (Ex.new (k3.fn hb)) _ _ (cut_dq hd3 lo hi))) p3
theorem we_slL (h : WE W te sl rs fun x rs1 => WO W tl sl rs1 fun lo rs2 => WO W th sl rs2 fun hi rs3 => ∃ ds, LstOf rs3 x ds ∧ P (.d (.list (cutD ds lo hi))) rs3) : WE W (tSl (rSlL K2) te tl th) sl rs P := fun F H σ k Q q =>
  h F H σ k _ fun F1 H1 v x rs1 s1 k1 i1 p1 => by
    refine p1 F1 H1 σ (k.go s1 k1) _ fun F2 H2 lo rs2 s2 k2 p2 => p2 F2 H2 σ (k.go (s1.trans s2) k2) _ fun F3 H3 hi rs3 s3 k3 ⟨ds, l, p3⟩ => ?_
    have s := (s1.trans s2).trans s3
    obtain ⟨a, xs, e, ha, hd⟩ := l.get k3 ((i1.up s2.up).up s3.up)
    exact ⟨a, xs, e, SqL.of ha, fun b hb => q _ _ _ _ rs3 (s.trans (.new k3 hb)) (k3.new hb) (isD <| Dq.lst upd_same (DqAll.up (Ex.new (k3.fn hb)) _ _ (cut_dq hd lo hi))) p3⟩
/-- x[::-1] -/
theorem we_revR (h : WE W te sl rs fun x rs1 => ∃ ds, LstOf rs1 x ds ∧ ∀ a, P (.p a) ((a, .lst ds.reverse) :: rs1)) : WE W (tRevL K2 te) sl rs P := fun F H σ k Q q =>
  h F H σ k _ fun F1 H1 v x rs1 s1 k1 i1 ⟨ds, l, p⟩ => by
    obtain ⟨a, xs, e, ha, hd⟩ := l.get k1 i1
    exact ⟨a, xs, e, SqL.of ha, fun b hb => q F1 _ _ (.p b) _ (s1.trans (.newR hb)) (k1.newR (r := .lst ds.reverse) hb ⟨xs.reverse, upd_same, hd.rev⟩) rfl (p b)⟩
theorem we_rev (h : WE W te sl rs fun x rs1 => ∃ ds, LstOf rs1 x ds ∧ P (.d (.list ds.reverse)) rs1) : WE W (tRevL K2 te) sl rs P := fun F H σ k Q q =>
  h F H σ k _ fun F1 H1 v x rs1 s1 k1 i1 ⟨ds, l, p⟩ => by
    obtain ⟨a, xs, e, ha, hd⟩ := l.get k1 i1
    exact ⟨a, xs, e, SqL.of ha, fun b hb => q _ _ _ _ rs1 (s1.trans (.new k1 hb)) (k1.new hb) (isD <| Dq.lst upd_same (DqAll.up (Ex.new (k1.fn hb)) _ _ hd.rev)) p⟩
/-- x + y of tuples -/
theorem we_catT (h : WE W ta sl rs fun x rs1 => WE W tb sl rs1 fun y rs2 => ∃ ds es, x = .d (.tuple ds) ∧ y = .d (.tuple es) ∧ ds.length + es.length ≤ 100000 ∧ P (.d (.tuple (ds ++ es))) rs2) : WE W (tOp (rCatA K2) ta tb) sl rs P := fun F H σ k Q q =>
  two k h fun F' H' v u x y rs' s k' i1 i2 ⟨ds, es, e1, e2, hz, p⟩ => by
    subst e1 e2
    obtain ⟨a, xs, e, ha, hd⟩ := is_tup i1
    obtain ⟨b, ys, e2, hb, he⟩ := is_tup i2
    refine ⟨a, b, xs, ys, e, e2, SqT.of (k'.1.ex _ _ ha), SqT.of (k'.1.ex _ _ hb), sz_of (by rw [hd.len, he.len]; exact hz), fun z => ?_, fun _ z => ?_, fun _ _ c hc => ?_⟩
    · subst z
      cases hd
      exact q F' H' _ _ rs' s k'.1 (isD <| Dq.tup hb he) p
    · subst z
      cases he
      rw [List.append_nil] at p
      exact q F' H' _ _ rs' s k'.1 (isD <| Dq.tup ha hd) p
    · exact q _ _ _ _ rs' (s.trans (.new k'.1 hc)) (k'.1.new hc) (isD <| Dq.tup upd_same (DqAll.up (Ex.new (k'.1.fn hc)) _ _ (hd.app he))) p
/-- x + y of lists -/
theorem we_catL (h : WE W ta sl rs fun x rs1 => WE W tb sl rs1 fun y rs2 => ∃ ds es, LstOf rs2 x ds ∧ LstOf rs2 y es ∧ ds.length + es.length ≤ 100000 ∧ P (.d (.list (ds ++ es))) rs2) : WE W (tOp rCat ta tb) sl rs P := fun F H σ k Q q =>
  two k h fun F' H' v u x y rs' s k' i1 i2 ⟨ds, es, l1, l2, hz, p⟩ => by
    obtain ⟨a, xs, e, ha, hd⟩ := l1.get k'.1 i1
    obtain ⟨b, ys, e2, hb, he⟩ := l2.get k'.1 i2
    exact ⟨a, b, xs, ys, e, e2, ha, hb, sz_of (by rw [hd.len, he.len]; exact hz), fun c hc => q _ _ _ _ rs' (s.trans (.new k'.1 hc)) (k'.1.new hc) (isD <| Dq.lst upd_same (DqAll.up (Ex.new (k'.1.fn hc)) _ _ (hd.app he))) p⟩
theorem we_catLR (h : WE W ta sl rs fun x rs1 => WE W tb sl rs1 fun y rs2 => ∃ ds es, LstOf rs2 x ds ∧ LstOf rs2 y es ∧ ds.length + es.length ≤ 100000 ∧ ∀ a, P (.p a) ((a, .lst (ds ++ es)) :: rs2)) : WE W (tOp rCat ta tb) sl rs P := fun F H σ k Q q =>
  two k h fun F' H' v u x y rs' s k' i1 i2 ⟨ds, es, l1, l2, hz, p⟩ => by
    obtain ⟨a, xs, e, ha, hd⟩ := l1.get k'.1 i1
    obtain ⟨b, ys, e2, hb, he⟩ := l2.get k'.1 i2
    exact ⟨a, b, xs, ys, e, e2, ha, hb, sz_of (by rw [hd.len, he.len]; exact hz), fun c hc => q F' _ _ (.p c) _ (s.trans (.newR hc)) (k'.1.newR (r := .lst (ds ++ es)) hc ⟨_, upd_same, hd.app he⟩) rfl (p c)⟩
/-- t * n -/
theorem we_repT (h : WE W ta sl rs fun x rs1 => WE W tb sl rs1 fun y rs2 => ∃ ds n, x = .d (.tuple ds) ∧ y = .d (.int n) ∧ ds ≠ [] ∧ 2 ≤ n ∧ n ≤ 1000 ∧ ds.length ≤ 1000 ∧ P (.d (.tuple (List.replicate n.toNat ds).flatten)) rs2) : WE W (tOp (rRepT K2) ta tb) sl rs P := fun F H σ k Q q =>
  two k h fun F' H' v u x y rs' s k' i1 i2 ⟨ds, n, e1, e2, hne, h2, h3, hz, p⟩ => by
    subst e1 e2
    obtain ⟨a, xs, e, ha, hd⟩ := is_tup i1
    refine ⟨a, n, xs, e, is_int i2, SqT.of (k'.1.ex _ _ ha), fun z => ?_, h2, h3, by rw [hd.len]; exact hz, fun c hc => ?_⟩
    · subst z
      cases hd
      exact hne rfl
    · exact q _ _ _ _ rs' (s.trans (.new k'.1 hc)) (k'.1.new hc) (isD <| Dq.tup upd_same (DqAll.up (Ex.new (k'.1.fn hc)) _ _ (hd.rep _))) p
end
end Dl
end
section
set_option Elab.async false
set_option autoImplicit false
set_option linter.all false
set_option maxRecDepth 100000
set_option maxHeartbeats 1000000
/-! R1: enumerate of a tuple, zip of a tuple and a list, as what a loop or a comprehension walks. -/
namespace Rx
open PySem PySem.Spec PyProof.Rows L2

theorem two_of {c : Addr} {P : Addr → Prop} {a b : Addr} (h : c ∈ [a, b]) (ha : P a) (hb : P b) : P c := by
  rcases List.mem_cons.mp h with z | z
  · rw [z]; exact ha
  · rw [List.mem_singleton.mp z]; exact hb
/-- the tuple at a, each item in a new pair with its number -/
def ItE (K : PySem.W.Frag) (a : Addr) : It where
  go := fun i H => ∃ xs x, SqT K H a xs ∧ xs[i]? = some x
  yld := fun i H v H' => ∃ T x, v = V.ref T ∧ H T = Option.none ∧ H' = upd H T (.tup [.int (i : Nat), x]) ∧ ∀ xs, SqT K H a xs → xs[i]? = some x
  stop := fun i H => ∃ xs, SqT K H a xs ∧ xs.length = i

set_option maxHeartbeats 2000000 in
theorem enum_meets {v : Value} {o : Obj} {Hd : Heap → Prop} (B : Begins v o Hd) :
    Meets (Builtin.«enumerate.__new__» ⟨[.type "enumerate", v], []⟩) (fun _ R s => Hd s.heap ∧
      R (.ok (.ret (.ref (s.heap.push o).objs.size))) { s with heap := (s.heap.push o).push { cls := .type "enumerate", data := .fields #[.none, .bool false, .ref s.heap.objs.size, rawInt 0, .none, .none] } }) :=
  .of_wp fun prog w A R s ⟨h1, hr⟩ => by
    obtain ⟨hp, g, dr, tk, os⟩ := s
    have hsub := sub_enumerate
    have go : ∀ {A' : Around} {E : Value → Shared → Prop} {Q : Value → Shared → Prop}, Q (.ref hp.objs.size) ⟨hp.push o, g, dr, tk, os⟩ → wpAny (model prog w) A' (pyIter v) Q E ⟨hp, g, dr, tk, os⟩ := fun z => B.iter prog w _ _ ⟨hp, g, dr, tk, os⟩ _ h1 z
    wp_walk using go
    refine wpAny_stack_any fun st => wpAny_pure ?_
    split
    · rename_i c _ _ _ _ _
      by_cases hc : (c == Value.type "enumerate") = true
      · rw [hc]
        wp_walk using go
        exact ⟨_, rfl, hr⟩
      · rw [Bool.not_eq_true] at hc
        rw [hc]
        wp_walk using go
        exact ⟨_, rfl, hr⟩
    · wp_walk using go
      exact ⟨_, rfl, hr⟩
section
variable {prog : Program} {w : World} {A : Around} {E : Value → Shared → Prop} {s : Shared}
theorem enum_call {v : Value} {o : Obj} {Hd : Heap → Prop} {Q : Value → Shared → Prop} (B : Begins v o Hd) (h1 : Hd s.heap)
    (h : ∀ h', IsEnum h' (s.heap.objs.size + 1) s.heap.objs.size 0 .none → h'.get? s.heap.objs.size = some o → (∀ b u, s.heap.get? b = some u → h'.get? b = some u) → Q (.ref (s.heap.objs.size + 1)) { s with heap := h' }) :
    wpAny (model prog w) A (call (.type "enumerate") [v]) Q E s := by
  refine callType_new F.called_enumerate (by decide) (F.typeCall_enumerate_1 _) (F.newCall_enumerate_1 _) (fun z => F.args_object_init_2 z _) F.entry_enumerate_new (enum_meets B) ⟨h1, ?_⟩
  have e1 : (s.heap.push o).objs.size = s.heap.objs.size + 1 := Heap.size_push ..
  have e2 := Heap.get?_push_size (s.heap.push o) (o := { cls := .type "enumerate", data := .fields #[.none, .bool false, .ref s.heap.objs.size, rawInt 0, .none, .none] }) rfl
  rw [e1] at e2
  show _ ∧ _
  rw [e1]
  exact ⟨⟨_, e2, rfl⟩, h _ e2 (Heap.get?_push_of_some _ (Heap.get?_push_size _ B.free)) fun b u z => Heap.get?_push_of_some _ (Heap.get?_push_of_some _ z)⟩
end

theorem turn_enumT {P : Program} {w : World} {K : PySem.W.Frag} {elts : List Expr} {kk : Nat} {tpos : Pos} (a e it : Addr) :
    Turn P w K (.Tuple elts kk tpos) (ItE K a) [e, it] e (fun i h => (∃ old, IsEnum h e it ((i : Nat) : Int) old) ∧ h.IsTupleIter it a i ∧ e ≠ it ∧ e ≠ a ∧ a ≠ it) where
  mem := List.mem_cons_self
  obj := fun i h ⟨⟨old, he⟩, ⟨o, ho, _, hd⟩, _⟩ b hb => two_of (P := fun c => ∃ o, h.get? c = some o ∧ ∀ v, o.data ≠ .cell v) hb ⟨_, he, fun v z => by cases z⟩ ⟨o, ho, fun v z => by rw [hd] at z; cases z⟩
  keep := fun i h h' ⟨⟨old, he⟩, hi, n⟩ k => ⟨⟨old, k e List.mem_cons_self _ he⟩, hi.at fun o z => k it (List.mem_cons_of_mem _ List.mem_cons_self) o z, n⟩
  item := by
    intro X hP hw hK hc i pins s σ H E I hf ⟨⟨old, he⟩, hit, n1, n2, n3⟩ ⟨xs, x, hq, hx⟩
    subst hP hw hK
    obtain ⟨its, rv, pt, _⟩ := I.tuple hq
    obtain ⟨u, hu, ru⟩ := rv.get hx
    have hlt : i < its.toArray.size := by
      rw [List.size_toArray]
      exact (List.getElem?_eq_some_iff.mp hu).1
    have hsz : e < s.heap.objs.size ∧ it < s.heap.objs.size := ⟨Heap.lt_size he, by obtain ⟨_, z, _⟩ := hit; exact Heap.lt_size z⟩
    have D := Draws.tuple (prog := X.prog) (w := X.w) (A := X.A.in1) (I.ok.hd hc) it a n3 its.toArray
    refine wpAny_pyNext_enum_itemC (c := ((i : Nat) : Int)) D he ⟨hit, pt⟩ hlt n1 (fun z => two_of (P := fun c => e ≠ c) z n1 n2 rfl) fun x1 h' tk hx1 ho hst hT _ hk => ?_
    have ex : x1 = u := by
      have hu' : its.toArray[i]? = some u := by rw [List.getElem?_toArray]; exact hu
      have z : its.toArray[i]? = some x1 := hx1
      rw [hu'] at z
      exact (Option.some.inj z).symm
    subst ex
    refine ⟨_, rfl, wpAny_letOwnedTupleGo_enum (s := { s with heap := h', toks := tk + 1 }) ho fun h2 he2 sb => ?_⟩
    have hT2 := (sb.2 _ (Nat.ne_of_gt hsz.1)).trans hT
    have okT : ObjOk X.prog X.w (upd H s.heap.objs.size (.tup [.int (i : Nat), x])) h2 s.heap.objs.size (.tup [.int (i : Nat), x]) := ⟨by show 2 ≤ sizeLine; decide, [.int (i : Nat) tk, x1], .cons ⟨_, rfl⟩ (.cons ru .nil), ⟨_, hT2, rfl, _, rfl⟩⟩
    have J := I.turnedNew (ch := [e, it]) (t' := tk + 1) (fun b ob hb z => (sb.2 b fun y => hb (y ▸ List.mem_cons_self)).trans (hk b ob (fun y => hb (y ▸ List.mem_cons_self)) (fun y => hb (y ▸ List.mem_cons_of_mem _ List.mem_cons_self)) z)) hf (Nat.le_refl _) okT
    refine ⟨.ref s.heap.objs.size, _, J, rfl, ⟨_, x, rfl, I.hok.fresh (Nat.le_refl _), rfl, fun ys hy => by rw [I.tuple_inj hy hq]; exact hx⟩, ⟨⟨x1, ?_⟩, hst.1.at fun o z => (sb.2 it n1.symm).trans z, n1, n2, n3⟩, fun b hb => ?_⟩
    · have e1 : ((i + 1 : Nat) : Int) = ((i : Nat) : Int) + 1 := Int.natCast_succ i
      rw [e1]
      exact he2
    · rw [upd_ne (two_of (P := fun c => c ≠ s.heap.objs.size) hb (Nat.ne_of_lt hsz.1) (Nat.ne_of_lt hsz.2))]
      exact (hf b hb).1
  done := by
    intro X hP hw hK hc i pins s σ H E I hf ⟨⟨old, he⟩, hit, n1, n2, n3⟩ ⟨xs, hq, hl⟩
    subst hP hw hK
    obtain ⟨its, rv, pt, _⟩ := I.tuple hq
    have hi : its.toArray.size = i := by rw [List.size_toArray, ← rv.length, hl]
    obtain ⟨f0, f1, f2, f3, f4, f5⟩ := hf it (List.mem_cons_of_mem _ List.mem_cons_self)
    have D := Draws.tuple (prog := X.prog) (w := X.w) (A := X.A.in1) (I.ok.hd hc) it a n3 its.toArray
    refine wpAny_pyNext_enum_endD D he ⟨by rw [hi]; exact hit, pt⟩ fun h' eb => ⟨rfl, ?_⟩
    exact I.turned (t' := s.toks) (it := it) (fun b o hb z => eb b o hb z) f0 f1 f3 f4 f5
  self := fun A i s Q E ⟨⟨_, he⟩, _⟩ h => wpAny_pyIter_enum he h
def iEnumT (K : PySem.W.Frag) (ta : TA) : TI := fun σ H R => ta σ H fun vs H1 => ∃ a xs, vs = [V.ref a] ∧ SqT K H1 a xs ∧ R (ItE K a) H1
theorem pi_enumT {X : Cx} {x : Expr} {ta : TA} {p pos tpos : Pos} {elts : List Expr} {kk : Nat} (hg : Gl X "enumerate") (hm : X.mg "enumerate" = none) (ha : PA X [x] ta) (hs : starEach [x] X.env = [(false, eval x X.env)] := by rfl) :
    PI X (.Tuple elts kk tpos) (.Call (.Name "enumerate" p) [x] [] pos) (iEnumT X.K ta) := by
  refine ⟨fun pins s σ H R I hr => Call_ (ld_blt I hg hm boot_enumerate (PyProof.Rows.callWith_type1 (thn (ha.run pos pins s σ H _ I hr) fun us s1 ⟨vs, H1, I1, r1, a, xs, ev, hq, q⟩ => ?_) hs rfl))⟩
  subst ev
  cases r1 with
  | cons r rr =>
    cases rr
    cases r
    obtain ⟨its, rv, pt, _⟩ := I1.tuple hq
    have hal : a < s1.heap.objs.size := by obtain ⟨o, z, _⟩ := id pt; exact Heap.lt_size z
    refine enum_call (begins_tuple a its.toArray) pt fun h' he hit hk => wpAny_pyIter_enum he ?_
    have J : Inv X pins σ H1 { s1 with heap := h' } := I1.kept (t' := s1.toks) hk
    refine ⟨s1.heap.objs.size + 1, [s1.heap.objs.size + 1, s1.heap.objs.size], _, _, H1, rfl, J, turn_enumT a (s1.heap.objs.size + 1) s1.heap.objs.size, ⟨⟨.none, he⟩, ⟨_, hit, rfl, rfl⟩, Nat.succ_ne_self _, Nat.ne_of_gt (Nat.lt_succ_of_lt hal), Nat.ne_of_lt hal⟩, fun b hb => ?_, q⟩
    have hle : s1.heap.objs.size ≤ b := two_of (P := fun c => s1.heap.objs.size ≤ c) hb (Nat.le_succ _) (Nat.le_refl _)
    exact I1.fpOk hle (I1.hok.fresh hle)

/-- the tuple at a and the list at b, the items in new pairs -/
def ItZ (K : PySem.W.Frag) (a b : Addr) : It where
  go := fun i H => ∃ xs ys x y, SqT K H a xs ∧ SqL K H b ys ∧ xs[i]? = some x ∧ ys[i]? = some y
  yld := fun i H v H' => ∃ T x y, v = V.ref T ∧ H T = Option.none ∧ H' = upd H T (.tup [x, y]) ∧ (∀ xs, SqT K H a xs → xs[i]? = some x) ∧ ∀ ys, SqL K H b ys → ys[i]? = some y
  stop := fun i H => ∃ xs ys, SqT K H a xs ∧ SqL K H b ys ∧ xs.length = i ∧ ys.length = i
theorem five_of {c : Addr} {P : Addr → Prop} {a1 a2 a3 a4 a5 : Addr} (h : c ∈ [a1, a2, a3, a4, a5]) (h1 : P a1) (h2 : P a2) (h3 : P a3) (h4 : P a4) (h5 : P a5) : P c := by
  rcases List.mem_cons.mp h with z | z
  · rw [z]; exact h1
  rcases List.mem_cons.mp z with z | z
  · rw [z]; exact h2
  rcases List.mem_cons.mp z with z | z
  · rw [z]; exact h3
  · exact two_of z h4 h5
structure Zp (z TI TO i1 i2 a b : Addr) : Prop where
  sep : ZipSep2 z TI TO i1 i2 [i1, a] [i2, b]
  ai : a ≠ i1
  bi : b ≠ i2
theorem zp_new {n a b : Addr} (ha : a < n) (hb : b < n) : Zp (n + 4) (n + 2) (n + 3) n (n + 1) a b :=
  ⟨zip_sep2 (fun c hc => by rw [List.mem_singleton.mp hc]; exact ha) (fun c hc => by rw [List.mem_singleton.mp hc]; exact hb), Nat.ne_of_lt ha, Nat.ne_of_lt (Nat.lt_succ_of_lt hb)⟩
theorem turn_zipTL {P : Program} {w : World} {K : PySem.W.Frag} {elts : List Expr} {kk : Nat} {tpos : Pos} {a b z TI TO i1 i2 : Addr} (S : Zp z TI TO i1 i2 a b) :
    Turn P w K (.Tuple elts kk tpos) (ItZ K a b) [z, TI, TO, i1, i2] z (fun i h => IsZip h z TI TO .none ∧ IsTupOf2 h TI (.ref i1) (.ref i2) ∧ (∃ x y, IsTupOf2 h TO x y) ∧ h.IsTupleIter i1 a i ∧ h.IsListIter i2 b i) where
  mem := List.mem_cons_self
  obj := fun i h ⟨hz, hTI, ⟨x, y, hTO⟩, ⟨o1, e1, _, d1⟩, ⟨o2, e2, _, d2⟩⟩ c hc => five_of (P := fun c => ∃ o, h.get? c = some o ∧ ∀ v, o.data ≠ .cell v) hc ⟨_, hz, fun v q => by cases q⟩ ⟨_, hTI, fun v q => by cases q⟩ ⟨_, hTO, fun v q => by cases q⟩
    ⟨o1, e1, fun v q => by rw [d1] at q; cases q⟩ ⟨o2, e2, fun v q => by rw [d2] at q; cases q⟩
  keep := fun i h h' ⟨hz, hTI, ⟨x, y, hTO⟩, h1, h2⟩ k => ⟨k z (by simp) _ hz, k TI (by simp) _ hTI, ⟨x, y, k TO (by simp) _ hTO⟩, h1.at fun o q => k i1 (by simp) o q, h2.at fun o q => k i2 (by simp) o q⟩
  item := by
    intro X hP hw hK hc i pins s σ H E I hf ⟨hz, hTI, ⟨x0, y0, hTO⟩, h1, h2⟩ ⟨xs, ys, x, y, hqx, hqy, hx, hy⟩
    subst hP hw hK
    obtain ⟨its, rv, pt, _⟩ := I.tuple hqx
    obtain ⟨its2, rv2, pl, _⟩ := I.list hqy
    obtain ⟨u, hu, ru⟩ := rv.get hx
    obtain ⟨u2, hu2, ru2⟩ := rv2.get hy
    have l1 : i < its.toArray.size := by rw [List.size_toArray]; exact (List.getElem?_eq_some_iff.mp hu).1
    have l2 : i < its2.toArray.size := by rw [List.size_toArray]; exact (List.getElem?_eq_some_iff.mp hu2).1
    have hh : X.A.in1.handled = Option.none := I.ok.hd hc
    have D1 := Draws.tuple (prog := X.prog) (w := X.w) (A := X.A.in1) hh i1 a S.ai its.toArray
    have D2 := Draws.list (prog := X.prog) (w := X.w) (A := X.A.in1) hh i2 b S.bi its2.toArray
    have zlt := Heap.lt_size hz
    refine wpAny_pyNext_zipD2_item S.sep D1 D2 hz hTI hTO ⟨h1, pt⟩ ⟨h2, pl.isList⟩ l1 l2 fun x1 x2 h' tk e1 e2 hz' hTO' n1 n2 hT _ hk => ?_
    have q1 : x1 = u := by
      have z1 : its.toArray[i]? = some x1 := e1
      rw [List.getElem?_toArray, hu] at z1
      exact (Option.some.inj z1).symm
    have q2 : x2 = u2 := by
      have z1 : its2.toArray[i]? = some x2 := e2
      rw [List.getElem?_toArray, hu2] at z1
      exact (Option.some.inj z1).symm
    subst q1 q2
    refine ⟨_, rfl, wpAny_letOwnedTupleGo_zip (s := { s with heap := h', toks := tk }) hz' fun h2' z2 sb => ?_⟩
    have hT2 := (sb.2 _ (Nat.ne_of_gt zlt)).trans hT
    have okT : ObjOk X.prog X.w (upd H s.heap.objs.size (.tup [x, y])) h2' s.heap.objs.size (.tup [x, y]) := ⟨by show 2 ≤ sizeLine; decide, [x1, x2], .cons ru (.cons ru2 .nil), ⟨_, hT2, rfl, _, rfl⟩⟩
    have J := I.turnedNew (ch := [z, TI, TO, i1, i2]) (t' := tk) (fun c o hb q => (sb.2 c fun y => hb (by simp [y])).trans (hk c o (fun y => hb (by simp [y])) (fun y => hb (by simp [y])) (fun y => hb (by simp [y])) (fun y => hb (by simp [y])) q)) hf (Nat.le_refl _) okT
    refine ⟨.ref s.heap.objs.size, _, J, rfl, ⟨_, x, y, rfl, I.hok.fresh (Nat.le_refl _), rfl, fun l hl => by rw [I.tuple_inj hl hqx]; exact hx, fun l hl => by rw [I.list_inj hl hqy]; exact hy⟩, ⟨z2, ?_, ⟨x1, x2, ?_⟩, ?_, ?_⟩, fun c hcm => ?_⟩
    · exact (sb.2 _ S.sep.TIz).trans (hk _ _ S.sep.TIz S.sep.TITO S.sep.TIi1 S.sep.TIi2 hTI)
    · exact (sb.2 _ S.sep.TOz).trans hTO'
    · exact n1.1.at fun o q => (sb.2 _ (Ne.symm S.sep.zi1)).trans q
    · exact n2.1.at fun o q => (sb.2 _ (Ne.symm S.sep.zi2)).trans q
    · have hlt : c < s.heap.objs.size := five_of (P := fun c => c < s.heap.objs.size) hcm zlt (Heap.lt_size hTI) (Heap.lt_size hTO) (by obtain ⟨_, q, _⟩ := h1; exact Heap.lt_size q) (by obtain ⟨_, q, _⟩ := h2; exact Heap.lt_size q)
      rw [upd_ne (Nat.ne_of_lt hlt)]
      exact (hf c hcm).1
  done := by
    intro X hP hw hK hc i pins s σ H E I hf ⟨hz, hTI, ⟨x0, y0, hTO⟩, h1, h2⟩ ⟨xs, ys, hqx, hqy, e1, e2⟩
    subst hP hw hK
    obtain ⟨its, rv, pt, _⟩ := I.tuple hqx
    obtain ⟨its2, rv2, pl, _⟩ := I.list hqy
    have n1 : its.toArray.size = i := by rw [List.size_toArray, ← rv.length, e1]
    have n2 : its2.toArray.size = i := by rw [List.size_toArray, ← rv2.length, e2]
    have hh : X.A.in1.handled = Option.none := I.ok.hd hc
    have D1 := Draws.tuple (prog := X.prog) (w := X.w) (A := X.A.in1) hh i1 a S.ai its.toArray
    have D2 := Draws.list (prog := X.prog) (w := X.w) (A := X.A.in1) hh i2 b S.bi its2.toArray
    refine wpAny_pyNext_zipD2_end S.sep D1 D2 hz hTI hTO ⟨h1, pt⟩ ⟨h2, pl.isList⟩ (Nat.le_of_eq n1.symm) (Nat.le_of_eq n2.symm) (.inl n1.symm) fun h' tk hk => ⟨rfl, ?_⟩
    exact I.turnedL (t' := tk) (ch := [z, TI, TO, i1, i2]) (fun c o hb q => hk c o (fun y => hb (by simp [y])) (fun y => hb (by simp [y])) (fun y => hb (by simp [y])) (fun y => hb (by simp [y])) q) hf
  self := fun A i s Q E ⟨hz, _⟩ h => wpAny_pyIter_zip hz h
def iZipTL (K : PySem.W.Frag) (ta : TA) : TI := fun σ H R => ta σ H fun vs H1 => ∃ a b xs ys, vs = [V.ref a, V.ref b] ∧ SqT K H1 a xs ∧ SqL K H1 b ys ∧ R (ItZ K a b) H1
theorem pi_zipTL {X : Cx} {e e2 : Expr} {ta : TA} {p pos tpos : Pos} {elts : List Expr} {kk : Nat} (hg : Gl X "zip") (hm : X.mg "zip" = none) (ha : PA X [e, e2] ta)
    (hs : starEach [e, e2] X.env = (false, eval e X.env) :: starEach [e2] X.env := by rfl) (hpl : (backTo pos (starEach [e2] X.env)).any (·.1) = false := by rfl) :
    PI X (.Tuple elts kk tpos) (.Call (.Name "zip" p) [e, e2] [] pos) (iZipTL X.K ta) := by
  refine ⟨fun pins s σ H R I hr => Call_ (ld_blt I hg hm PyProof.Rows.boot_zip (PyProof.Rows.callWith_type1 (thn (ha.run pos pins s σ H _ I hr) fun us s1 ⟨vs, H1, I1, r1, a, b, xs, ys, ev, hqx, hqy, q⟩ => ?_) hs hpl))⟩
  subst ev
  cases r1 with
  | cons r rr =>
    cases rr with
    | cons r' rr =>
      cases rr
      cases r
      cases r'
      obtain ⟨its, rv, pt, _⟩ := I1.tuple hqx
      obtain ⟨its2, rv2, pl, _⟩ := I1.list hqy
      have ha : a < s1.heap.objs.size := by obtain ⟨o, z, _⟩ := id pt; exact Heap.lt_size z
      have hb : b < s1.heap.objs.size := by obtain ⟨o, _, z, _⟩ := id pl; exact Heap.lt_size z
      refine zip_begins2 (begins_tuple a its.toArray) (begins_list b its2.toArray) pt pl.isList fun h' hz hTI hTO g1 g2 _ hk => wpAny_pyIter_zip hz ?_
      have J : Inv X pins σ H1 { s1 with heap := h' } := I1.kept (t' := s1.toks) hk
      refine ⟨s1.heap.objs.size + 4, [s1.heap.objs.size + 4, s1.heap.objs.size + 2, s1.heap.objs.size + 3, s1.heap.objs.size, s1.heap.objs.size + 1], _, _, H1, rfl, J, turn_zipTL (zp_new ha hb), ⟨hz, hTI, ⟨_, _, hTO⟩, ⟨_, g1, rfl, rfl⟩, ⟨_, g2, rfl, rfl⟩⟩, fun c hc => ?_, q⟩
      have hle : s1.heap.objs.size ≤ c := five_of (P := fun c => s1.heap.objs.size ≤ c) hc (Nat.le_add_right _ _) (Nat.le_add_right _ _) (Nat.le_add_right _ _) (Nat.le_refl _) (Nat.le_add_right _ _)
      exact I1.fpOk hle (I1.hok.fresh hle)
end Rx
end
section
set_option Elab.async false
set_option autoImplicit false
set_option linter.all false
set_option maxRecDepth 100000
set_option maxHeartbeats 1000000
/-! D6: built-ins by data. -/
namespace Dl
open PySem PySem.Spec PyProof.Rows L2 Evl

section
variable {K : Fg} {E : XK} {W : Wd K E} {sl : Sl} {rs : Rs} {P P' : DV → Rs → Prop} {ta tb tc te : TE} {i j : Nat} {dv : DV} {N N' : Po} {ts tu : TS} {tt : TT} {g : TG} {gs : TGs} {wi : TI} {tr : TA} {K2 : Fg} {f : Dsp} {R : List PyData → Rs → Prop}
/-! ### what is walked -/
/-- (0, x), (1, y), .. -/
def enD (ds : List PyData) : List PyData := (List.range ds.length).map fun i => PyData.tuple [.int (i : Nat), ds.getD i .none]
theorem enD_len (ds : List PyData) : (enD ds).length = ds.length := by unfold enD; rw [List.length_map, List.length_range]
theorem enD_at {ds : List PyData} {i : Nat} {d : PyData} (h : (enD ds)[i]? = some d) : ∃ x, ds[i]? = some x ∧ d = .tuple [.int (i : Nat), x] := by
  unfold enD at h
  rw [List.getElem?_map] at h
  cases e : (List.range ds.length)[i]? with
  | none => rw [e] at h; cases h
  | some m =>
    rw [e] at h
    obtain ⟨hlt, hm⟩ := List.getElem?_eq_some_iff.mp e
    rw [List.length_range] at hlt
    rw [List.getElem_range] at hm
    subst hm
    refine ⟨ds[i], List.getElem?_eq_getElem hlt, ?_⟩
    have h2 := (Option.some.inj h).symm
    rw [h2]
    show PyData.tuple [.int (i : Nat), ds.getD i .none] = _
    rw [List.getD_eq_getElem?_getD, List.getElem?_eq_getElem hlt]
    rfl
theorem pair_dq {F : Hp} {T : Addr} {x y : V} {d e : PyData} {F0 : Hp} (hn : F0 T = none) (h1 : Dq F0 x d) (h2 : Dq F0 y e) (hF : F = upd F0 T (.tup [x, y])) : Dq F (.ref T) (.tuple [d, e]) := by
  subst hF
  exact .tup upd_same (.cons (Dq.up (Ex.new hn) _ _ h1) (.cons (Dq.up (Ex.new hn) _ _ h2) .nil))
theorem none_up {F H : Hp} {a : Addr} (u : Up F H) (h : H a = none) : F a = none := fresh_back u h
theorem wi_enT (h : WA W tr sl rs fun xs rs1 => ∃ ds, xs = [.d (.tuple ds)] ∧ R (enD ds) rs1) : WI W (Rx.iEnumT K2 tr) sl rs R := fun F H σ k Q q =>
  h F H σ k _ fun F1 H1 vs xs rs1 s1 k1 i1 ⟨ds, e, p⟩ => by
    subst e
    cases i1 with
    | cons i1 r =>
      cases r
      obtain ⟨a, xs, e, ha, hd⟩ := is_tup i1
      refine ⟨a, xs, by rw [e], SqT.of (k1.ex _ _ ha), q F1 H1 _ _ rs1 s1 k1 (fun F2 H2 u1 u2 i => ⟨fun d hx => ?_, fun hi => ⟨xs, SqT.of (u2 _ _ (u1 _ _ ha)), by rw [hd.len, hi, enD_len]⟩⟩) p⟩
      obtain ⟨z, hz, rfl⟩ := enD_at hx
      obtain ⟨v, hv, dv⟩ := hd.get hz
      have hst : SqT K2 H2 a xs := SqT.of (u2 _ _ (u1 _ _ ha))
      refine ⟨⟨xs, v, hst, hv⟩, fun y H3 ⟨T, w, ey, hT, eH, hw⟩ => ⟨upd F2 T (.tup [.int (i : Nat), w]), .inr ⟨T, _, hT, rfl, eH⟩, ?_⟩⟩
      have h2 := hw xs hst
      rw [hv] at h2
      cases h2
      rw [ey]
      exact pair_dq (none_up u2 hT) (.int _) (Dq.up u1 _ _ dv) rfl
theorem wi_enL (h : WA W tr sl rs fun xs rs1 => ∃ ds, xs = [.d (.list ds)] ∧ R (enD ds) rs1) : WI W (iEnum K2 tr) sl rs R := fun F H σ k Q q =>
  h F H σ k _ fun F1 H1 vs xs rs1 s1 k1 i1 ⟨ds, e, p⟩ => by
    subst e
    cases i1 with
    | cons i1 r =>
      cases r
      obtain ⟨a, xs, e, ha, hd⟩ := is_lst i1
      refine ⟨a, xs, by rw [e], SqL.of (k1.ex _ _ ha), q F1 H1 _ _ rs1 s1 k1 (fun F2 H2 u1 u2 i => ⟨fun d hx => ?_, fun hi => ⟨xs, SqL.of (u2 _ _ (u1 _ _ ha)), by rw [hd.len, hi, enD_len]; exact Nat.le_refl _⟩⟩) p⟩
      obtain ⟨z, hz, rfl⟩ := enD_at hx
      obtain ⟨v, hv, dv⟩ := hd.get hz
      have hst : SqL K2 H2 a xs := SqL.of (u2 _ _ (u1 _ _ ha))
      refine ⟨⟨xs, v, hst, hv⟩, fun y H3 ⟨T, w, ey, hT, eH, hw⟩ => ⟨upd F2 T (.tup [.int (i : Nat), w]), .inr ⟨T, _, hT, rfl, eH⟩, ?_⟩⟩
      have h2 := hw xs hst
      rw [hv] at h2
      cases h2
      rw [ey]
      exact pair_dq (none_up u2 hT) (.int _) (Dq.up u1 _ _ dv) rfl
/-- (x, y) of two as long as each other -/
def zpD (ds es : List PyData) : List PyData := List.zipWith (fun x y => PyData.tuple [x, y]) ds es
theorem zpD_at {ds es : List PyData} {i : Nat} {d : PyData} (h : (zpD ds es)[i]? = some d) : ∃ x y, ds[i]? = some x ∧ es[i]? = some y ∧ d = .tuple [x, y] := by
  unfold zpD at h
  rw [List.getElem?_zipWith] at h
  cases e1 : ds[i]? with
  | none => rw [e1] at h; cases h
  | some x =>
    cases e2 : es[i]? with
    | none => rw [e1, e2] at h; cases h
    | some y =>
      rw [e1, e2] at h
      exact ⟨x, y, rfl, rfl, (Option.some.inj h).symm⟩
theorem wi_zpTL (h : WA W tr sl rs fun xs rs1 => ∃ ds es, xs = [.d (.tuple ds), .d (.list es)] ∧ ds.length = es.length ∧ R (zpD ds es) rs1) : WI W (Rx.iZipTL K2 tr) sl rs R := fun F H σ k Q q =>
  h F H σ k _ fun F1 H1 vs xs rs1 s1 k1 i1 ⟨ds, es, e, hl, p⟩ => by
    subst e
    cases i1 with
    | cons i1 r =>
      cases r with
      | cons i2 r =>
        cases r
        obtain ⟨a, xs, e1, ha, hd⟩ := is_tup i1
        obtain ⟨b, ys, e2, hb, he⟩ := is_lst i2
        have hz : (zpD ds es).length = ds.length := by unfold zpD; rw [List.length_zipWith, ← hl, Nat.min_self]
        refine ⟨a, b, xs, ys, by rw [e1, e2], SqT.of (k1.ex _ _ ha), SqL.of (k1.ex _ _ hb), q F1 H1 _ _ rs1 s1 k1 (fun F2 H2 u1 u2 i => ⟨fun d hx => ?_, fun hi => ⟨xs, ys, SqT.of (u2 _ _ (u1 _ _ ha)), SqL.of (u2 _ _ (u1 _ _ hb)), by rw [hd.len, hi, hz], by rw [he.len, hi, hz, hl]⟩⟩) p⟩
        obtain ⟨x, y, hx1, hy1, rfl⟩ := zpD_at hx
        obtain ⟨v, hv, dv⟩ := hd.get hx1
        obtain ⟨u, hu, du⟩ := he.get hy1
        have hst : SqT K2 H2 a xs := SqT.of (u2 _ _ (u1 _ _ ha))
        have hsl : SqL K2 H2 b ys := SqL.of (u2 _ _ (u1 _ _ hb))
        refine ⟨⟨xs, ys, v, u, hst, hsl, hv, hu⟩, fun z H3 ⟨T, v', u', ey, hT, eH, hw1, hw2⟩ => ⟨upd F2 T (.tup [v', u']), .inr ⟨T, _, hT, rfl, eH⟩, ?_⟩⟩
        have h2 := hw1 xs hst
        rw [hv] at h2
        cases h2
        have h3 := hw2 ys hsl
        rw [hu] at h3
        cases h3
        rw [ey]
        exact pair_dq (none_up u2 hT) (Dq.up u1 _ _ dv) (Dq.up u1 _ _ du) rfl
theorem wi_zpTT (h : WA W tr sl rs fun xs rs1 => ∃ ds es, xs = [.d (.tuple ds), .d (.tuple es)] ∧ ds.length = es.length ∧ R (zpD ds es) rs1) : WI W (RZ.iZipA K2 tr) sl rs R := fun F H σ k Q q =>
  h F H σ k _ fun F1 H1 vs xs rs1 s1 k1 i1 ⟨ds, es, e, hl, p⟩ => by
    subst e
    cases i1 with
    | cons i1 r =>
      cases r with
      | cons i2 r =>
        cases r
        obtain ⟨a, xs, e1, ha, hd⟩ := is_tup i1
        obtain ⟨b, ys, e2, hb, he⟩ := is_tup i2
        have hz : (zpD ds es).length = ds.length := by unfold zpD; rw [List.length_zipWith, ← hl, Nat.min_self]
        refine ⟨a, b, xs, ys, by rw [e1, e2], .inr ⟨SqT.of (k1.ex _ _ ha), SqT.of (k1.ex _ _ hb), q F1 H1 _ _ rs1 s1 k1 (fun F2 H2 u1 u2 i => ⟨fun d hx => ?_, fun hi => ⟨xs, ys, SqT.of (u2 _ _ (u1 _ _ ha)), SqT.of (u2 _ _ (u1 _ _ hb)), .inl (by rw [hd.len, hi, hz]; exact Nat.le_refl _)⟩⟩) p⟩⟩
        obtain ⟨x, y, hx1, hy1, rfl⟩ := zpD_at hx
        obtain ⟨v, hv, dv⟩ := hd.get hx1
        obtain ⟨u, hu, du⟩ := he.get hy1
        have hst : SqT K2 H2 a xs := SqT.of (u2 _ _ (u1 _ _ ha))
        have hsl : SqT K2 H2 b ys := SqT.of (u2 _ _ (u1 _ _ hb))
        refine ⟨⟨xs, ys, v, u, hst, hsl, hv, hu⟩, fun z H3 ⟨T, v', u', ey, hT, eH, hw1, hw2⟩ => ⟨upd F2 T (.tup [v', u']), .inr ⟨T, _, hT, rfl, eH⟩, ?_⟩⟩
        have h2 := hw1 xs hst
        rw [hv] at h2
        cases h2
        have h3 := hw2 ys hsl
        rw [hu] at h3
        cases h3
        rw [ey]
        exact pair_dq (none_up u2 hT) (Dq.up u1 _ _ dv) (Dq.up u1 _ _ du) rfl

/-! ### calls of built-ins -/
theorem we_abs (h : WA W tr sl rs fun xs rs1 => ∃ n, xs = [.d (.int n)] ∧ P (.d (.int (if n < 0 then -n else n))) rs1) : WE W (tCB (fun xs H Q => ∃ i, xs = [.int i] ∧ Q (.int (if i < 0 then -i else i)) H) tr) sl rs P := fun F H σ k Q q =>
  h F H σ k _ fun F1 H1 vs xs rs1 s1 k1 i1 ⟨n, e, p⟩ => by
    subst e
    cases i1 with
    | cons i1 r =>
      cases r
      exact ⟨n, by rw [is_int i1], q F1 H1 _ _ rs1 s1 k1 (isI _) p⟩
theorem we_max2 (h : WA W tr sl rs fun xs rs1 => ∃ m n, xs = [.d (.int m), .d (.int n)] ∧ P (.d (.int (if n > m then n else m))) rs1) : WE W (tCB (fun xs H Q => ∃ i j, xs = [.int i, .int j] ∧ Q (.int (if j > i then j else i)) H) tr) sl rs P := fun F H σ k Q q =>
  h F H σ k _ fun F1 H1 vs xs rs1 s1 k1 i1 ⟨m, n, e, p⟩ => by
    subst e
    cases i1 with
    | cons i1 r =>
      cases r with
      | cons i2 r =>
        cases r
        exact ⟨m, n, by rw [is_int i1, is_int i2], q F1 H1 _ _ rs1 s1 k1 (isI _) p⟩
theorem we_min2 (h : WA W tr sl rs fun xs rs1 => ∃ m n, xs = [.d (.int m), .d (.int n)] ∧ P (.d (.int (if n < m then n else m))) rs1) : WE W (tCB (fun xs H Q => ∃ i j, xs = [.int i, .int j] ∧ Q (.int (if j < i then j else i)) H) tr) sl rs P := fun F H σ k Q q =>
  h F H σ k _ fun F1 H1 vs xs rs1 s1 k1 i1 ⟨m, n, e, p⟩ => by
    subst e
    cases i1 with
    | cons i1 r =>
      cases r with
      | cons i2 r =>
        cases r
        exact ⟨m, n, by rw [is_int i1, is_int i2], q F1 H1 _ _ rs1 s1 k1 (isI _) p⟩
def intOf : PyData → Option Int
  | .int n => some n
  | .bool b => some (if b = true then 1 else 0)
  | _ => none
theorem we_toInt (h : WA W tr sl rs fun xs rs1 => ∃ d n, xs = [.d d] ∧ intOf d = some n ∧ P (.d (.int n)) rs1) : WE W (tCB (fun xs H Q => (∃ i, xs = [.int i] ∧ Q (.int i) H) ∨ ∃ k, xs = [.bl k] ∧ Q (.int (if k then 1 else 0)) H) tr) sl rs P := fun F H σ k Q q =>
  h F H σ k _ fun F1 H1 vs xs rs1 s1 k1 i1 ⟨d, n, e, hn, p⟩ => by
    subst e
    cases i1 with
    | cons i1 r =>
      cases r
      cases d with
      | int m =>
        cases hn
        exact .inl ⟨_, by rw [is_int i1], q F1 H1 _ _ rs1 s1 k1 (isI _) p⟩
      | bool b =>
        cases hn
        exact .inr ⟨b, by rw [is_bl i1], q F1 H1 _ _ rs1 s1 k1 (isI _) p⟩
      | _ => cases hn
theorem bls_dq {F : Hp} : ∀ {vs : List V} {bs : List Bool}, DqAll F vs (bs.map PyData.bool) → vs = bs.map V.bl
  | _, [], .nil => rfl
  | _, b :: bs, .cons r t => by
    cases r
    rw [bls_dq t]
    rfl
theorem we_all (h : WA W tr sl rs fun xs rs1 => ∃ bs : List Bool, xs = [.d (.list (bs.map PyData.bool))] ∧ P (.d (.bool (bs.all id))) rs1) : WE W (tCB (rAll K2) tr) sl rs P := fun F H σ k Q q =>
  h F H σ k _ fun F1 H1 vs xs rs1 s1 k1 i1 ⟨bs, e, p⟩ => by
    subst e
    cases i1 with
    | cons i1 r =>
      cases r
      obtain ⟨a, ys, e, ha, hd⟩ := is_lst i1
      have e2 := bls_dq hd
      subst e2
      exact ⟨a, bs, by rw [e], SqL.of (k1.ex _ _ ha), q F1 H1 _ _ rs1 s1 k1 (isB _) p⟩
theorem we_any (h : WA W tr sl rs fun xs rs1 => ∃ bs : List Bool, xs = [.d (.list (bs.map PyData.bool))] ∧ P (.d (.bool (bs.any id))) rs1) : WE W (tCB (rAny K2) tr) sl rs P := fun F H σ k Q q =>
  h F H σ k _ fun F1 H1 vs xs rs1 s1 k1 i1 ⟨bs, e, p⟩ => by
    subst e
    cases i1 with
    | cons i1 r =>
      cases r
      obtain ⟨a, ys, e, ha, hd⟩ := is_lst i1
      have e2 := bls_dq hd
      subst e2
      exact ⟨a, bs, by rw [e], SqL.of (k1.ex _ _ ha), q F1 H1 _ _ rs1 s1 k1 (isB _) p⟩
theorem we_maxL (h : WA W tr sl rs fun xs rs1 => ∃ ns : List Int, xs = [.d (.list (ns.map PyData.int))] ∧ 0 < ns.length ∧ ∀ m, m ∈ ns → (∀ y, y ∈ ns → y ≤ m) → P (.d (.int m)) rs1) : WE W (tCB (rMax K2) tr) sl rs P := fun F H σ k Q q =>
  h F H σ k _ fun F1 H1 vs xs rs1 s1 k1 i1 ⟨ns, e, hn, p⟩ => by
    subst e
    cases i1 with
    | cons i1 r =>
      cases r
      obtain ⟨a, ys, e, ha, hd⟩ := is_lst i1
      have e2 := hd.ints
      subst e2
      exact ⟨a, ns, by rw [e], SqL.of (k1.ex _ _ ha), hn, fun m hm hy => q F1 H1 _ _ rs1 s1 k1 (isI _) (p m hm hy)⟩
/-- list(range(n)) -/
theorem rg_dq {F : Hp} (a b : Int) : DqAll F (rgV a b) (rgD a (b - a).toNat) := by
  unfold rgV rgD
  generalize List.range (b - a).toNat = l
  induction l with
  | nil => exact .nil
  | cons i l ih => exact .cons (.int _) ih
theorem we_listRg (h : WE W te sl rs fun x rs1 => ∃ n : Int, x = .d (.int n) ∧ 0 ≤ n ∧ n ≤ 1000000 ∧ P (.d (.list (rgD 0 n.toNat))) rs1) : WE W (tLstRg (tRg1 te)) sl rs P := fun F H σ k Q q =>
  h F H σ k _ fun F1 H1 v x rs1 s1 k1 i1 ⟨n, e, h0, h1, p⟩ => by
    subst e
    refine ⟨n, is_int i1, RgOk.of_le (by omega) (by omega) (by omega) (by omega), fun b hb => ?_⟩
    have hd : DqAll (upd F1 b (.lst (rgV 0 n))) (rgV 0 n) (rgD 0 n.toNat) := by
      have := rg_dq (F := upd F1 b (.lst (rgV 0 n))) 0 n
      rw [Int.sub_zero] at this
      exact this
    exact q _ _ _ _ rs1 (s1.trans (.new k1 hb)) (k1.new hb) (isD <| Dq.lst upd_same hd) p
/-- xs.append(e), xs.extend(e) -/
theorem we_append (h : WE W ta sl rs fun x rs1 => ∃ a, x = .p a ∧ (∃ ds, At rs1 a (.lst ds)) ∧ WA W tr sl rs1 fun xs rs2 => ∃ d ds j, xs = [.d d] ∧ rs2[j]? = some (a, .lst ds) ∧ ds.length < 100000 ∧ P (.d .none) (rs2.set j (a, .lst (ds ++ [d])))) : WE W (tBM K2 "list" rAppend ta tr) sl rs P := fun F H σ k Q q =>
  h F H σ k _ fun F1 H1 v x rs1 s1 k1 i1 ⟨a, e, ⟨ds0, j0, hj0⟩, p1⟩ => by
    subst e
    obtain ⟨xs0, h0, _⟩ := (k1.gr _ (List.mem_of_getElem? hj0)).2
    have e : v = .ref a := i1
    subst e
    refine ⟨.inl ⟨rfl, xs0, SqL.of h0⟩, p1 F1 H1 σ (k.go s1 k1) _ fun F2 H2 vs xs rs2 s2 k2 i2 ⟨d, ds, j, e, hj, hz, p⟩ => ?_⟩
    subst e
    cases i2 with
    | @cons y _ _ _ i2 r =>
      cases r
      obtain ⟨xs1, h1, hd⟩ := (k2.gr _ (List.mem_of_getElem? hj)).2
      exact ⟨a, xs1, y, rfl, rfl, h1, sz_lt (by rw [hd.len]; exact hz), q F2 _ _ _ _ ((s1.trans s2).trans (.wr k2 hj)) (k2.wr (r' := .lst (ds ++ [d])) hj ⟨_, upd_same, hd.app (.cons i2 .nil)⟩) isN p⟩
theorem we_extend (h : WE W ta sl rs fun x rs1 => ∃ a, x = .p a ∧ (∃ ds, At rs1 a (.lst ds)) ∧ WA W tr sl rs1 fun xs rs2 => ∃ es ds j, xs = [.d (.list es)] ∧ rs2[j]? = some (a, .lst ds) ∧ ds.length + es.length ≤ 100000 ∧ P (.d .none) (rs2.set j (a, .lst (ds ++ es)))) : WE W (tBM K2 "list" rExtend ta tr) sl rs P := fun F H σ k Q q =>
  h F H σ k _ fun F1 H1 v x rs1 s1 k1 i1 ⟨a, e, ⟨ds0, j0, hj0⟩, p1⟩ => by
    subst e
    obtain ⟨xs0, h0, _⟩ := (k1.gr _ (List.mem_of_getElem? hj0)).2
    have e : v = .ref a := i1
    subst e
    refine ⟨.inl ⟨rfl, xs0, SqL.of h0⟩, p1 F1 H1 σ (k.go s1 k1) _ fun F2 H2 vs xs rs2 s2 k2 i2 ⟨es, ds, j, e, hj, hz, p⟩ => ?_⟩
    subst e
    cases i2 with
    | @cons y _ _ _ i2 r =>
      cases r
      obtain ⟨b, ys, e, hb, he⟩ := is_lst i2
      obtain ⟨xs1, h1, hd⟩ := (k2.gr _ (List.mem_of_getElem? hj)).2
      exact ⟨a, b, xs1, ys, rfl, by rw [e], h1, k2.ex _ _ hb, sz_of (by rw [hd.len, he.len]; exact hz), q F2 _ _ _ _ ((s1.trans s2).trans (.wr k2 hj)) (k2.wr (r' := .lst (ds ++ es)) hj ⟨_, upd_same, hd.app he⟩) isN p⟩
/-- xs.count(n) of ints -/
theorem we_count (h : WE W ta sl rs fun x rs1 => ∃ ns : List Int, x = .d (.list (ns.map PyData.int)) ∧ WA W tr sl rs1 fun xs rs2 => ∃ n, xs = [.d (.int n)] ∧ P (.d (.int (ns.count n : Nat))) rs2) : WE W (tBM K2 "list" (rCntI K2) ta tr) sl rs P := fun F H σ k Q q =>
  h F H σ k _ fun F1 H1 v x rs1 s1 k1 i1 ⟨ns, e, p1⟩ => by
    subst e
    obtain ⟨a, ys, e, ha, hd⟩ := is_lst i1
    have e2 := hd.ints
    subst e2
    subst e
    refine ⟨.inl ⟨rfl, _, SqL.of (k1.ex _ _ ha)⟩, p1 F1 H1 σ (k.go s1 k1) _ fun F2 H2 vs xs rs2 s2 k2 i2 ⟨n, e, p⟩ => ?_⟩
    subst e
    cases i2 with
    | cons i2 r =>
      cases r
      exact ⟨a, ns, n, rfl, by rw [is_int i2], SqL.of (k2.ex _ _ (s2.up _ _ ha)), q F2 H2 _ _ rs2 (s1.trans s2) k2 (isI _) p⟩
/-- xs.index(n) of ints -/
theorem we_index (h : WE W ta sl rs fun x rs1 => ∃ ns : List Int, x = .d (.list (ns.map PyData.int)) ∧ WA W tr sl rs1 fun xs rs2 => ∃ n, xs = [.d (.int n)] ∧ n ∈ ns ∧ P (.d (.int (ns.idxOf n : Nat))) rs2) : WE W (tBM K2 "list" (rIndex K2) ta tr) sl rs P := fun F H σ k Q q =>
  h F H σ k _ fun F1 H1 v x rs1 s1 k1 i1 ⟨ns, e, p1⟩ => by
    subst e
    obtain ⟨a, ys, e, ha, hd⟩ := is_lst i1
    have e2 := hd.ints
    subst e2
    subst e
    refine ⟨.inl ⟨rfl, _, SqL.of (k1.ex _ _ ha)⟩, p1 F1 H1 σ (k.go s1 k1) _ fun F2 H2 vs xs rs2 s2 k2 i2 ⟨n, e, hm, p⟩ => ?_⟩
    subst e
    cases i2 with
    | cons i2 r =>
      cases r
      have hl := List.idxOf_lt_length_of_mem hm
      refine ⟨a, ns.map V.int, .int n, ns.idxOf n, .int n, rfl, by rw [is_int i2], SqL.of (k2.ex _ _ (s2.up _ _ ha)), rfl, List.all_eq_true.mpr fun z hz => by obtain ⟨m, _, rfl⟩ := List.mem_map.mp hz; rfl, ?_, by simp [eqV], fun m z hlt hz => ?_, q F2 H2 _ _ rs2 (s1.trans s2) k2 (isI _) p⟩
      · rw [List.getElem?_map, List.getElem?_eq_getElem hl]
        simp
      · rw [List.getElem?_map] at hz
        cases e : ns[m]? with
        | none => rw [e] at hz; cases hz
        | some y =>
          rw [e] at hz
          cases hz
          obtain ⟨hm1, hm2⟩ := List.getElem?_eq_some_iff.mp e
          have hne : y ≠ n := by
            intro z
            have := List.not_of_lt_findIdx (p := (· == n)) (xs := ns) (i := m) hlt
            rw [hm2, z] at this
            simp at this
          simp [eqV, hne]
end
end Dl
end
section
set_option Elab.async false
set_option autoImplicit false
set_option linter.all false
set_option maxRecDepth 100000
set_option maxHeartbeats 1000000
/-! R2: a chain of three comparisons; in, index over tuples of data of any depth; set(list of ints); repr. -/
namespace Rx
open PySem PySem.Spec PyProof.Rows L2

section
variable {X : Cx}
def tChain3 (r1 r2 r3 : R2) (ta tb tc td : TE) : TE := fun σ H Q => ta σ H fun x Ha => tb σ Ha fun y Hb => r1 x y Hb fun z Hc => ∃ k, z = .bl k ∧
  (if k = true then tc σ Hc fun u Hd => r2 y u Hd fun z2 He => ∃ k2, z2 = .bl k2 ∧ (if k2 = true then td σ He fun v Hf => r3 u v Hf Q else Q (.bl false) He) else Q (.bl false) Hc)
theorem pe_chain3 {o1 o2 o3 : CmpOp} {r1 r2 r3 : R2} {a b c d : Expr} {ta tb tc td : TE} {pos : Pos} (h1 : OpR X (compareOp o1) r1) (h2 : OpR X (compareOp o2) r2) (h3 : OpR X (compareOp o3) r3) (ha : PE X a ta) (hb : PE X b tb) (hc : PE X c tc) (hd : PE X d td)
    (hm : lastMarks [o1, o2, o3] [b, c, d] = false := by with_unfolding_all rfl) : PE X (.Compare a [o1, o2, o3] [b, c, d] pos) (tChain3 r1 r2 r3 ta tb tc td) := by
  refine ⟨fun pins s σ H Q I h => Compare_chain (thn (ha.run pins s σ H _ I h) fun v sa ⟨x, Ha, Ia, ra, qa⟩ => chain_link (thn (hb.run pins sa σ Ha _ Ia qa) fun u sb ⟨y, Hb, Ib, rb, qb⟩ =>
    thn (h1 pins sb σ Hb x y v u _ Ib ra rb qb) fun e sc ⟨z, Hc, Ic, rc, k, ez, qc⟩ => ?_)) hm⟩
  subst ez
  cases rc
  refine wpAny_truthy_bool ?_
  cases k with
  | false => exact ite_ff ⟨.bl false, Hc, Ic, rfl, qc⟩
  | true =>
    refine ite_tt (chain_link (thn (hc.run pins sc σ Hc _ Ic qc) fun w1 sd ⟨u1, Hd, Id, rd, qd⟩ => thn (h2 pins sd σ Hd y u1 u w1 _ Id rb rd qd) fun e2 se ⟨z2, He, Ie, re, k2, ez2, qe⟩ => ?_))
    subst ez2
    cases re
    refine wpAny_truthy_bool ?_
    cases k2 with
    | false => exact ite_ff ⟨.bl false, He, Ie, rfl, qe⟩
    | true => exact ite_tt (chain_last (thn (hd.run pins se σ He _ Ie qe) fun w2 sf ⟨v1, Hf, If, rf, qf⟩ => h3 pins sf σ Hf u1 v1 w1 w2 Q If rd rf qf))

/-- x in t, t a tuple of data -/
def rInTD (K : PySem.W.Frag) : R2 := fun x y H Q => ∃ d ds, Dp K H x d ∧ Dp K H y (.tuple ds) ∧ SeqAt.shaped d = true ∧ SeqAt.shaped (.tuple ds) = true ∧ Q (.bl (ds.any fun z => PyData.eqv z d)) H
theorem op_inTD (hu : X.A.units + 65 < cLine) : OpR X (compareOp .In) (rInTD X.K) := fun pins s σ H x y v u Q I rx ry ⟨d, ds, hd, he, sd, se, q⟩ => by
  obtain ⟨_, ra⟩ := Dp.reads I d x v hd rx
  obtain ⟨_, rb⟩ := Dp.reads I (.tuple ds) y u he ry
  exact SeqAt.in_tuple_reads rb ra (SeqAt.canLay_of_shaped se) (SeqAt.canLay_of_shaped sd) (room_in_shaped sd hu) ⟨.bl _, H, I, rfl, q⟩
/-- t.index(x): the first equal one's place -/
def rIndexTD (K : PySem.W.Frag) : V → List V → Hp → VK → Prop := fun x xs H Q => ∃ (a : Addr) (y : V) (d : PyData) (ds : List PyData) (j : Nat) (z : PyData), x = V.ref a ∧ xs = [y] ∧ Dp K H (V.ref a) (.tuple ds) ∧ Dp K H y d ∧
  SeqAt.shaped (.tuple ds) = true ∧ SeqAt.shaped d = true ∧ ds[j]? = some z ∧ PyData.eqv z d = true ∧ (∀ (m : Nat) (z' : PyData), m < j → ds[m]? = some z' → PyData.eqv z' d = false) ∧ Q (.int (j : Nat)) H
theorem mt_indexTD (hu : X.A.units + 65 < cLine) : MtR X "tuple.index" (rIndexTD X.K) := fun pins s σ H x xs v us Q I rx rxs ⟨a, y, d, ds, j, z, ex, exs, hl, hy, sl, sd, hz, hzj, hno, q⟩ => by
  subst ex exs
  cases rx
  cases rxs with
  | @cons _ uy _ ut ry rt =>
    cases rt
    obtain ⟨_, rb⟩ := Dp.reads I d y uy hy ry
    have lay : PyData.canLayAll0 ds = true := SeqAt.canLay_of_shaped sl
    have room : X.A.units + 1 + min (PyData.depthAll ds) d.depth < cLine := room_in_shaped sd hu
    cases hl with
    | tup hs ha =>
      obtain ⟨its, rv, ⟨⟨cls, dd, data, sls⟩, ho, hc, n, hdt⟩, _⟩ := I.tuple hs
      simp only at hc hdt
      subst hc hdt
      obtain ⟨as, hr⟩ := Dp.readsAll I ds _ its ha rv
      have hn : its.length = ds.length := SeqAt.ReadsAll.length ds its as hr
      have hmap : its.map (SeqAt.readOf s.heap) = ds := SeqAt.readsAll_map ds its as lay hr
      have hjd := (List.getElem?_eq_some_iff.mp hz).1
      have at_ : ∀ (m : Nat) (hm : m < its.length) (z' : PyData), ds[m]? = some z' → SeqAt.readOf s.heap its[m] = z' := fun m hm z' hz' => by
        rw [← hmap, List.getElem?_map, List.getElem?_eq_getElem hm] at hz'
        exact Option.some.inj hz'
      have heq := SeqAt.items_eqAt (vs := its.toArray) (show ReadsAll s.heap its.toArray.toList ds as from hr) rb lay (SeqAt.canLay_of_shaped sd) room
      have hsz : its.toArray.size = its.length := List.size_toArray
      refine call_meets PySem.F.slot_tuple_index ⟨_, ho, rfl⟩ PySem.F.entry_tuple_index (PySem.F.args_tuple_index_2 _ _)
        (SeqAt.tuple_index2_found a its.toArray n dd sls uy (fun i => match its[i]? with | some u => PyData.eqv (SeqAt.readOf s.heap u) d | none => false) j (by omega) (Nat.zero_le _) (by omega) ?_ ?_) ⟨ho, fun i hi => ?_, ⟨.int (j : Nat), H, I.tok _, ⟨_, rfl⟩, q⟩⟩
      · rw [List.getElem?_eq_getElem (by omega)]
        show PyData.eqv (SeqAt.readOf s.heap its[j]) d = true
        rw [at_ j (by omega) z hz]
        exact hzj
      · intro m hm _ hlt
        rw [List.getElem?_eq_getElem (by omega)]
        show PyData.eqv (SeqAt.readOf s.heap its[m]) d = false
        have hz' : ds[m]? = some ds[m] := List.getElem?_eq_getElem (by omega)
        rw [at_ m (by omega) _ hz']
        exact hno m _ hlt hz'
      · have hil : i < its.length := by omega
        have e1 : (match its[i]? with | some u => PyData.eqv (SeqAt.readOf s.heap u) d | none => false) = PyData.eqv (SeqAt.readOf s.heap its[i]) d := by
          rw [List.getElem?_eq_getElem hil]
        have e2 : its.toArray[i] = its[i] := by simp
        have h3 := heq its.toArray[i] (by simp)
        rw [e2] at h3 ⊢
        rw [e1]
        exact h3
/-- tuple(xs) of a list: a new plain tuple -/
def rTupZ (K : PySem.W.Frag) : List V → Hp → VK → Prop := fun xs H Q => ∃ p ys, xs = [.ref p] ∧ SqL K H p ys ∧ ∀ (l : Addr) (o : Obj), o.dict = none → H l = none → Q (.ref l) (upd H l (.frz o (.tup ys)))
theorem call_tupZ : CallR X (.type "tuple") (rTupZ X.K) := fun pins s σ H xs us Q I r ⟨p, ys, e, hq, q⟩ => by
  subst e
  obtain ⟨u, rfl, rx⟩ := vals1 r
  cases rx
  obtain ⟨its, r', pl, hz⟩ := I.list hq
  have hlen := r'.length
  refine call_tuple_list pl.isList (fun h' kp => ?_) (by simp only [List.size_toArray]; omega)
  have Ia : Inv X pins σ H { s with heap := h' } := I.kept (t' := s.toks) kp
  have Ib : Inv X pins σ (upd H h'.objs.size (.frz { cls := .type "tuple", data := .seq its.toArray } (.tup ys))) { s with heap := h'.push { cls := .type "tuple", data := .seq its.toArray } } :=
    Ia.laid (t' := s.toks) (fun b o e => Heap.get?_push_of_some _ e) (Nat.le_refl _) ⟨Heap.get?_push_size _ rfl, hz, its, r', IsTup.new _ _⟩
  exact ⟨.ref h'.objs.size, _, Ib, rfl, q _ _ rfl (Ia.hok.fresh (Nat.le_refl _))⟩
/-- t.m(..), t such a tuple -/
def tBMZ (K : PySem.W.Frag) (r : V → List V → Hp → VK → Prop) (to : TE) (t : TA) : TE := fun σ H Q => to σ H fun x Ha => (∃ a o ys, x = .ref a ∧ Ha a = some (.frz o (.tup ys)) ∧ o.dict = none) ∧ t σ Ha fun xs Hb => r x xs Hb Q
theorem pe_bmZ {o e : Expr} {es : List Expr} {to : TE} {t : TA} {name : Str} {apos cpos : Pos} {id : String} {r : V → List V → Hp → VK → Prop} (pa : PlainAttrs "tuple") (slot : Slot "tuple" name id) (hty : typeOf (.builtin id) = pure (.type "method_descriptor")) (hm : MtR X id r) (ho : PE X o to) (ha : PA X (e :: es) t)
    (hbase : attributeBase o name X.env (eval o X.env) = eval o X.env := by rfl)
    (hfew : ((backTo cpos (starEach (e :: es) X.env)).all (fun x => !x.1) && (backToKw cpos (keywordEach [] X.env)).all (fun x => x.1.isSome) && decide ((e :: es).length + ([] : List Keyword).length + (if ([] : List Keyword).isEmpty then 0 else 1) < 30)) = true := by rfl)
    (hline : (apos.endLine == cpos.line) = true := by rfl) (hs : starEach (e :: es) X.env = (false, eval e X.env) :: starEach es X.env := by rfl) (hplain : (backTo cpos (starEach es X.env)).any (·.1) = false := by rfl) :
    PE X (.Call (.Attribute o name apos) (e :: es) [] cpos) (tBMZ X.K r to t) := ⟨fun pins s σ H Q I h => by
  refine wpAny_Call_method_late hbase hfew hline rfl (thn (ho.run pins s σ H _ I h) fun v sa ⟨x, Ha, Ia, ra, ⟨a, ob, ys, ex, hx, hd⟩, q⟩ => ?_)
  subst ex
  cases ra
  obtain ⟨hget, _, its, _, oo, ho1, hc1, _⟩ := (show ObjOk X.prog X.w Ha sa.heap a (.frz ob (.tup ys)) from Ia.hok a _ hx)
  have eo : oo = ob := by
    rw [hget] at ho1
    exact (Option.some.inj ho1).symm
  subst eo
  refine ⟨"tuple", id, pa, slot, hty, ⟨oo, hget, hc1⟩, fun b eb => ?_, ?_⟩
  · cases eb
    exact ⟨oo, hget, hd⟩
  have hA := ha.run cpos pins sa σ Ha _ Ia q
  rw [hs] at hA ⊢
  refine Calls.callWith_builtin (by show (false || (backTo cpos (starEach es X.env)).any (·.1)) = false; rw [hplain]; rfl) (Calls.evalArgs_plain (thn hA fun us sb ⟨vs, Hb, Ib, rb, qb⟩ => ?_))
  exact hm pins sb σ Hb (.ref a) vs (.ref a) us Q Ib rfl rb qb⟩
end
end Rx
end
section
set_option Elab.async false
set_option autoImplicit false
set_option linter.all false
set_option maxRecDepth 100000
set_option maxHeartbeats 3200000
/-! R3: set(a list of ints), for sorted(set(..)). -/
namespace Rx
open PySem PySem.Spec PyProof.Rows L2
abbrev eS (w : World) : Obj := { cls := .type "set", dict := none, data := .set #[] 0 (.fresh 0 0 (!w.params.followText "set-order")) }
section
variable {P : Program} {w : World} {A : Around} {E : Value → Shared → Prop} {s : Shared}
theorem call_setL {l : Addr} {items : Array Value} (ns : List Int) {Q : Value → Shared → Prop} (hh : A.handled = none) (hl : s.heap.IsList l items) (hit : IntsAre items.toList ns) (hb : ns.length + 1 < scanBound)
    (h : ∀ (h' : Heap) (tk c : Nat), SetR w h' s.heap.objs.size (fun j => decide (j ∈ ns)) c → c ≤ ns.length → (∀ b o, s.heap.get? b = some o → h'.get? b = some o) → Q (.ref s.heap.objs.size) { s with heap := h', toks := tk }) :
    wpAny (model P w) A (call (.type "set") [.ref l]) Q E s := by
  have q_sz : items.size = ns.length := by
    have q := IntsAre.length hit
    rw [Array.length_toList] at q
    exact q
  obtain ⟨c, tl, q_mro⟩ := F.called_set.mro
  have q_made := F.called_set.made
  have q_sub := F.called_set.sub
  refine wpAny_call (codeAny_of_tree ?_)
  show wpAny _ _ (callAny (.type "set") _) _ _ _
  refine wpAny_pure ⟨Code.quiet_builtin _ (by decide +kernel), codeAny_builtin F.entry_type_call ?_⟩
  rw [Around.under_plain (weight_type_call_type "set" [.ref l] []) rfl]
  have q_1 := F.called_set.notType
  have q_2 := F.called_set.canCreate
  have q_ct := F.typeCall_set_1 (.ref l)
  repeat (any_goals (first | exact q_made | assumption | wp_step))

  refine codeAny_mono (code_set_led1 (.ref l) (E := E) (Q₁ := fun obj s₁ => obj = .ref s.heap.objs.size ∧ s₁ = { s with heap := s.heap.push (eS w) }) ⟨rfl, rfl⟩) fun r s₁ hr => ?_
  cases r with
  | error e => exact hr
  | ok fl =>
    cases fl with
    | ret obj =>
      obtain ⟨rfl, rfl⟩ := hr
      have q_S : (s.heap.push (eS w)).get? s.heap.objs.size = some (eS w) := Heap.get?_push_size _ rfl
      have q_T : Shared.TypeIs { s with heap := s.heap.push (eS w) } (.ref s.heap.objs.size) "set" := ⟨_, q_S, rfl⟩
      have q_li := F.called_set.init.lookup
      have q_bi := F.called_set.init.bind (.ref s.heap.objs.size)
      repeat (any_goals (first | exact q_made | assumption | wp_step))

      refine codeAny_mono (codeAny_call_builtin (R := wants (fun r s₂ => r = .none ∧ ∃ h' tk c, s₂ = { s with heap := h', toks := tk } ∧ SetR w h' s.heap.objs.size (fun j => decide (j ∈ ns)) c ∧ c ≤ ns.length ∧
          (∀ b o, s.heap.get? b = some o → h'.get? b = some o)) E) F.called_set.init.plain F.entry_set_init (check_set_init_1 q_T ?_)) fun r₂ s₂ qr₂ => ?_
      · obtain ⟨ol, q_ol, hcl, nl, hdl⟩ := hl
        obtain ⟨ocls, odict, odata, oslots⟩ := ol
        simp only at hcl hdl
        subst hcl; subst hdl
        have q_ol' : (s.heap.push (eS w)).get? l = some { cls := .type "list", dict := odict, data := .seq items nl, slots := oslots } := Heap.get?_push_of_some _ q_ol
        have q_a := F.sub_list_set
        have q_b := F.sub_list_frozenset
        have q_ne : (Value.type "list" == Value.type "dict") = false := by decide
        have q_l1 : (s.heap.push (eS w)).IsList l items := ⟨_, q_ol', rfl, nl, rfl⟩
        unfold Builtin.«set.__init__» noKeywords Builtin.Frozenset.updateFrom
        generalize q_PI : pyIter = PI
        wp_walk
        subst q_PI

        refine wpAny_pyIter_list q_l1 ?_
        refine wpAny_bind (wpAny_runValue ?_)
        have q_lS : l < s.heap.objs.size := Heap.lt_size q_ol
        have q_h3 : A.in1.in1.in1.handled = none := by simp [hh]
        have q_z1 : (s.heap.push (eS w)).objs.size = s.heap.objs.size + 1 := Heap.size_push ..
        have q_nI : l ≠ (s.heap.push (eS w)).objs.size := by
          rw [Heap.size_push]; exact Nat.ne_of_lt (Nat.lt_succ_of_lt q_lS)
        have q_Sf : s.heap.objs.size ∉ [(s.heap.push (eS w)).objs.size, l] := by
          rw [Heap.size_push]; simp only [List.mem_cons, List.mem_singleton, List.not_mem_nil, or_false, not_or]
          exact ⟨Nat.ne_of_lt (Nat.lt_succ_self _), Nat.ne_of_gt q_lS⟩
        have q_val : ∀ (i : Nat) (v : Value), items[i]? = some v → ∃ k t, ns[i]? = some k ∧ v = .int k t := fun i v hv => by
          have hi : i < ns.length := by rw [← q_sz]; exact (Array.getElem?_eq_some_iff.mp hv).1
          obtain ⟨t, e⟩ := PyProof.Rows.IntsAre.int_at hit i v (by rw [Array.getElem?_toList]; exact hv)
          refine ⟨ns[i], t, List.getElem?_eq_getElem hi, ?_⟩
          rw [e, List.getD_eq_getElem?_getD, List.getElem?_eq_getElem hi] <;> rfl
        refine set_update_ints ((Walks.list q_h3 _ l q_nI items).toS) s.heap.objs.size
          q_Sf ns q_sz hb q_val (items.size - 0) 0 _ (by omega) (Nat.zero_le _)
          ⟨⟨_, Heap.get?_push_size _ rfl, rfl, rfl⟩, (q_l1.push _)⟩ ?q_S0 ?q_R
        case q_S0 =>
          have q_get : ((s.heap.push (eS w)).push { cls := .type "list_iterator", data := .fields #[.ref l, .int 0 0] }).get? s.heap.objs.size
              = some (eS w) := Heap.get?_push_of_some _ q_S
          exact ⟨0, Nat.le_refl 0, setR_new_at q_get⟩
        case q_R =>
          intro s' c' q_m hc' q_S'
          obtain ⟨h', g2, d', tk', os'⟩ := s'
          have eg : g2 = s.gens := q_m.gens
          have ed : d' = s.drawn := q_m.drawn
          have eo : os' = s.os := q_m.os
          subst eg; subst ed; subst eo
          show wpAny _ _ _ _ _ _
          refine wpAny_pure ?_
          show wpAny _ _ (ret Value.none) _ _ _
          rw [q_sz] at hc'
          refine wpAny_pure ⟨rfl, h', tk', c', rfl, q_S', hc', fun b o e => ?_⟩
          have q_b0 : b < s.heap.objs.size := Heap.lt_size e
          have q_b1 : b ≠ s.heap.objs.size := Nat.ne_of_lt q_b0
          have q_b2 : b ≠ (s.heap.push (eS w)).objs.size := by
            rw [Heap.size_push]; exact Nat.ne_of_lt (Nat.lt_succ_of_lt q_b0)
          exact q_m.heap b o (by simp only [List.mem_cons, List.mem_singleton, List.not_mem_nil, or_false, not_or]; exact ⟨q_b1, q_b2⟩) (Heap.get?_push_of_some _ (Heap.get?_push_of_some _ e))

      · cases r₂ with
        | error e => exact qr₂
        | ok fl₂ =>
          cases fl₂ with
          | ret r =>
            obtain ⟨rfl, h', tk, c', rfl, q_S', hc', hk'⟩ := qr₂
            repeat (any_goals (first | exact q_made | assumption | wp_step))
            exact h _ _ _ q_S' hc' hk'
          | _ => exact qr₂.elim
    | _ => exact hr.elim

end
section
variable {X : Cx}
/-- set(xs) of a list of ints -/
def rSetOfL (K : PySem.W.Frag) (w : World) : List V → Hp → VK → Prop := fun vs H Q => ∃ (a : Addr) (ns : List Int), vs = [V.ref a] ∧ SqL K H a (ns.map V.int) ∧ ns.length < 1000 ∧
  ∀ (p : Addr) (c : Nat), H p = none → c ≤ ns.length → Q (.ref p) (upd H p (SetO w p (fun j => decide (j ∈ ns)) c))
theorem cr_setL (hc : X.calm = true) : CallR X (.type "set") (rSetOfL X.K X.w) := fun pins s σ H vs us Q I r ⟨a, ns, e, hs, hl, q⟩ => by
  subst e
  obtain ⟨its, rv, hL, _⟩ := I.list hs
  rw [Vals.ref1 r]
  refine call_setL ns (I.ok.hd hc) hL.isList (by simpa using rv.ints) (by unfold scanBound; omega) fun h' tk c hS hn hk => ?_
  have hn0 : H s.heap.objs.size = none := I.hok.fresh (Nat.le_refl _)
  exact ⟨.ref _, _, I.laid (t' := tk) hk (Nat.le_refl _) (setO_new hS), rfl, q _ c hn0 hn⟩
end
end Rx
end
section
set_option Elab.async false
set_option autoImplicit false
set_option linter.all false
set_option maxRecDepth 100000
set_option maxHeartbeats 1000000
/-! D7: more rules by data: isinstance, in, index, stores by place, sorted(set(..)), chains of three, what is never reached. -/
namespace Rx
open PySem PySem.Spec PyProof.Rows L2
/-- a statement that is never reached -/
def tDead : TS := fun _ _ _ => False
theorem ps_dead {X : Cx} {st : Stmt} : PS X st tDead := ⟨fun _ _ _ _ _ _ h => h.elim⟩
def teDead : TE := fun _ _ _ => False
theorem pe_dead {X : Cx} {e : Expr} : PE X e teDead := ⟨fun _ _ _ _ _ _ h => h.elim⟩
end Rx
namespace Dl
open PySem PySem.Spec PyProof.Rows L2 Evl
section
variable {K : Fg} {E : XK} {W : Wd K E} {sl : Sl} {rs : Rs} {P P' : DV → Rs → Prop} {ta tb tc td te : TE} {i j : Nat} {dv : DV} {N N' : Po} {ts tu : TS} {tt : TT} {g : TG} {gs : TGs} {wi : TI} {tr : TA} {K2 : Fg} {f : Dsp} {R : Bool → Rs → Prop}
theorem wt_yes (h : R true rs) : WT W tYes sl rs R := fun F H σ k Q q => q F H true rs .refl k.1 h
theorem ws_dead (h : False) : WS W Rx.tDead sl rs N := h.elim
/-- the type's name -/
def tyD : PyData → String
  | .none => "NoneType" | .bool _ => "bool" | .int _ => "int" | .str _ => "str" | .list _ => "list" | .tuple _ => "tuple" | .dict _ => "tuple"
theorem ty_of {F H : Hp} {v : V} {d : PyData} (u : Up F H) (h : Dq F v d) : TyX K2 H v (.type (tyD d)) := by
  cases h with
  | non => exact .base .non
  | bl b => exact .base (.bl b)
  | int i => exact .base (.int i)
  | str x => exact .base (.str x)
  | lst h1 h2 => exact .base (.lst (u _ _ h1))
  | tup h1 h2 => exact .base (.tup (u _ _ h1))
  | zt h1 h3 h2 => exact .fTuple (u _ _ h1)
theorem we_isi (h : WA W tr sl rs fun xs rs1 => ∃ d n b, xs = [.d d, .ty n] ∧ kitB (tyD d) n = some b ∧ P (.d (.bool b)) rs1) : WE W (tCB (rIsi K2) tr) sl rs P := fun F H σ k Q q =>
  h F H σ k _ fun F1 H1 vs xs rs1 s1 k1 i1 ⟨d, n, b, e, hb, p⟩ => by
    subst e
    cases i1 with
    | @cons v _ _ _ i1 r =>
      cases r with
      | @cons v2 _ _ _ i2 r =>
        cases r
        have e2 : v2 = .ty n := i2
        subst e2
        exact ⟨v, .ty n, _, _, b, rfl, .ty n, ty_of k1.ex i1, kit_ty hb, q F1 H1 _ _ rs1 s1 k1 (isB _) p⟩
/-- isinstance(x, (T1, T2)) -/
def isSq (d : PyData) : Bool := match d with
  | .list _ => true
  | .tuple _ => true
  | .dict _ => true
  | _ => false
theorem we_isiSq (h : WE W te sl rs fun x rs1 => ∃ d, x = .d d ∧ P (.d (.bool (isSq d))) rs1) : WE W (tCB (rIsiT K2) (tCons te (tCons (tTup (tCons (tC (.ty "list")) (tCons (tC (.ty "tuple")) tNil))) tNil))) sl rs P := fun F H σ k Q q =>
  h F H σ k _ fun F1 H1 v x rs1 s1 k1 i1 ⟨d, e, p⟩ => by
    subst e
    refine ⟨by show 2 ≤ sizeLine; decide, fun a ha => ?_⟩
    have k2 := k1.new (o := .tup [.ty "list", .ty "tuple"]) ha
    have s2 := s1.trans (Stp.new (o := .tup [.ty "list", .ty "tuple"]) k1 ha)
    have i2 : Dq (upd F1 a (.tup [.ty "list", .ty "tuple"])) v d := Dq.up (Ex.new (k1.fn ha)) _ _ i1
    refine ⟨v, a, [.ty "list", .ty "tuple"], _, [.type "list", .type "tuple"], isSq d, rfl, upd_same, .cons (.ty _) (.cons (.ty _) .nil), ty_of k2.ex i2, ?_, q _ _ _ _ rs1 s2 k2 (isB _) p⟩
    have gen : ∀ (b c : Bool) (t : String), kitB t "list" = some b → kitB t "tuple" = some c → PySem.W.kitAny K2 (.type t) [.type "list", .type "tuple"] = some (b || c) := fun b c t h1 h2 =>
      kitAny_cons (kit_ty h1) (fun hb => by subst hb; exact kitAny_cons (kit_ty h2) (fun hc => by subst hc; rfl) (fun hc => by rw [hc]; rfl)) (fun hb => by rw [hb]; rfl)
    cases d with
    | none => exact gen false false "NoneType" (by decide +kernel) (by decide +kernel)
    | bool b => exact gen false false "bool" (by decide +kernel) (by decide +kernel)
    | int b => exact gen false false "int" (by decide +kernel) (by decide +kernel)
    | str b => exact gen false false "str" (by decide +kernel) (by decide +kernel)
    | list b => exact gen true false "list" (by decide +kernel) (by decide +kernel)
    | tuple b => exact gen false true "tuple" (by decide +kernel) (by decide +kernel)
    | dict b => exact gen false true "tuple" (by decide +kernel) (by decide +kernel)
/-- n in xs, of ints -/
theorem we_in (h : WE W ta sl rs fun x rs1 => WE W tb sl rs1 fun y rs2 => ∃ (n : Int) (ns : List Int), x = .d (.int n) ∧ y = .d (.list (ns.map PyData.int)) ∧ P (.d (.bool (decide (n ∈ ns)))) rs2) : WE W (tOp (rIn K2 false) ta tb) sl rs P := fun F H σ k Q q =>
  two k h fun F' H' v u x y rs' s k' i1 i2 ⟨n, ns, e1, e2, p⟩ => by
    subst e1 e2
    obtain ⟨a, xs, e, ha, hd⟩ := is_lst i2
    have ex := hd.ints
    subst ex
    rw [is_int i1]
    have hin : inV (.int n) (ns.map V.int) = decide (n ∈ ns) := by
      unfold inV
      rw [List.any_map]
      rw [Bool.eq_iff_iff, List.any_eq_true, decide_eq_true_iff]
      constructor
      · rintro ⟨m, hm, hq⟩
        have : m = n := by simpa [eqV] using hq
        exact this ▸ hm
      · intro hm
        exact ⟨n, hm, by simp [eqV]⟩
    refine ⟨a, _, e, .inl (SqL.of (k'.1.ex _ _ ha)), rfl, List.all_eq_true.mpr fun z hz => by obtain ⟨m, _, rfl⟩ := List.mem_map.mp hz; rfl, ?_⟩
    show Q (.bl (inV (.int n) (ns.map V.int))) H'
    rw [hin]
    exact q F' H' _ _ rs' s k'.1 (isB _) p
theorem we_notIn (h : WE W ta sl rs fun x rs1 => WE W tb sl rs1 fun y rs2 => ∃ (n : Int) (ns : List Int), x = .d (.int n) ∧ y = .d (.list (ns.map PyData.int)) ∧ P (.d (.bool (!decide (n ∈ ns)))) rs2) : WE W (tOp (rIn K2 true) ta tb) sl rs P := fun F H σ k Q q =>
  two k h fun F' H' v u x y rs' s k' i1 i2 ⟨n, ns, e1, e2, p⟩ => by
    subst e1 e2
    obtain ⟨a, xs, e, ha, hd⟩ := is_lst i2
    have ex := hd.ints
    subst ex
    rw [is_int i1]
    have hin : inV (.int n) (ns.map V.int) = decide (n ∈ ns) := by
      unfold inV
      rw [List.any_map, Bool.eq_iff_iff, List.any_eq_true, decide_eq_true_iff]
      constructor
      · rintro ⟨m, hm, hq⟩
        have : m = n := by simpa [eqV] using hq
        exact this ▸ hm
      · intro hm
        exact ⟨n, hm, by simp [eqV]⟩
    refine ⟨a, _, e, .inl (SqL.of (k'.1.ex _ _ ha)), rfl, List.all_eq_true.mpr fun z hz => by obtain ⟨m, _, rfl⟩ := List.mem_map.mp hz; rfl, ?_⟩
    show Q (.bl (!inV (.int n) (ns.map V.int))) H'
    rw [hin]
    exact q F' H' _ _ rs' s k'.1 (isB _) p
/-- d in t, data of any depth -/
theorem is_zt {F : Hp} {v : V} {ds : List PyData} (h : Is K F v (.d (zt ds))) : ∃ a o xs, v = .ref a ∧ F a = some (.frz o (.tup xs)) ∧ o.dict = none ∧ DqAll F xs ds := by
  have h' : Dq F v (zt ds) := h
  cases h' with
  | zt h1 h3 h2 => exact ⟨_, _, _, rfl, h1, h3, h2⟩
theorem sqT_frz {H : Hp} {a : Addr} {o : Obj} {xs : List V} (h : H a = some (.frz o (.tup xs))) : SqT K2 H a xs := .inl (.inr ⟨o, h⟩)
theorem we_inZ (h : WE W ta sl rs fun x rs1 => WE W tb sl rs1 fun y rs2 => ∃ (d : PyData) (ds : List PyData), x = .d d ∧ y = .d (zt ds) ∧ SeqAt.shaped d = true ∧ SeqAt.shaped (.tuple ds) = true ∧ P (.d (.bool (ds.any fun z => PyData.eqv z d))) rs2) : WE W (tOp (Rx.rInTD K2) ta tb) sl rs P := fun F H σ k Q q =>
  two k h fun F' H' v u x y rs' s k' i1 i2 ⟨d, ds, e1, e2, c1, c2, p⟩ => by
    subst e1 e2
    obtain ⟨a, o, xs, e, h1, h3, h2⟩ := is_zt i2
    subst e
    have c3 := SeqAt.canLay_of_shaped c2
    simp only [PyData.canLay0] at c3
    exact ⟨d, ds, Dq.dp k'.1.ex (SeqAt.canLay_of_shaped c1) i1, .tup (sqT_frz (k'.1.ex _ _ h1)) (DqAll.dp k'.1.ex c3 h2), c1, c2, q F' H' _ _ rs' s k'.1 (isB _) p⟩
theorem we_indexZ (h : WE W ta sl rs fun x rs1 => ∃ ds : List PyData, x = .d (zt ds) ∧ SeqAt.shaped (.tuple ds) = true ∧ WA W tr sl rs1 fun xs rs2 => ∃ d j z, xs = [.d d] ∧ SeqAt.shaped d = true ∧ ds[j]? = some z ∧ PyData.eqv z d = true ∧ (∀ (m : Nat) (z' : PyData), m < j → ds[m]? = some z' → PyData.eqv z' d = false) ∧ P (.d (.int (j : Nat))) rs2) : WE W (Rx.tBMZ K2 (Rx.rIndexTD K2) ta tr) sl rs P := fun F H σ k Q q =>
  h F H σ k _ fun F1 H1 v x rs1 s1 k1 i1 ⟨ds, e, sd, p1⟩ => by
    subst e
    obtain ⟨a, o, ys, e, ha, ho, hd⟩ := is_zt i1
    subst e
    refine ⟨⟨a, o, ys, rfl, k1.ex _ _ ha, ho⟩, p1 F1 H1 σ (k.go s1 k1) _ fun F2 H2 vs xs rs2 s2 k2 i2 ⟨d, j, z, e, sd2, h1, h2, h3, p⟩ => ?_⟩
    subst e
    have c3 := SeqAt.canLay_of_shaped sd
    simp only [PyData.canLay0] at c3
    cases i2 with
    | @cons y _ _ _ i2 r =>
      cases r
      exact ⟨a, y, d, ds, j, z, rfl, rfl, .tup (sqT_frz (k2.ex _ _ (s2.up _ _ ha))) (DqAll.dp k2.ex c3 (DqAll.up s2.up _ _ hd)), Dq.dp k2.ex (SeqAt.canLay_of_shaped sd2) i2, sd, sd2, h1, h2, h3, q F2 H2 _ _ rs2 (s1.trans s2) k2 (isI _) p⟩
/-- tuple(xs), of which it stays known that it is plain -/
theorem we_tupleZ (h : WA W tr sl rs fun xs rs1 => ∃ x ds, xs = [x] ∧ LstOf rs1 x ds ∧ P (.d (zt ds)) rs1) : WE W (tCB (Rx.rTupZ K2) tr) sl rs P := fun F H σ k Q q =>
  h F H σ k _ fun F1 H1 vs xs rs1 s1 k1 i1 ⟨x, ds, e, l, p⟩ => by
    subst e
    cases i1 with
    | cons i1 r =>
      cases r
      obtain ⟨a, ys, e, h1, h2⟩ := l.get k1 i1
      refine ⟨a, ys, by rw [e], SqL.of h1, fun b o ho hb => ?_⟩
      exact q _ _ _ _ rs1 (s1.trans (.new k1 hb)) (k1.new hb) (isD <| Dq.zt upd_same ho (DqAll.up (Ex.new (k1.fn hb)) _ _ h2)) p
/-- len, item of such a tuple -/
theorem we_lenZ (h : WA W tr sl rs fun xs rs1 => ∃ ds, xs = [.d (zt ds)] ∧ P (.d (.int (ds.length : Nat))) rs1) : WE W (tCB (fun xs H Q => ∃ p ys, xs = [.ref p] ∧ (SqL K2 H p ys ∨ SqT K2 H p ys) ∧ Q (.int ys.length) H) tr) sl rs P := fun F H σ k Q q =>
  h F H σ k _ fun F1 H1 vs xs rs1 s1 k1 i1 ⟨ds, e, p⟩ => by
    subst e
    cases i1 with
    | cons i1 r =>
      cases r
      obtain ⟨a, o, ys, e, ha, ho, hd⟩ := is_zt i1
      exact ⟨a, ys, by rw [e], .inr (sqT_frz (k1.ex _ _ ha)), by rw [hd.len]; exact q F1 H1 _ _ rs1 s1 k1 (isI _) p⟩
theorem we_ixZ (h : WE W ta sl rs fun x rs1 => WE W tb sl rs1 fun y rs2 => ∃ ds n d, x = .d (zt ds) ∧ y = .d (.int n) ∧ atI ds n = some d ∧ P (.d d) rs2) : WE W (tOp (rIxT K2) ta tb) sl rs P := fun F H σ k Q q =>
  two k h fun F' H' v u x y rs' s k' i1 i2 ⟨ds, n, d, e1, e2, hat, p⟩ => by
    subst e1 e2
    obtain ⟨a, o, xs, e, ha, ho, hd⟩ := is_zt i1
    obtain ⟨z, h1, h2⟩ : ∃ z, atI xs n = some z ∧ Dq F' z d := by
      unfold atI at hat ⊢
      rw [hd.len]
      cases hj : ixN ds.length n with
      | none => rw [hj] at hat; cases hat
      | some j =>
        rw [hj] at hat
        exact hd.get hat
    exact ⟨a, xs, n, z, e, is_int i2, sqT_frz (k'.1.ex _ _ ha), h1, q F' H' _ _ rs' s k'.1 (isD h2) p⟩
/-- xs[i] = e -/
theorem ws_setL (h : WE W te sl rs fun y rs1 => ∃ d, y = .d d ∧ WE W ta sl rs1 fun x rs2 => ∃ a, x = .p a ∧ WE W tb sl rs2 fun z rs3 => ∃ (n j : Nat) (ds : List PyData), z = .d (.int (n : Nat)) ∧ rs3[j]? = some (a, .lst ds) ∧ n < ds.length ∧ N.nx sl (rs3.set j (a, .lst (ds.set n d)))) : WS W (tAsg te (gSub ta tb rSetL)) sl rs N := fun F H σ D k e =>
  h F H σ k _ fun F1 H1 u y rs1 s1 k1 i1 ⟨d, ey, p1⟩ => by
    subst ey
    refine p1 F1 H1 σ (k.go s1 k1) _ fun F2 H2 v x rs2 s2 k2 i2 ⟨a, ex, p2⟩ => ?_
    subst ex
    refine p2 F2 H2 σ (k.go (s1.trans s2) k2) _ fun F3 H3 w z rs3 s3 k3 i3 ⟨n, j, ds, ez, hj, hn, p⟩ => ?_
    subst ez
    obtain ⟨xs, h1, h2⟩ := (k3.gr _ (List.mem_of_getElem? hj)).2
    have hl := h2.len
    have ev : v = .ref a := i2
    refine ⟨a, xs, (n : Nat), n, ev, is_int i3, h1, ?_, e.nx F3 _ σ sl _ (((s1.trans s2).trans s3).trans (.wr k3 hj)) (k3.wr (r' := .lst (ds.set n d)) hj ⟨_, upd_same, DqAll.set (Dq.up s3.up _ _ (Dq.up s2.up _ _ i1)) n h2⟩) p⟩
    unfold ixN
    rw [hl]
    simp
    omega
/-- sorted(set(xs)) -/
theorem we_sortedSet {w : World} (h : WE W te sl rs fun x rs1 => ∃ ns : List Int, x = .d (.list (ns.map PyData.int)) ∧ ns.length < 64 ∧ ∀ ms : List Int, ms.Pairwise (· < ·) → (∀ n, n ∈ ms ↔ n ∈ ns) → ms.length < 64 → P (.d (.list (ms.map PyData.int))) rs1) :
    WE W (tCB (rSortedSet w) (tCons (tCB (Rx.rSetOfL K2 w) (tCons te tNil)) tNil)) sl rs P := fun F H σ k Q q =>
  h F H σ k _ fun F1 H1 v x rs1 s1 k1 i1 ⟨ns, e, hl, p⟩ => by
    subst e
    obtain ⟨a, ys, e, ha, hd⟩ := is_lst i1
    have e2 := hd.ints
    subst e2
    refine ⟨a, ns, by rw [e], SqL.of (k1.ex _ _ ha), by omega, fun b c hb hc => ?_⟩
    have k2 := k1.new (o := SetO w b (fun j => decide (j ∈ ns)) c) hb
    have s2 := s1.trans (Stp.new (o := SetO w b (fun j => decide (j ∈ ns)) c) k1 hb)
    refine ⟨b, _, c, rfl, upd_same, by omega, fun ms p' h1 h2 h3 hp => ?_⟩
    exact q _ _ _ _ rs1 (s2.trans (.new k2 hp)) (k2.new hp) (isD <| Dq.lst upd_same (DqAll.of_ints ms)) (p ms h1 (fun n => (h2 n).trans decide_eq_true_iff) (by omega))
/-- a <= b <= c <= d of ints -/
theorem we_chain3 {g1 g2 g3 : Int → Int → Bool} (h : WE W ta sl rs fun x rs1 => WE W tb sl rs1 fun y rs2 => ∃ i j, x = .d (.int i) ∧ y = .d (.int j) ∧
    if g1 i j = true then WE W tc sl rs2 fun z rs3 => ∃ l, z = .d (.int l) ∧ (if g2 j l = true then WE W td sl rs3 fun z2 rs4 => ∃ m, z2 = .d (.int m) ∧ P (.d (.bool (g3 l m))) rs4 else P (.d (.bool false)) rs3) else P (.d (.bool false)) rs2) :
    WE W (Rx.tChain3 (rI0 fun i j => .bl (g1 i j)) (rI0 fun i j => .bl (g2 i j)) (rI0 fun i j => .bl (g3 i j)) ta tb tc td) sl rs P := fun F H σ k Q q =>
  two k h fun F' H' v u x y rs' s k' i1 i2 ⟨i, j, e1, e2, p⟩ => by
    subst e1 e2
    refine ⟨i, j, is_int i1, is_int i2, _, rfl, ?_⟩
    by_cases c : g1 i j = true
    · rw [if_pos c] at p ⊢
      refine p F' H' σ k' _ fun F2 H2 w z rs2 s2 k2 i3 ⟨l, e3, p3⟩ => ?_
      subst e3
      refine ⟨j, l, is_int i2, is_int i3, _, rfl, ?_⟩
      by_cases c2 : g2 j l = true
      · rw [if_pos c2] at p3 ⊢
        refine p3 F2 H2 σ (k'.go s2 k2) _ fun F3 H3 w2 z2 rs3 s3 k3 i4 ⟨m, e4, p4⟩ => ?_
        subst e4
        exact ⟨l, m, is_int i3, is_int i4, q F3 H3 _ _ rs3 ((s.trans s2).trans s3) k3 (isB _) p4⟩
      · rw [if_neg c2] at p3 ⊢
        exact q F2 H2 _ _ rs2 (s.trans s2) k2 (isB _) p3
    · rw [if_neg c] at p ⊢
      exact q F' H' _ _ rs' s k'.1 (isB _) p
/-- f(..), f of no object that may change -/
theorem we_callP (h : WA W tr sl rs fun xs rs1 => f xs [] (fun dv rs' => P dv (rs' ++ rs1)) (fun _ _ _ => False)) : WE W (tCall (toSp K f) [] E0 tr) sl rs P :=
  we_call fun F H σ k Q q => h F H σ k Q fun F' H' vs xs rs' s k' i p => q F' H' vs xs rs' s k' i ⟨[], rs', .refl _, p⟩
theorem we_callPX (h : WA W tr sl rs fun xs rs1 => f xs [] (fun dv rs' => P dv (rs' ++ rs1)) (fun C x rs' => W.X C x (rs' ++ rs1))) : WE W (tCall (toSp K f) [] E tr) sl rs P :=
  we_callX fun F H σ k Q q => h F H σ k Q fun F' H' vs xs rs' s k' i p => q F' H' vs xs rs' s k' i ⟨[], rs', .refl _, p⟩
end
end Dl
end
section
set_option Elab.async false
set_option autoImplicit false
set_option linter.all false
set_option maxRecDepth 100000
set_option maxHeartbeats 2000000
/-! R4: an error class of the program whose __init__ says super().__init__('..'); self.at = at (its base a class without own __init__ over ValueError): made, raised. -/
namespace Ex
open PySem PySem.W PySem.Calls PyProof.Rows PySem.HandSPX
def eA (p q : Pos) : Arguments := { posonlyargs := [], args := [{ arg := "self", annotation := none, pos := p }, { arg := "at", annotation := none, pos := q }], vararg := none, kwonlyargs := [], kw_defaults := [], kwarg := none, defaults := [] }
def eB (msg : Str) (p1 p2 p3 p4 p5 p6 p7 p8 p9 p10 : Pos) : List Stmt :=
  [.Expr (.Call (.Attribute (.Call (.Name "super" p1) [] [] p2) "__init__" p3) [.Constant (.str msg) 0 p4] [] p5) p6, .Assign [.Attribute (.Name "self" p7) "at" p8] (.Name "at" p9) p10]
def eS : Scope := { kind := .function, names := [(PySem.Str.ofString "self", .local), (PySem.Str.ofString "at", .local), (PySem.Str.ofString "__class__", .free), (PySem.Str.ofString "super", .globalImplicit)], isGenerator := false, isCoroutine := false, more := [] }
/-- super().__init__(msg): first the method, then its call -/
def Form (msg : Str) (p1 p2 p3 p4 p5 : Pos) : Prop := ∀ env : Env, ∃ pl : Sem Bool, eval (.Call (.Attribute (.Call (.Name "super" p1) [] [] p2) "__init__" p3) [.Constant (.str msg) 0 p4] [] p5) env = (do
      let ov ← attributeBase (.Call (.Name "super" p1) [] [] p2) "__init__" env (eval (.Call (.Name "super" p1) [] [] p2) env)
      standAt p3.atName
      let (f, first) ← holding [ov] (getMethod ov "__init__" pl)
      callWith p5 f first (backTo p5 (starEach [.Constant (.str msg) 0 p4] env)) [])
/-- what the top has left of such a class X at C, its __init__ at fI -/
structure Txt (P : Program) (K : Frag) (mg : Str → Option Value) (x : Str) (C fI : Addr) : Prop where
  gC : mg x = some (.ref C)
  cls : ∃ nm q N bs bm sn sub ab col dd k0 k1 k2 k3 k5, K.lookup C = some (excClassObj nm q C N bs bm true sn sub ab col dd k0 k1 k2 k3 k5 "ValueError.__new__") ∧ refsVE bm = true
  sa : findIn K (.ref C) "__setattr__" = some (some (.builtin "object.__setattr__"))
  xf : L2.XfC K C
  no : findIn K (.ref C) "at" = some none
  ini : findIn K (.ref C) "__init__" = some (some (.ref fI))
  tyI : typeIn K (.ref fI) = some (.type "function")
  kC : keepIn K (.ref C) = true
  tyC : typeIn K (.ref C) = some (.type "type")
  sup : ks_superIn K C C "__init__" = some (some (.builtin "ValueError.__init__"))
  ve : subIn K (.ref C) (.type "ValueError") = some true
  opq : nsIn K cStatics "thirdparty.any" = some none
  mro : mroIn K C (.ref C) = some true
  nsup : nsIn K mainGlobals "super" = some none
  top : (P.main.scope.names.lookup ("super" : Str)).isSome = false
  fn : ∃ (oc : Value) (od : Option Addr) (doc pm : Value) (an : Option Addr) (cda cc : Addr) (ct : Value) (osl : Array (Option Value)) (q msg : Str) (p q' p1 p2 p3 p4 p5 p6 p7 p8 p9 p10 : Pos),
    K.lookup fI = some ⟨oc, od, .func (ksFn "__init__" q (eA p q') (eB msg p1 p2 p3 p4 p5 p6 p7 p8 p9 p10) eS .none .none doc pm an (.ref cda) ct cc), osl⟩ ∧ codeIn K (.ref cda) q = true ∧ Form msg p1 p2 p3 p4 p5 ∧
    (∃ cl cld csl, K.lookup cc = some ⟨cl, cld, .cell (some (.ref C)), csl⟩) ∧ ∃ (ccl : Value) (cdd : Option Addr) (vs : Array Value) (ccs : Array (Option Value)) (file : Str) (tf : Tok), K.lookup cda = some ⟨ccl, cdd, .fields vs, ccs⟩ ∧ vs[2]? = some (.str file tf) ∧ ((P.main.file : Str) == file) = true
/-- what __init__ leaves of a fresh error at x -/
structure Done (h h' : Heap) (x C dx t1 : Addr) (v : Value) : Prop where
  keep : ∀ b o, b ≠ x → h.get? b = some o → h'.get? b = some o
  obj : h'.get? x = some { cls := .ref C, dict := some dx, data := .fields #[.ref t1, .none, .none, .none, .bool false, .none] }
  dbig : h.objs.size ≤ dx
  dne : dx ≠ x
  ns : h'.Ns1 dx (fun y => if y = "at" then some v else none)
/-- a made error -/
structure Made (h h' : Heap) (e C d : Addr) (v : Value) : Prop where
  keep : ∀ b o, h.get? b = some o → h'.get? b = some o
  new : h.objs.size ≤ e
  obj : ∃ oe vs, h'.get? e = some oe ∧ oe.cls = .ref C ∧ oe.dict = some d ∧ oe.data = .fields vs ∧ vs[1]? = some .none
  dbig : h.objs.size ≤ d
  dne : d ≠ e
  ns : h'.Ns1 d (fun y => if y = "at" then some v else none)
section
variable {prog : Program} {w : World} {A : Around} {E : Value → Shared → Prop} {h : Heap} {g : Array GenState} {d : Drawn} {t : Nat} {os : OsState}
variable {nm q : Str} {C N : Addr} {bs bm : List Value} {hdct : Bool} {sn : List Str} {sub : List Value} {ab : Bool} {col : Option Bool} {dd : Option Addr} {k0 k1 k2 k3 k5 : Option Value}
/-- ValueError.__init__ bound to a fresh error, called -/
theorem call_mw {u e t0 : Addr} {rest : List Value} {Q : Value → Shared → Prop} (hC : h.get? C = some (excClassObj nm q C N bs bm hdct sn sub ab col dd k0 k1 k2 k3 k5 "ValueError.__new__")) (he : h.get? e = some (excO C t0)) (hu : h.get? u = some (kxs_mw "ValueError.__init__" e)) (hz : rest.length ≤ sizeLine)
    (hq : ∀ h' t1, (∀ b o, b ≠ e → h.get? b = some o → h'.get? b = some o) → h'.get? e = some (excO C t1) → Q .none ⟨h', g, d, t, os⟩) : wpAny (model prog w) A (call (.ref u) rest) Q E ⟨h, g, d, t, os⟩ := by
  refine wpAny_call (codeAny_of_tree ?_)
  show wpAny _ A.in1 (callAny (.ref u) ⟨rest, []⟩) _ _ _
  simp only [callAny]
  refine wpAny_bind (wpAny_load hu ?_)
  have m1 : (Value.type "method-wrapper" == Value.type "method" || Value.type "method-wrapper" == Value.type "builtin_function_or_method" || Value.type "method-wrapper" == Value.type "method-wrapper") = true := by decide
  simp only [kxs_mw, m1, if_true]
  refine KFB.if_so (by decide) (wpAny_bind (ESX.check_bound F.excBase_ValueError hC he rfl (wpAny_bind (wpAny_pure (wpAny_pure ⟨plainId_quiet F.excBase_ValueError.init.plain _, codeAny_builtin F.excBase_ValueError.initEntry ?_⟩)))))
  exact exc_init_tree (cls := .ref C) (t0 := t0) (dv := none) (c2 := .none) (c3 := .none) (b4 := .bool false) he hz fun h' k e' t' => hq h' _ k e'
end
section
variable {prog : Program} {w : World} {A : Around} {E : Value → Shared → Prop} {R : Result → Shared → Prop} {s : Shared} {K : Frag} {mg mb : Str → Option Value} {x : Str} {C fI : Addr}
theorem ldL {M : Model} {A : Around} {E : Value → Shared → Prop} {s : Shared} {env : Env} {m : Str → Option Value} {y : Str} {pos : Pos} {v : Value} {Q : Value → Shared → Prop} (hn : s.heap.Ns env.locals m) (hv : m y = some v) (hk : env.scope.kind = .function) (hl : env.kindOf y = some .local) (hd : (y == ("__debug__" : Str)) = false) (h : Q v s) : wpAny M A (eval (.Name y pos) env) Q E s :=
  wpAny_Name (wpAny_loadName_local hk hl hn hv h) hd
theorem sup_init (T : Txt prog K mg x C fI) {e t0 : Addr} {v : Value} (X : K.In s.heap) (G : s.heap.Ns mainGlobals mg) (B : s.heap.Ns builtinsNs mb) (hmb : mb "super" = some (.type "super")) (hlim : s.heap.NoLimit) (he : s.heap.get? e = some (excO C t0)) (hne : K.lookup e = none) (hroom : A.depth < recursionLimit)
    (hq : ∀ h' tk dx t1, Done s.heap h' e C dx t1 v → R (.ok (.ret .none)) { s with heap := h', toks := tk }) : codeAny (model prog w) A (.call (.ref fI) ⟨[.ref e, v], []⟩) R s := by
  obtain ⟨oc, od, doc, pm, an, cda, cc, ct, osl, q, msg, p, q', p1, p2, p3, p4, p5, p6, p7, p8, p9, p10, ho, hcd, hF, ⟨cl, cld, csl, hcell⟩, ccl, cdd, vs, ccs, file, tf, hcode, hvs, hfile⟩ := T.fn
  obtain ⟨nm, qn, N, bs, bm, sn, sub, ab, col, dd, k0, k1, k2, k3, k5, hC, hbm⟩ := T.cls
  have hcl : clsIn K C = some { name := nm, bases := bs, mro := .ref C :: bm, ns := N, qualname := qn, hasDict := true, slotNames := sn, subclasses := sub, abstract := ab, collection := col, hasDel := false } := by unfold clsIn; rw [hC]
  have hsup := T.sup
  unfold ks_superIn at hsup
  rw [hcl] at hsup
  refine ks_codeAny_call_defAt (fd := ksFn "__init__" q (eA p q') (eB msg p1 p2 p3 p4 p5 p6 p7 p8 p9 p10) eS .none .none doc pm an (.ref cda) ct cc) (body := eB msg p1 p2 p3 p4 p5 p6 p7 p8 p9 p10) (binds := [("self", .ref e), ("at", v)]) hroom (X _ _ ho) rfl hlim (codeRec_of X hcd) rfl (BindsTo.of_eq rfl) (show ∀ x ∈ eS.names, x.2 ≠ .cell by decide) (by intro y hy; rcases List.mem_cons.mp hy with z | hy; (· rw [z]; rfl); rcases List.mem_cons.mp hy with z | hy; (· rw [z]; rfl); cases hy) (fun h₁ hns hk₁ => ?_) rfl rfl rfl
  have X₁ : K.In h₁ := X.keeps hk₁
  have he₁ := hk₁ _ _ he
  have hL : s.heap.objs.size < h₁.objs.size := hns.lt
  have neL : s.heap.objs.size ≠ e := Nat.ne_of_gt (Heap.lt_size he)
  obtain ⟨hp, g, d, tk, os⟩ := s
  obtain ⟨pl, hform⟩ := hF (callEnv (ksFn "__init__" q (eA p q') (eB msg p1 p2 p3 p4 p5 p6 p7 p8 p9 p10) eS .none .none doc pm an (.ref cda) ct cc) hp.objs.size fI)
  refine ks_wpAt_execs_cons (ks_wpAt_Expr_any (ks_wpAt_MethodCall (pl := pl) (he := hform) (ks_wpAt_super_base (fd := ksFn "__init__" q (eA p q') (eB msg p1 p2 p3 p4 p5 p6 p7 p8 p9 p10) eS .none .none doc pm an (.ref cda) ct cc) rfl rfl (by decide) rfl (X₁ _ _ ho) rfl rfl rfl (X₁ _ _ hcode) rfl hvs hfile T.top ?_)))
  refine ks_loadName_global rfl rfl (loadGlobal_builtin (G.keeps hk₁) (mg_none_of X G T.nsup) (B.keeps hk₁) hmb ⟨rfl, ?_⟩)
  refine wpAny_loadName_free rfl rfl rfl ⟨_, X₁ _ _ hcell, rfl⟩ (wpAny_loadName_local rfl rfl hns rfl (ks_wpAny_isType_cls (X₁ _ _ hC) rfl ⟨rfl, ?_⟩))
  refine ks_wpAny_call_super (X₁ _ _ hC) rfl he₁ rfl (fun c z => by cases z) (looks_mroIn X₁ T.mro) (fun h₂ hso k₂ => ?_)
  have X₂ : K.In h₂ := X₁.keeps k₂
  have he₂ := k₂ _ _ he₁
  have I₂ : InstAt h₂ e (excO C t0) C none := ⟨he₂, rfl, rfl, trivial⟩
  have hso2 := hso
  refine kxs_getMethod kxs_ValueError hso (looks_opaque X₂ T.opq) (l₀ := .ref C :: bm) (fun A Q E s k q => wpAny_bind ((looks_clsIn X₂ hcl) A _ E s k (wpAny_pure q))) rfl X₂ hsup (I₂.type.andThen (looks_subIn X₂ T.ve)) (ks_ne X₂ I₂ hcl) (by decide) ?_
  have hu : (h₂.push (kxs_mw "ValueError.__init__" e)).get? h₂.objs.size = some (kxs_mw "ValueError.__init__" e) := Heap.get?_push_size _ rfl
  refine kxs_callWith (i := "ValueError.__init__") (x := e) rfl (evalArgs_plain ?_)
  show wpAny _ _ (spliced ((false, eval (.Constant (.str msg) 0 p4) (callEnv (ksFn "__init__" q (eA p q') (eB msg p1 p2 p3 p4 p5 p6 p7 p8 p9 p10) eS .none .none doc pm an (.ref cda) ct cc) hp.objs.size fI)) :: backTo p5 (starEach [] (callEnv (ksFn "__init__" q (eA p q') (eB msg p1 p2 p3 p4 p5 p6 p7 p8 p9 p10) eS .none .none doc pm an (.ref cda) ct cc) hp.objs.size fI)))) _ _ _
  refine spliced_cons (Constant_str (k := 0) (pos := p4) (spliced_nil ⟨hu, ?_⟩))
  have up : ∀ b o, h₁.get? b = some o → (h₂.push (kxs_mw "ValueError.__init__" e)).get? b = some o := fun b o z => Heap.get?_push_of_some _ (k₂ b o z)
  refine call_mw (up _ _ (X₁ _ _ hC)) (up _ _ he₁) hu (by show 1 ≤ sizeLine; rw [sizeLine_eq]; decide) (fun h₃ t1 k₃ he₃ => ?_)
  have keep3 : ∀ b o, b ≠ e → h₁.get? b = some o → h₃.get? b = some o := fun b o hb z => k₃ b o hb (up b o z)
  have X₃ : K.In h₃ := fun a o z => keep3 a o (fun z2 => by rw [z2, hne] at z; cases z) (X₁ a o z)
  have hns₃ : h₃.Ns hp.objs.size (fun y => ([("self", Value.ref e), ("at", v)] : List (Str × Value)).reverse.lookup y) := by
    obtain ⟨oL, es, ep, hoL, r⟩ := hns
    exact ⟨oL, es, ep, keep3 _ _ neL hoL, r⟩
  show PySem.wpAt _ _ _ (execs _ _) _ _ _
  refine wpAt_of_wpAny (wpAny_execs_cons (plainObj_wpAny_Assign_Attribute ?_))
  refine ldL (v := v) hns₃ rfl rfl rfl (by decide) (ldL (v := .ref e) hns₃ rfl rfl rfl (by decide) ?_)
  refine set_plain X₃ (ox := excO C t1) (od := none) ⟨he₃, rfl, rfl, trivial⟩ T.sa ?_
  refine exc_osa X₃ he₃ hcl (show refsVE (.ref C :: bm) = true from hbm) rfl T.no (fun h₄ tk₄ dx k₄ dn dne he₄ hn₄ => ?_)
  show wpAny _ _ (execs _ _) _ _ _
  refine wpAny_execs_nil (hq h₄ tk₄ dx t1 ⟨fun b o hb z => k₄ b o hb (keep3 b o hb (hk₁ b o z)), he₄, ?_, dne, hn₄⟩)
  have z3 : hp.objs.size < h₃.objs.size := hns₃.lt
  exact Nat.le_of_lt (Nat.lt_of_lt_of_le z3 dn)
theorem sup_made (T : Txt prog K mg x C fI) {v : Value} (X : K.In s.heap) (G : s.heap.Ns mainGlobals mg) (B : s.heap.Ns builtinsNs mb) (hmb : mb "super" = some (.type "super")) (hlim : s.heap.NoLimit) (hroom : A.depth + 1 < recursionLimit)
    (hq : ∀ h' tk e d, Made s.heap h' e C d v → R (.ok (.ret (.ref e))) { s with heap := h', toks := tk }) : codeAny (model prog w) A (.call (.ref C) ⟨[v], []⟩) R s := by
  obtain ⟨nm, q, N, bs, bm, sn, sub, ab, col, dd, k0, k1, k2, k3, k5, hC, hbm⟩ := T.cls
  obtain ⟨hp, g, dr, tk, os⟩ := s
  have k : ∀ b o, hp.get? b = some o → ((hp.push (kdv_tup [v])).push (excO C hp.objs.size)).get? b = some o := fun b o z => Heap.get?_push_of_some _ (Heap.get?_push_of_some _ z)
  have sz1 : (hp.push (kdv_tup [v])).objs.size = hp.objs.size + 1 := Heap.size_push ..
  have hget : ((hp.push (kdv_tup [v])).push (excO C hp.objs.size)).get? (hp.objs.size + 1) = some (excO C hp.objs.size) := by
    have z := Heap.get?_push_size (hp.push (kdv_tup [v])) (o := excO C hp.objs.size) rfl
    rw [sz1] at z
    exact z
  have hnx : K.lookup (hp.objs.size + 1) = none := by
    cases z : K.lookup (hp.objs.size + 1) with
    | none => rfl
    | some o =>
      have z2 := Heap.lt_size (show hp.get? (hp.objs.size + 1) = some o from X _ _ z)
      exact absurd (Nat.lt_of_succ_lt z2) (Nat.lt_irrefl _)
  refine call_own F.excBase_ValueError (fun Y => refsVE_contains Y bm hbm) (X _ _ hC) (looks_findIn X T.ini) (fun self => bind_fn X self T.tyI) (by rw [sizeLine_eq]; exact (by decide : 1 ≤ 16777216)) ?_
  refine sup_init (s := ⟨(hp.push (kdv_tup [v])).push (excO C hp.objs.size), g, dr, tk, os⟩) T (X.keeps k) (G.keeps k) (B.keeps k) hmb (hlim.keeps k) hget hnx ?_ fun h' tk' dx t1 ⟨k', hx, dn, dne, hns⟩ => ?_
  · show A.depth + 1 < recursionLimit
    exact hroom
  · have sz2 : ((hp.push (kdv_tup [v])).push (excO C hp.objs.size)).objs.size = hp.objs.size + 1 + 1 := by rw [Heap.size_push, sz1]
    have dn' : hp.objs.size + 1 + 1 ≤ dx := by
      rw [← sz2]; exact dn
    exact ⟨rfl, hq h' tk' (hp.objs.size + 1) dx ⟨fun b o z => k' b o (Nat.ne_of_lt (Nat.lt_succ_of_lt (Heap.lt_size z))) (k b o z), Nat.le_succ _, ⟨_, _, hx, rfl, rfl, rfl, rfl⟩, Nat.le_trans (Nat.le_trans (Nat.le_succ _) (Nat.le_succ _)) dn', dne, hns⟩⟩
end
end Ex
end
section
set_option Elab.async false
set_option autoImplicit false
set_option linter.all false
set_option maxRecDepth 100000
set_option maxHeartbeats 2000000
/-! R5: raise X(e), X such a class; the same by data. -/
namespace Rx
open PySem PySem.Spec PyProof.Rows L2
theorem boot_super : bootBuiltins "super" = some (.type "super") := by decide +kernel
theorem relO_at {v : V} {v' : Value} (r : RelV v v') (f : Str) : RelO (List.lookup f [(("at" : Str), v)]) (if f = "at" then some v' else none) := by
  by_cases hw : f = "at"
  · subst hw
    rw [if_pos rfl, show List.lookup ("at" : Str) [(("at" : Str), v)] = some v by simp [List.lookup]]
    exact r
  · have qw : (f == ("at" : Str)) = false := by simpa using hw
    rw [if_neg hw, show List.lookup f [(("at" : Str), v)] = none by simp [List.lookup, qw]]
    trivial
def tMkErr (C : Addr) (ta : TA) : L2.St → Hp → XK → Prop := fun σ H Q => ta σ H fun vs Ha => ∃ v, vs = [v] ∧ ∀ d, Ha d = none → Q (.ref C) (some d) (upd Ha d (.xd [(("at" : Str), v)]))
section
variable {X : Cx} {C fI : Addr}
theorem pmk_err {x : Str} {a : Expr} {ta : TA} {p pos : Pos} {k : Nat} (T : Ex.Txt X.prog X.K X.mg x C fI) (hr : Room k X.A) (ha : PA X [a] ta) (hg : Gl X x) (hd : (x == ("__debug__" : Str)) = false)
    (he : starEach (a :: []) X.env = (false, eval a X.env) :: starEach [] X.env) (hpl : (backTo pos (starEach [] X.env)).any (·.1) = false) : PMk X (.Call (.Name x p) [a] [] pos) (tMkErr C ta) := by
  intro pins s σ H Q I h
  refine wpAny_Call_Name_kw (ld_glob I hg T.gC (PySem.W.callWith_K (h₀ := X.base) I.ok.mod.kin T.kC (thn (ha.run pos pins s σ H _ I h) fun us sa hh => ?_) he hpl) hd)
  obtain ⟨vs, Ha, Ia, ra, v, ev, qa⟩ := hh
  subst ev
  refine ⟨Ia.kIn, ?_⟩
  cases ra with
  | @cons _ v' _ us' rv rn =>
    cases rn
    show wpAny _ _ (call (.ref C) [v']) _ _ _
    have hlim := Ia.nolimit
    obtain ⟨mb, b1, b2⟩ := Ia.mod.blt
    have G := Ia.mod.glob.keeps Ia.bk
    have B := b1.keeps Ia.bk
    obtain ⟨hp, g, dr, tk, os⟩ := sa
    refine wpAny_call (Ex.sup_made T Ia.kIn G B ((b2 _ (by decide)).trans boot_super) hlim (by have := hr.dp; omega) fun h' tk' e d M => ?_)
    show MkP X pins σ Q (.ref e) ⟨h', g, dr, tk', os⟩
    obtain ⟨oe, fv, hoe, hc, hd, hdat, hnone⟩ := M.obj
    have hns := M.ns
    obtain ⟨G', ga, gb⟩ := restrict h' fun b => decide (b ≠ e)
    have gk : ∀ b, b ≠ e → G'.get? b = h'.get? b := fun b hb => ga b (decide_eq_true hb)
    have ge : G'.get? e = none := gb e (by simp)
    have old : ∀ b o, hp.get? b = some o → G'.get? b = some o := fun b o q => (gk b (Nat.ne_of_lt (Nat.lt_of_lt_of_le (Heap.lt_size q) M.new))).trans (M.keep b o q)
    have ob : ObjOk X.prog X.w (upd Ha d (.xd [(("at" : Str), v)])) G' d (.xd [(("at" : Str), v)]) := ⟨_, hns.at (fun o q => (gk d M.dne).trans q), fun f => relO_at rv f⟩
    have J : Inv X pins σ (upd Ha d (.xd [(("at" : Str), v)])) ⟨G', g, dr, tk', os⟩ := Ia.laid (t' := tk') old M.dbig ob
    refine ⟨e, oe, fv, ⟨G', g, dr, tk', os⟩, _, .ref C, some d, rfl, J, fun b o q => ?_, ge, hoe, ⟨hc, hd⟩, hdat, hnone, ?_, rfl, Ia.bare, raises_own T.xf.exC T.tyC, qa d (Ia.hok.fresh M.dbig)⟩
    · by_cases hb : b = e
      · have q' : G'.get? b = some o := q
        rw [hb, ge] at q'; cases q'
      · exact (gk b hb).symm.trans q
    · rw [upd_ne (Ne.symm M.dne)]
      exact Ia.hok.fresh M.new
def tRaise (C : Addr) (W : WX) (ta : TA) : TS := fun _ σ H => tMkErr C ta σ H fun cls d H' => W cls d σ H'
theorem ps_raiseErr {x : Str} {a : Expr} {ta : TA} {W : WX} {p pos pos2 : Pos} {k : Nat} (hc : X.calm = true) (T : Ex.Txt X.prog X.K X.mg x C fI) (hr : Room k X.A) (tk : Takes X W) (ha : PA X [a] ta) (hg : Gl X x := by rfl) (hd : (x == ("__debug__" : Str)) = false := by decide)
    (he : starEach (a :: []) X.env = (false, eval a X.env) :: starEach [] X.env := by rfl) (hpl : (backTo pos (starEach [] X.env)).any (·.1) = false := by rfl) : PS X (.Raise (some (.Call (.Name x p) [a] [] pos)) none pos2) (tRaise C W ta) := ps_raise hc tk (pmk_err T hr ha hg hd he hpl)
end
end Rx
namespace Dl
open PySem PySem.Spec PyProof.Rows L2 Evl
section
variable {K : Fg} {E : XK} {W : Wd K E} {sl : Sl} {rs : Rs} {N : Po} {tr : TA}
/-- an object of no interest is laid -/
theorem KnL.side {F H : Hp} {σ : L2.St} {p : Addr} {o : HO} (k : KnL K F H σ sl rs) (hp : H p = Option.none) : KnL K F (upd H p o) σ sl rs where
  ex := fun a u e => by rw [upd_ne (ne_of_none e (k.fn hp))]; exact k.ex a u e
  gs := k.gs
  ln := k.ln
  gr := fun z hz => ⟨(k.gr z hz).1, (k.gr z hz).2.up (Ex.refl F) (upd_ne fun e => k.nr hp (e ▸ List.mem_map.mpr ⟨z, hz, rfl⟩))⟩
  nd := k.nd
theorem Stp.side {F H : Hp} {p : Addr} {o : HO} (hp : H p = none) : Stp F H rs F (upd H p o) rs where
  up := Ex.refl F
  fr := fun a u e _ => by rw [upd_ne (ne_of_none e hp)]; exact e
  th := fun a e => by
    by_cases hb : a = p
    · rw [hb]; exact hp
    · rw [upd_ne hb] at e; exact e
  nw := fun a h _ _ => h
  ow := fun _ m => .inl m
theorem ws_raise {C : Addr} (h : WA W tr sl rs fun xs rs1 => ∃ d, xs = [.d d] ∧ W.X C d rs1) : WS W (Rx.tRaise C (fun cls d _ H => E cls d H) tr) sl rs N := fun F H σ D k e =>
  h F H σ k _ fun F1 H1 vs xs rs1 s1 k1 i1 ⟨d, ex, hX⟩ => by
    subst ex
    cases i1 with
    | @cons v _ _ _ i1 r =>
      cases r
      refine ⟨v, rfl, fun dd hd => ?_⟩
      exact W.xo F1 _ C d v dd rs1 ((k.go s1 k1).2.trans (.side hd)) (k1.side hd).none hX upd_same i1
end
end Dl
end
section
set_option Elab.async false
set_option autoImplicit false
set_option linter.all false
set_option maxRecDepth 100000
set_option maxHeartbeats 2000000
/-! R6: a list comprehension whose element may raise. -/
namespace Rx
open PySem PySem.Spec PyProof.Rows L2
section
variable {X : Cx} {pins : List (Addr × Obj)} {σ : L2.St} {Hb : Hp} {sb s' : Shared} {W : WX} {E : XK} {C : Addr} {ce : Env}
theorem comp_fail (hs : X.stack = X.env :: X.outer) (hf : X.env.frame = some X.env.locals) (tk : Takes X W) (hW : ∀ cls d σ H, E cls d H → W cls d σ H) (J : Inv X pins σ Hb sb) (hC : FpOk X pins Hb C) (hn : ∃ m, sb.heap.Ns C m) (cL : ce.locals = C) (cF : ce.frame = X.env.frame)
    {u : Value} (c : L2.CX X.prog X.w X.stack Hb sb E u s') : notedBy (model X.prog X.w) X.A ce (CompFails (model X.prog X.w) X.A X.xe ce) u s' := by
  subst cL
  obtain ⟨a, B, Ha, cls, d, rfl, fl, hok, ub, na, os, ag, hE⟩ := c
  have hfr : X.A.frames = some (X.env :: X.outer) := by rw [J.ok.frames, hs]
  have nfr : ce.locals ∉ frs X.stack := fun z => by
    rcases List.mem_cons.mp (J.stkSub _ z) with e | e
    · exact hC.2.1 e
    · exact hC.2.2.1 e
  obtain ⟨m0, oC, es, ep, hoC, hdC, r0⟩ := hn
  have bC := ub.keep _ oC hoC hC.1 nfr
  have aC0 := ub.free _ oC hoC hC.1
  have sC := fl.1 _ oC bC
  show wpAny _ _ (noteFrame (.ref a) ce) _ _ s'
  rw [noteFrame_env _ cF]
  have fl' : HandSPX.FlyingZ B (X.env :: X.outer) a (Zc cls d) s'.heap := by rw [← hs]; exact fl
  refine HandSPX.looks_onZ Zc.steady hfr hf fl' fun h1 hH up => ?_
  obtain ⟨k1, k2, k3, oe, vs, T, oT, ts, he, hz, hd, hv, hnT, hTe, hT, hdT, h3⟩ := hH
  obtain ⟨slC, c1⟩ := up _ oC sC (by intro vs q; rw [hdC] at q; cases q)
  refine ⟨m0, ⟨_, es, ep, c1, hdC, r0⟩, fun h2 m2 hn2 hs2 => ?_⟩
  have aC : a ≠ ce.locals := fun z => by
    rw [z, c1] at he
    cases he
    have : (Obj.data oC) = .fields vs := hd
    rw [hdC] at this
    cases this
  have TC : T ≠ ce.locals := fun z => by
    rw [z, c1] at hT
    cases hT
    have : (Obj.data oC) = .fields ts := hdT
    rw [hdC] at this
    cases this
  have e2 : h2.get? a = some oe := (hs2.2 a aC).trans he
  have t2 : h2.get? T = some oT := (hs2.2 T TC).trans hT
  have hBn : ∀ b, B.get? b = none → (PySem.W.hideAll B [ce.locals]).get? b = none := fun b e => by
    cases q : (PySem.W.hideAll B [ce.locals]).get? b with
    | none => rfl
    | some o =>
      have z := PySem.W.of_hideAll _ q
      rw [e] at z; cases z
  have hBc : ∀ b o, (PySem.W.hideAll B [ce.locals]).get? b = some o → B.get? b = some o ∧ b ≠ ce.locals := fun b o e => ⟨PySem.W.of_hideAll _ e, fun z => by
    rw [z, PySem.W.hideAll_none _ List.mem_cons_self] at e
    cases e⟩
  have st2 : (PySem.W.hideAll B [ce.locals]).StaysIn h2 := fun b o e => (hs2.2 b (hBc b o e).2).trans (k1 b o (hBc b o e).1)
  have ff2 : h2.FunFrames (PySem.W.hideAll B [ce.locals]) (X.env :: X.outer) := funFrames_none (Heap.FunFrames.sameBut hs2 hn2 k3) fun L hL => hBn L (k3.mem hL).1
  unfold PySem.passOn
  refine wpAny_bind (wpAny_field e2 hd hv ?_)
  rw [if_neg (show ¬ ((Value.ref T == Value.none) = true) from by simp)]
  have fin : wpAny (model X.prog X.w) X.A (setFlight (.ref a) ce.frame) (fun _ s4 => wpAny (model X.prog X.w) X.A (throw (.ref a) : Sem Value) (fun _ _ => False) X.xe s4) X.xe { s' with heap := h2 } := by
    rw [cF, hf]
    refine HandSPX.setFlight_anyZ st2 ff2 ⟨oe, vs, T, oT, ts, e2, hz, hd, hv, hBn T hnT, hTe, t2, hdT, h3⟩ fun h4 st4 ff4 tr4 up4 => wpAny_throw (tk _ _ ?_)
    obtain ⟨G, g1, g2⟩ := restrict h4 fun b => ((PySem.W.hideAll B [ce.locals]).get? b).isSome || decide (b ∈ frs X.stack)
    have gB : ∀ b o, (PySem.W.hideAll B [ce.locals]).get? b = some o → G.get? b = some o := fun b o e => by
      rw [g1 b (by simp [e])]
      exact st4 b o e
    have gF : ∀ b, b ∈ frs X.stack → G.get? b = h4.get? b := fun b hb => g1 b (by simp [hb])
    have og : ∀ b o, G.get? b = some o → h4.get? b = some o ∧ (((PySem.W.hideAll B [ce.locals]).get? b).isSome = true ∨ b ∈ frs X.stack) := fun b o e => by
      cases q : (((PySem.W.hideAll B [ce.locals]).get? b).isSome || decide (b ∈ frs X.stack)) with
      | false => rw [g2 b q] at e; cases e
      | true =>
        rw [g1 b q] at e
        exact ⟨e, by simpa [Bool.or_eq_true] using q⟩
    have slot : ∀ b o, sb.heap.get? b = some o → b ∈ frs X.stack → ∃ sl, G.get? b = some { o with slots := sl } := fun b o e hb => by
      obtain ⟨_, o0, eo, hnf⟩ := J.stack.mem hb
      rw [e] at eo
      cases eo
      obtain ⟨s1, q1⟩ := ub.slot b o e hb
      obtain ⟨s2, q2⟩ := up b _ q1 hnf
      have q3 := (hs2.2 b (fun z => nfr (z ▸ hb))).trans q2
      obtain ⟨s4, q4⟩ := up4 b _ q3 hnf
      exact ⟨s4, by rw [gF b hb]; exact q4⟩
    have J' : Inv X pins σ Ha { sb with heap := G, gens := s'.gens, drawn := s'.drawn, toks := s'.toks } := by
      refine J.call (ch := [ce.locals]) ⟨fun b o e n hb hc => gB b o (PySem.W.hideAll_get _ (ub.keep b o e n hb) hc), fun b o e n hb hc => slot b o e hb, fun b o e n hc => ub.free b o e n, fun b o e hc => ?_, ub.tups, ub.frzs, ub.tbls⟩ (fun b v q => ?_) ag (fun b hb => ?_)
      · by_cases hb : b ∈ frs X.stack
        · obtain ⟨sl, q⟩ := slot b o e hb
          exact ⟨_, q⟩
        · obtain ⟨o', q⟩ := ub.there b o e hb
          exact ⟨o', gB b o' (PySem.W.hideAll_get _ q hc)⟩
      · refine (hok b v q).stay (fun c z hc r => gB c z (PySem.W.hideAll_get _ r fun hm => ?_)) (fun _ r => r) fun _ _ r => r
        have ec : c = ce.locals := List.mem_singleton.mp hm
        rcases hc with hc | hc
        · rw [← hc, ec, aC0] at q; cases q
        · rw [ec, aC0] at hc; cases hc
      · have eb : b = ce.locals := List.mem_singleton.mp hb
        rw [eb]
        exact ⟨hC.2.2.2.1, hC.2.1, hC.2.2.2.2.1, hC.2.2.2.2.2⟩
    refine ⟨a, PySem.W.hideAll B [ce.locals], _, pins, σ, Ha, cls, d, rfl, J', fun b o e hb => ?_, Heap.UpToSlots.of_keeps fun b o e => (og b o e).1, .inr (.inr (by rw [hs]; exact ⟨st4, hBn a k2, ff4, tr4⟩)), na, os, ag, hW _ _ _ _ hE⟩
    obtain ⟨e', h⟩ := og b o e
    rcases h with h | h
    · obtain ⟨o', q⟩ := Option.isSome_iff_exists.mp h
      have z := st4 b o' q
      rw [e'] at z; cases z
      exact q
    · exact absurd h hb
  first
    | exact wpAny_bind (wpAny_pure (wpAny_bind fin))
    | exact wpAny_bind fin
end
section
variable {X : Cx}
theorem lcX_core {pins : List (Addr × Obj)} {s : Shared} {σ : L2.St} {H : Hp} {Q : VK} {elt tg iter : Expr} {ifs : List Expr} {scope : Scope} {own : List (Str × Nat)} {pos pos' : Pos} {wi : TI} {g : TG} {tt : TT} {te : TE} {E : XK} {Wx : WX} {use : Option (Value → Sem Unit)} {Qf : Value → Shared → Prop}
    (hc : X.calm = true) (hN : X.N.Nodup) (I : Inv X pins σ H s) (hi : PI X tg iter wi) (ok : BlkOk X.N X.env.scope scope own)
    (hg : ∀ (s : Shared) (H : Hp) (C : Addr) (cl : List (Str × Addr)) (fp : List Addr), PG (X.blk s H scope (compEnvC scope cl C X.env) fp) tg g) (ht : ∀ (s : Shared) (H : Hp) (C : Addr) (cl : List (Str × Addr)) (fp : List Addr), PTs (X.blk s H scope (compEnvC scope cl C X.env) fp) ifs tt)
    (hst : X.stack = X.env :: X.outer) (hfm : X.env.frame = some X.env.locals) (tk : Takes X Wx) (hW : ∀ cls d σ H, E cls d H → Wx cls d σ H)
    (he : ∀ (s : Shared) (H : Hp) (C : Addr) (cl : List (Str × Addr)) (fp : List Addr) (xe : Value → Shared → Prop), Passes (L2.CX X.prog X.w) ((X.blk s H scope (compEnvC scope cl C X.env) fp).wish xe) E → PE ((X.blk s H scope (compEnvC scope cl C X.env) fp).wish xe) elt te) (hs : ∀ x, foldedSetIterable iter X.env x = pure x)
    (h : tLc wi g tt te (own.map (·.2)) σ H Q)
    (hRR : ∀ (D : Addr) (cv : Env) (s' : Shared) m H', Inv X pins σ H' s' → Q (.ref D) H' → s'.heap.Ns cv.locals m → FpOk X pins H' cv.locals → compEnds (model X.prog X.w) X.A X.xe use Qf (.ref D) cv (.ok .next) s') :
    wpAny (model X.prog X.w) X.A (comprehension (.ListComp elt [⟨tg, iter, ifs, 0⟩] scope pos) scope X.env pos' (newList []) false (eval iter X.env) use) Qf X.xe s := by
  have hfree : ∀ y ∈ scope.names, y.2 = .free → ∃ c, X.env.cells.lookup y.1 = some c := fun y hy e => by
    rcases ok.free y hy e with k | k
    · exact I.ok.has _ (.inl k)
    · exact I.ok.has _ (.inr k)
  refine comprehension_at (use := use) rfl hs (closure_ok hfree) ok.kind (fun y hy e => by rw [ok.uniq y hy, e])
    (thn (hi.run pins s σ H _ I h) fun xv sA hhx => thn hhx fun itv sB hh2 => ?_)
  obtain ⟨it, fp, tn, J, hB, e, iB, T, tB, gB, q⟩ := hh2
  subst e
  refine wpAny_newObj_type (newEnv_comp ?_) (by show 0 ≤ sizeLine; decide)
  generalize zh : sB.heap.objs.size = D
  have zn : hB D = none := iB.hok.fresh (Nat.le_of_eq zh)
  obtain ⟨W, ⟨m0, wZ⟩, trn⟩ := q D zn
  -- the new list
  generalize zC : ({ sB with heap := sB.heap.push { cls := .type "list", data := .seq ([] : List Value).toArray } } : Shared) = sC
  have iC : Inv X pins σ (upd hB D (.lst [])) sC := by
    rw [← zC]
    refine iB.laid (t' := sB.toks) (fun b o e => Heap.get?_push_of_some _ e) (Nat.le_of_eq zh) ⟨Nat.zero_le _, [], 0, .nil, ?_⟩
    rw [← zh]
    exact Heap.get?_push_size _ rfl
  have h3 : sC.heap = sB.heap.push { cls := .type "list", data := .seq ([] : List Value).toArray } := by rw [← zC]
  have sz : ∀ b ∈ fp, b < sB.heap.objs.size := fun b hb => by
    obtain ⟨o, e, _⟩ := T.obj _ _ tB b hb
    exact Heap.lt_size e
  have gC : ∀ b ∈ fp, FpOk X pins (upd hB D (.lst [])) b ∧ b < sC.heap.objs.size := fun b hb => by
    have hlt := sz b hb
    refine ⟨⟨?_, (gB b hb).2⟩, by rw [h3, Heap.size_push]; exact Nat.lt_succ_of_lt hlt⟩
    rw [upd_ne (by rw [← zh]; exact Nat.ne_of_lt hlt)]
    exact (gB b hb).1
  have tC : tn 0 sC.heap := T.keep _ _ _ tB fun b _ o e => by rw [h3]; exact Heap.get?_push_of_some _ e
  have iD := block_start iC ok hN gC
  have pG := hg sC (upd hB D (.lst [])) sC.heap.objs.size (cellsFrom (sC.heap.objs.size + 1) scope.names (cloFrom X.env.cells scope.names [])) fp
  have pT := ht sC (upd hB D (.lst [])) sC.heap.objs.size (cellsFrom (sC.heap.objs.size + 1) scope.names (cloFrom X.env.cells scope.names [])) fp
  have pE := he sC (upd hB D (.lst [])) sC.heap.objs.size (cellsFrom (sC.heap.objs.size + 1) scope.names (cloFrom X.env.cells scope.names [])) fp
  show codeAny _ _ (.compStart (.ListComp elt [⟨tg, iter, ifs, 0⟩] scope pos) 0 (.ref it) (.ref D) (compEnvC scope (cellsFrom (sC.heap.objs.size + 1) scope.names (cloFrom X.env.cells scope.names [])) sC.heap.objs.size X.env)) (compEnds (model X.prog X.w) X.A X.xe use Qf (.ref D) (compEnvC scope (cellsFrom (sC.heap.objs.size + 1) scope.names (cloFrom X.env.cells scope.names [])) sC.heap.objs.size X.env)) { sC with heap := pushCells (sC.heap.push { cls := .type "dict", data := .dict #[] }) scope.names }
  have nfq : ∀ b ∈ fp, (upd hB D (.lst [])) b = none := fun b hb => (gC b hb).1.1
  generalize ze : compEnvC scope (cellsFrom (sC.heap.objs.size + 1) scope.names (cloFrom X.env.cells scope.names [])) sC.heap.objs.size X.env = ce at iD pG pT pE ⊢
  have zL : ce.locals = sC.heap.objs.size := by subst ze; rfl
  have zF : ce.frame = X.env.frame := by subst ze; rfl
  generalize zH : upd hB D (.lst []) = hC at iC iD pG pT pE wZ nfq gC
  generalize zD : ({ sC with heap := pushCells (sC.heap.push { cls := .type "dict", data := .dict #[] }) scope.names } : Shared) = sD at iD ⊢
  have tD : tn 0 sD.heap := T.keep _ _ _ tC fun b _ o e => by rw [← zD]; exact pushCells_keeps _ _ _ _ (Heap.get?_push_of_some _ e)
  have stt : ∀ {σ' : L2.St} {H' : Hp} {s' : Shared}, Inv (X.blk sC hC scope ce fp) [] σ' H' s' → (∀ b ∈ fp, H' b = none) → ∀ b ∈ fp, FpOk (X.blk sC hC scope ce fp) [] H' b := fun {σ' H' s'} I' hn b hb =>
    ⟨hn b hb, (I'.ok.exf b hb).1, I'.ok.exfs b hb, .inl hb, fun x c e => (I'.ok.exf b hb).2 x c e, fun p hp => absurd (show p ∈ ([] : List (Addr × Obj)) ++ [] from hp) (by simp)⟩
  have lop : codeAny (model X.prog X.w) X.A (.compLoop (.ListComp elt [⟨tg, iter, ifs, 0⟩] scope pos) 0 (.ref it) (.ref D) ce) (compEnds (model X.prog X.w) X.A X.xe use Qf (.ref D) ce) sD := by
    refine compLoop_any (fun n s' => ∃ i H', Inv (X.blk sC hC scope ce fp) [] (wipe σ (own.map (·.2))) H' s' ∧ tn i s'.heap ∧ (∀ b ∈ fp, H' b = none) ∧ W i n H') ?_ m0 ⟨0, hC, iD, tD, nfq, wZ⟩
    rintro n sE ⟨i, hE, iE, tE, mE, wE⟩
    rcases trn i n hE wE with ⟨stp, qq⟩ | ⟨go, Nx, hNx, stq⟩
    · have td := T.done (X.blk sC hC scope ce fp) rfl rfl rfl hc i [] sE _ hE (fun _ _ => False) iE (stt iE mE) tE stp
      refine thnF td fun r sF ⟨hr, iF⟩ => ?_
      subst hr
      -- back in the def's context
      have iG : Inv X pins σ hE sF := iC.call' (ch := fp) iF.os iF.base iF.hok iF.bare fun b hb => ⟨(gC b hb).1.2.2.2.1, (gC b hb).1.2.1, (gC b hb).1.2.2.2.2.1, (gC b hb).1.2.2.2.2.2⟩
      have nC : hE ce.locals = none := iF.free
      obtain ⟨m, hn, _⟩ := iF.loc
      exact hRR D ce sF m hE iG qq hn (iC.fpOk (Nat.le_of_eq zL.symm) nC)
    · have ti := T.item (X.blk sC hC scope ce fp) rfl rfl rfl hc i [] sE _ hE (fun _ _ => False) iE (stt iE mE) tE go
      refine thnF ti fun r sF ⟨u, hr, h6⟩ => ?_
      subst hr
      refine thnF h6 fun _ sG ⟨x, hG, iG, r7, y7, tG, mG⟩ => ?_
      have iG' := iG.pinned (stt iG mG) (T.obj _ _ tG)
      refine thnF (pG.run _ sG _ hG x u _ iG' r7 (stq x hG y7)) fun _ sH ⟨σ8, hH, iH, hwH, qH⟩ => ?_
      refine thnF (pT.run _ sH σ8 hH _ iH qH) fun b sI ⟨hI, iI, qI⟩ => ?_
      -- the turn's end
      have fnn : ∀ {s' : Shared} {H' : Hp}, Inv (X.blk sC hC scope ce fp) ([] ++ pinsAt fp sG.heap) σ8 H' s' → Nx H' → ∃ m, m < n ∧ ∃ i H', Inv (X.blk sC hC scope ce fp) [] (wipe σ (own.map (·.2))) H' s' ∧ tn i s'.heap ∧ (∀ b ∈ fp, H' b = none) ∧ W i m H' := fun {s' H'} I' nx => by
        obtain ⟨m', hm, w'⟩ := hNx H' nx
        have pin' : ∀ b ∈ fp, ∀ o, sG.heap.get? b = some o → s'.heap.get? b = some o ∧ H' b = none := fun b hb o e =>
          let z := I'.pin (b, o) (List.mem_append_right _ (List.mem_append_right _ (mem_pinsAt hb e)))
          ⟨z.1, z.2.1⟩
        have hl : (wipe σ (own.map (·.2))).length = σ8.length := by rw [← hwH, wipe_length]
        refine ⟨m', hm, i + 1, H', (I'.unpinned (pins := [])).weak hl (fun j v e => ?_), T.keep _ _ _ tG fun b hb o e => (pin' b hb o e).1, fun b hb => ?_, w'⟩
        · rw [← hwH] at e
          exact (wipe_some e).1
        · obtain ⟨o, e, _⟩ := T.obj _ _ tG b hb
          exact (pin' b hb o e).2
      cases b with
      | false =>
        simp only [Bool.false_eq_true, if_false] at qI ⊢
        exact fnn iI qI
      | true =>
        simp only [if_true] at qI ⊢
        have conv : (fun e s' => compEnds (model X.prog X.w) X.A X.xe use Qf (.ref D) ce (.error e) s') = CompFails (model X.prog X.w) X.A X.xe ce := by cases use <;> rfl
        have hp : Passes (L2.CX X.prog X.w) ((X.blk sC hC scope ce fp).wish (notedBy (model X.prog X.w) X.A ce fun e s' => compEnds (model X.prog X.w) X.A X.xe use Qf (.ref D) ce (.error e) s')) E := fun pinsb σb Hb sb u s' Ib c => by
          have Iu := Ib.unwish
          have iJ : Inv X pins σ Hb sb := iC.call' (ch := fp) Iu.os Iu.base Iu.hok Iu.bare fun b hb => ⟨(gC b hb).1.2.2.2.1, (gC b hb).1.2.1, (gC b hb).1.2.2.2.2.1, (gC b hb).1.2.2.2.2.2⟩
          obtain ⟨m, hn, _⟩ := Iu.loc
          show notedBy _ _ _ (fun e s' => compEnds (model X.prog X.w) X.A X.xe use Qf (.ref D) ce (.error e) s') _ _
          rw [conv]
          exact comp_fail hst hfm tk hW iJ (iC.fpOk (Nat.le_of_eq zL.symm) Iu.free) ⟨m, hn⟩ rfl zF c
        refine wpAny_mono ((pE _ hp).run _ sI σ8 hI _ (iI.wish _) qI) (fun z sJ ⟨yv, hJ, iJw, r10, acc, hD10, hz10, nx⟩ => ?_) fun _ _ z => z
        have iJ := iJw.unwish
        exact app_ok (X := X.blk sC hC scope ce fp) iJ hD10 hz10 r10 fun sK iK => fnn iK nx
  exact codeAny_compStart_list lop (T.self X.A 0 _ _ _ tD lop)
/-- [e for target in ..], e may raise -/
theorem pe_lcX {elt tg iter : Expr} {ifs : List Expr} {scope : Scope} {own : List (Str × Nat)} {pos : Pos} {wi : TI} {g : TG} {tt : TT} {te : TE} {E : XK} {Wx : WX} (hc : X.calm = true) (hN : X.N.Nodup) (hi : PI X tg iter wi) (ok : BlkOk X.N X.env.scope scope own)
    (hg : ∀ (s : Shared) (H : Hp) (C : Addr) (cl : List (Str × Addr)) (fp : List Addr), PG (X.blk s H scope (compEnvC scope cl C X.env) fp) tg g) (ht : ∀ (s : Shared) (H : Hp) (C : Addr) (cl : List (Str × Addr)) (fp : List Addr), PTs (X.blk s H scope (compEnvC scope cl C X.env) fp) ifs tt)
    (hst : X.stack = X.env :: X.outer) (hfm : X.env.frame = some X.env.locals) (tk : Takes X Wx) (hW : ∀ cls d σ H, E cls d H → Wx cls d σ H)
    (he : ∀ (s : Shared) (H : Hp) (C : Addr) (cl : List (Str × Addr)) (fp : List Addr) (xe : Value → Shared → Prop), Passes (L2.CX X.prog X.w) ((X.blk s H scope (compEnvC scope cl C X.env) fp).wish xe) E → PE ((X.blk s H scope (compEnvC scope cl C X.env) fp).wish xe) elt te) (hs : ∀ x, foldedSetIterable iter X.env x = pure x := by intro _; rfl) :
    PE X (.ListComp elt [⟨tg, iter, ifs, 0⟩] scope pos) (tLc wi g tt te (own.map (·.2))) := by
  refine ⟨fun pins s σ H Q I h => ?_⟩
  rw [eval_ListComp]
  refine lcX_core hc hN I hi ok hg ht hst hfm tk hW he hs h fun D cv s' m H' I' q hn f => ⟨m, hn, fun h'' sb => ?_⟩
  obtain ⟨j0, j1, j2, j3, j4, j5⟩ := f
  exact ⟨.ref D, H', I'.turned (t' := s'.toks) (fun b o hb e => (sb.2 b hb).trans e) j0 j1 j3 j4 j5, rfl, q⟩
/-- name = [..] on one line, the name a local -/
theorem ps_setLcX {i : Nat} {y : Str} {py : Pos} {elt tg iter : Expr} {ifs : List Expr} {scope : Scope} {own : List (Str × Nat)} {pos spos : Pos} {wi : TI} {g : TG} {tt : TT} {te : TE} {E : XK} {Wx : WX} (hc : X.calm = true) (hN : X.N.Nodup) (hy : X.N[i]? = some y) (hyl : X.env.scope.names.lookup y = some .local)
    (hsw : swapsWith (.ListComp elt [⟨tg, iter, ifs, 0⟩] scope pos) (some (.Name y py)) spos.line X.env = pure true) (hi : PI X tg iter wi) (ok : BlkOk X.N X.env.scope scope own)
    (hg : ∀ (s : Shared) (H : Hp) (C : Addr) (cl : List (Str × Addr)) (fp : List Addr), PG (X.blk s H scope (compEnvC scope cl C X.env) fp) tg g) (ht : ∀ (s : Shared) (H : Hp) (C : Addr) (cl : List (Str × Addr)) (fp : List Addr), PTs (X.blk s H scope (compEnvC scope cl C X.env) fp) ifs tt)
    (hst : X.stack = X.env :: X.outer) (hfm : X.env.frame = some X.env.locals) (tk : Takes X Wx) (hW : ∀ cls d σ H, E cls d H → Wx cls d σ H)
    (he : ∀ (s : Shared) (H : Hp) (C : Addr) (cl : List (Str × Addr)) (fp : List Addr) (xe : Value → Shared → Prop), Passes (L2.CX X.prog X.w) ((X.blk s H scope (compEnvC scope cl C X.env) fp).wish xe) E → PE ((X.blk s H scope (compEnvC scope cl C X.env) fp).wish xe) elt te) (hs : ∀ x, foldedSetIterable iter X.env x = pure x := by intro _; rfl) :
    PS X (.Assign [.Name y py] (.ListComp elt [⟨tg, iter, ifs, 0⟩] scope pos) spos) (tAsg (tLc wi g tt te (own.map (·.2))) (gName i)) := by
  refine ⟨fun pins s σ H D I h => ?_⟩
  rw [exec_Assign_Name_used _ _ _ _ (hsw)]
  refine wpAny_bind (wpAny_standAt (wpAny_bind ?_))
  show wpAny _ X.A (do let _ ← comprehension (.ListComp elt [⟨tg, iter, ifs, 0⟩] scope pos) scope X.env (firstIterPos [⟨tg, iter, ifs, 0⟩] pos) (newList []) false (eval iter X.env) (some (assign (.Name y py) X.env))) _ _ s
  have h : tLc wi g tt te (own.map (·.2)) σ H (fun x H1 => gName i x σ H1 D.nx) := h
  refine wpAny_bind (thn (lcX_core (Qf := fun _ s' => SP X pins D .next s') hc hN I hi ok hg ht hst hfm tk hW he hs h fun L cv s' m H' I' q hn f => ?_) fun _ s' hq => wpAny_pure (wpAny_pure hq))
  show wpAny _ _ (assign (.Name y py) X.env (.ref L)) _ _ _
  refine wpAny_assign_Name (store_ok2 (v := V.ref L) I' hN hy (.inl hyl) rfl (fun s2 I2 ⟨a, sb, ha⟩ => ?_) (.inr hyl))
  obtain ⟨j0, j1, j2, j3, j4, j5⟩ := f
  have haC : cv.locals ≠ a := by
    rcases ha with z | z
    · rw [z]; exact j1
    · exact fun e => j4 y a z e.symm
  refine ⟨m, hn.sameBut sb haC, fun h3 sb4 => ?_⟩
  exact ⟨_, H', I2.turned (t' := s2.toks) (fun b o hb e => (sb4.2 b hb).trans e) j0 j1 j3 j4 j5, q⟩
end
end Rx
end
section
set_option Elab.async false
set_option autoImplicit false
set_option linter.all false
set_option maxRecDepth 100000
set_option maxHeartbeats 2000000
/-! R7: several clauses «except X as n»; isinstance of a caught error; repr of data. -/
namespace Rx
open PySem PySem.Spec PyProof.Rows L2
/-- behind a suite its name is gone -/
def dGone (i : Nat) (D : Ends) : Ends := { nx := fun σ' H' => D.nx (σ'.set i none) H', rt := D.rt, bk := fun σ' H' => D.bk (σ'.set i none) H', ct := fun σ' H' => D.ct (σ'.set i none) H' }
/-- what the clauses wish of an exception of the body, one after the other -/
def wManyA (K : PySem.W.Frag) (i : Nat) (Wout : WX) (D : Ends) : List (Value × (Addr → Value → Option Addr → TS)) → WX
  | [] => Wout
  | (c, ts) :: r => fun cls d σ H => ∃ b, PySem.W.exmOne K cls c = some b ∧ (b = true → ∀ a, H a = none → ts a cls d (dGone i D) (σ.set i (some (.ref a))) H) ∧ (b = false → wManyA K i Wout D r cls d σ H)
inductive HdsA (X : Cx) (i : Nat) (n : Str) : List ExceptHandler → List (Value × (Addr → Value → Option Addr → TS)) → Prop
  | nil : HdsA X i n [] []
  | cons {x : Str} {c : Value} {ts : Addr → Value → Option Addr → TS} {b₀ : Stmt} {suite : List Stmt} {np pos' : Pos} {hds : List ExceptHandler} {l : List (Value × (Addr → Value → Option Addr → TS))} (hc : Names X x c)
      (hsu : ∀ (a : Addr) (oe : Obj) (cls : Value) (d : Option Addr) (pn : List (Addr × Obj)), Zc cls d oe → (∃ vs, oe.data = .fields vs) → PSs (X.suite a ((a, oe) :: pn)) (b₀ :: suite) (ts a cls d)) (r : HdsA X i n hds l) : HdsA X i n (.ExceptHandler (some (.Name x np)) (some n) (b₀ :: suite) pos' :: hds) ((c, ts) :: l)
section
variable {X : Cx} {body : List Stmt} {h₀ : ExceptHandler} {hds : List ExceptHandler} {l : List (Value × (Addr → Value → Option Addr → TS))} {pos : Pos} {tb : WX → TS} {Wout : WX}
theorem ps_try_manyA {i : Nat} {n : Str} (hs : X.stack = X.env :: X.outer) (hf : X.env.frame = some X.env.locals) (hN : X.N.Nodup) (hi : X.N[i]? = some n) (hln : X.env.kindOf n = some .local) (tk : Takes X Wout)
    (hb : ∀ (W : WX) (pn : List (Addr × Obj)) (xe : Value → Shared → Prop), Takes (X.tr pn xe) W → PassesOwn (model X.prog X.w) X.A X.env xe → PSs (X.tr pn xe) body (tb W))
    (hh : HdsA X i n (h₀ :: hds) l) : PS X (.Try body (h₀ :: hds) [] [] pos) (fun D σ H => tb (wManyA X.K i Wout D l) D σ H) := by
  refine ⟨fun pins s σ H D I h => ?_⟩
  have ok := I.ok
  have hloc : Loc X.env.scope n := .inl hln
  have zfr : X.A.frames = some (X.env :: X.outer) := by rw [ok.frames, hs]
  refine wpAny_Try_except ?_
  refine wpAny_mono ((hb (wManyA X.K i Wout D l) (X.pn ++ pins) (fun e s₁ => wpAny (model X.prog X.w) X.A (noteFrame e X.env) (fun _ s₂ => wpAny (model X.prog X.w) X.A (setFlight e none) (fun _ s₃ =>
    wpAny (model X.prog X.w) X.A (handleBy e X.env (h₀ :: hds)) (SP X pins D) X.xe s₃) X.xe s₂) X.xe s₁) (fun u s' xx => ?_) PassesOwn.looking).run [] s σ H D (I.toTry _) h) (fun f s1 hfl => ?_) (fun e s1 he => he)
  · -- the catch
    obtain ⟨a, B, sI, pins', σ', H', cls, d, rfl, jA, nb, up, sky, na, os, ag, w⟩ := xx
    have jB : Inv X pins σ' H' sI := jA.ofTry ok
    have skyA : Sky B (X.env :: X.outer) a (Zc cls d) X.env.locals s'.heap := by rw [← hs]; exact sky
    show wpAny (model X.prog X.w) X.A (noteFrame (.ref a) X.env) _ _ _
    refine Sky.land Zc.steady zfr hf skyA fun kC flC upC => ?_
    have jC : Inv X pins σ' H' { s' with heap := kC } := jB.landed nb flC.1 (up.trans upC) os ag
    obtain ⟨oC, vC, eC, zC, dC⟩ := flC.there
    have nofr : ∀ {h : Heap} {o : Obj} {vs : Array Value}, h.FunFrames B (X.env :: X.outer) → h.get? a = some o → o.data = .fields vs → a ∉ frs (X.env :: X.outer) := fun {h o vs} ff e dd hm => by
      obtain ⟨_, o', e', hnf⟩ := ff.mem hm
      rw [e] at e'; cases e'
      exact hnf _ dd
    have nfz := nofr flC.2.2.1 eC dC
    have zL : a ≠ X.env.locals := fun z => nfz (List.mem_filterMap.mpr ⟨X.env, List.mem_cons_self, by rw [hf, z]⟩)
    have zF : a ∉ X.fs := fun hm => by
      obtain ⟨e, he, q⟩ := List.mem_filterMap.mp hm
      exact nfz (List.mem_filterMap.mpr ⟨e, List.mem_cons_of_mem _ he, q⟩)
    have sC := jC.suite eC dC na zL zF
    have go : ∀ {hds' : List ExceptHandler} {l' : List (Value × (Addr → Value → Option Addr → TS))}, HdsA X i n hds' l' → wManyA X.K i Wout D l' cls d σ' H' →
        wpAny (model X.prog X.w) X.A (handleBy (.ref a) X.env hds') (SP X pins D) X.xe { s' with heap := kC } := by
      intro hds' l' hk
      induction hk with
      | nil =>
        intro w
        refine wpAny_handleBy_nil ?_
        obtain ⟨k1, k2, k3, oe, vs, T, oT, ts', he, hz, hd, h1, hr⟩ := id flC
        unfold PySem.passOn
        refine wpAny_bind (wpAny_field he hd h1 ?_)
        rw [if_neg (show ¬ ((Value.ref T == Value.none) = true) from by simp)]
        have fin : wpAny (model X.prog X.w) X.A (setFlight (.ref a) X.env.frame) (fun _ s4 => wpAny (model X.prog X.w) X.A (throw (.ref a) : Sem Flow) (SP X pins D) X.xe s4) X.xe { s' with heap := kC } := by
          rw [hf]
          refine HandSPX.setFlight_upZ flC fun kD hh4 upD => wpAny_throw (tk _ _ ?_)
          exact ⟨a, B, sI, pins, σ', H', cls, d, rfl, jB, nb, (up.trans upC).trans upD, .inr (.inr (by rw [hs]; exact hh4)), na, os, ag, w⟩
        first
          | exact wpAny_bind (wpAny_pure (wpAny_bind fin))
          | exact wpAny_bind fin
      | @cons x c ts b₀ suite np pos' hds2 l2 hc hsu r ih =>
        intro w
        obtain ⟨b, hbA, hyes, hno⟩ := w
        refine wpAny_handleBy_cons (codeAny_handlers_test ?_) (by intro q; cases q)
        have lT : PySem.W.Looks (model X.prog X.w) kC (typeOf (.ref a)) cls := fun A Q E s k q => wpAny_typeOf_ref (k _ _ eC) (by rw [zC.1]; exact q)
        have lM := PySem.W.exm_one (M := model X.prog X.w) (jC.kIn) lT hbA
        have tst : ∀ {Q : Value → Shared → Prop} {E : Value → Shared → Prop}, Q c { s' with heap := kC } → wpAny (model X.prog X.w) (X.A.mark (some (.ref a))) (eval (.Name x np) X.env) Q E { s' with heap := kC } := fun {Q E} q => by
          obtain ⟨hg, hdbg, hm | ⟨hm, hv, hnn⟩⟩ := hc
          · exact ld_glob (X := X.suite a ((a, oC) :: (X.pn ++ pins))) sC hg hm q hdbg
          · exact ld_blt (X := X.suite a ((a, oC) :: (X.pn ++ pins))) sC hg hm hv q hnn hdbg
        refine tst (lM.here ?_)
        cases b with
        | true =>
          refine codeAny_handlers_suite_as ?_
          refine HandSPX.lands_againZ flC fun kD flD upD => ?_
          have jD : Inv X pins σ' H' { s' with heap := kD } := jB.landed nb flD.1 ((up.trans upC).trans upD) os ag
          obtain ⟨oD, vD, eD, zD, dD⟩ := flD.there
          have sD := jD.suite eD dD na zL zF
          refine store_ok (X := X.suite a ((a, oD) :: (X.pn ++ pins))) (v := .ref a) sD hN hi hloc rfl (fun uE sE => ?_) (.inr hln)
          refine wpAny_mono ((hsu a oD cls d (X.pn ++ pins) zD ⟨_, dD⟩).run [] uE _ H' _ sE (hyes rfl a na)) (fun f uF hfl => ?_) (fun _ _ z => False.elim z)
          have end_ : ∀ {σF : L2.St} {HF : Hp} {Q : Shared → Prop}, Inv (X.suite a ((a, oD) :: (X.pn ++ pins))) [] σF HF uF → (∀ uG, Inv X pins (σF.set i none) HF uG → Q uG) →
              wpAny (model X.prog X.w) X.A (do bindName X.env n .none; unbindBehindTheSuite X.env n pos') (fun _ uG => Q uG) X.xe uF := fun {σF HF Q} sF hq => gone_ok (sF.unsuite ok) hN hi hln hq
          cases f with
          | next =>
            obtain ⟨σF, HF, sF, qF⟩ := hfl
            exact end_ sF fun uG jG => ⟨_, _, jG, qF⟩
          | brk =>
            obtain ⟨σF, HF, sF, qF⟩ := hfl
            exact end_ sF fun uG jG => ⟨_, _, jG, qF⟩
          | cont =>
            obtain ⟨σF, HF, sF, qF⟩ := hfl
            exact end_ sF fun uG jG => ⟨_, _, jG, qF⟩
          | ret u =>
            obtain ⟨vF, σF, HF, sF, rF, qF⟩ := hfl
            exact end_ sF fun uG jG => ⟨_, _, _, jG, rF, qF⟩
        | false =>
          show wpAny _ X.A (handleBy (.ref a) X.env hds2) _ _ _
          exact ih (hno rfl)
    exact go hh w
  · cases f with
    | next =>
      obtain ⟨σ', H', jA, q⟩ := hfl
      exact wpAny_execs_nil ⟨σ', H', jA.ofTry ok, q⟩
    | brk =>
      obtain ⟨σ', H', jA, q⟩ := hfl
      exact ⟨σ', H', jA.ofTry ok, q⟩
    | cont =>
      obtain ⟨σ', H', jA, q⟩ := hfl
      exact ⟨σ', H', jA.ofTry ok, q⟩
    | ret u =>
      obtain ⟨v, σ', H', jA, r, q⟩ := hfl
      exact ⟨v, σ', H', jA.ofTry ok, r, q⟩
end
/-! ### isinstance of a caught error that has a dict -/
def rIsED (K : PySem.W.Frag) (D a : Addr) (d : Option Addr) : List V → Hp → VK → Prop := fun xs H Q => ∃ (c : V) (cv : Value) (b : Bool) (dd : Addr) (fs : List (Str × V)), xs = [.ref a, c] ∧ (∀ u, RelV c u → u = cv) ∧ PySem.W.kitOne K (.ref D) cv = some b ∧ d = some dd ∧ H dd = some (.xd fs) ∧ Q (.bl b) H
theorem call_isED {X : Cx} {a D : Addr} {oe : Obj} {cls : Value} {d : Option Addr} {pn : List (Addr × Obj)} (C : ExcC X.K D) (hcl : cls = .ref D) (hz : Zc cls d oe) (hf : ∃ vs, oe.data = .fields vs) : CallR (X.suite a ((a, oe) :: pn)) (.builtin "isinstance") (rIsED X.K D a d) := fun pins s σ H xs us Q I r ⟨c, cv, b, dd, fs, ex, hcv, e, ed, hdd, q⟩ => by
  subst ex hcl
  cases r with
  | cons rx rr =>
    cases rr with
    | cons rt rr =>
      cases rr
      cases rx
      have ec := hcv _ rt
      subst ec
      obtain ⟨hget, _⟩ := I.pin (a, oe) (List.mem_append.mpr (.inl List.mem_cons_self))
      obtain ⟨vs, hv⟩ := hf
      obtain ⟨mA, hns, _⟩ := (show ObjOk X.prog X.w H s.heap dd (.xd fs) from I.hok dd _ hdd)
      obtain ⟨od, ho, _⟩ := lookIn_ns hns
      have J : PySem.W.InstAt s.heap a oe D (some od) := ⟨hget, hz.1, by unfold PySem.W.notCls; rw [hv], by rw [hz.2, ed]; exact ho⟩
      have hcI : (PySem.W.clsIn X.K D).isSome = true := by
        obtain ⟨cd, hc, _⟩ := PySem.W.any_some C.hd
        rw [hc]; rfl
      exact PySem.W.kia_one (PySem.W.kitx_exc hcI C.hg C.hk C.hs C.ha C.hn C.ht C.hm) I.kIn J e (fun z => nomatch z) fun tk => ⟨.bl b, H, I.kept (t' := tk) fun _ _ z => z, rfl, q⟩
/-! ### repr of none, bools, ints, texts -/
def repV : V → Option Str
  | .non => some "None"
  | .bl b => some (if b then "True" else "False")
  | .int i => if i.natAbs.log2 < 1920 then some (toString i) else none
  | .str x => if (reprText x).length ≤ sizeLine then some (reprText x) else none
  | _ => none
theorem call_reprD {X : Cx} : CallR X (.builtin "repr") (fun xs H Q => ∃ x t, xs = [x] ∧ repV x = some t ∧ Q (.str t) H) := fun pins s σ H xs us Q I r ⟨x, t, ex, et, q⟩ => by
  subst ex
  obtain ⟨u, rfl, rx⟩ := vals1 r
  cases x with
  | non =>
    cases rx
    cases et
    exact PySem.P.repr_of_none ⟨.str _, H, I.tok _, ⟨_, rfl⟩, q⟩
  | bl b =>
    cases rx
    cases et
    exact PySem.P.repr_of_bool ⟨.str _, H, I.tok _, ⟨_, rfl⟩, by cases b <;> exact q⟩
  | int i =>
    obtain ⟨tk, rfl⟩ := rx
    by_cases h : i.natAbs.log2 < 1920
    · rw [show repV (.int i) = some (toString i) from if_pos h] at et
      cases et
      exact PySem.P.repr_of_int h ⟨.str _, H, I.tok _, ⟨_, rfl⟩, q⟩
    · rw [show repV (.int i) = none from if_neg h] at et
      cases et
  | str z =>
    obtain ⟨tk, rfl⟩ := rx
    by_cases h : (reprText z).length ≤ sizeLine
    · rw [show repV (.str z) = some (reprText z) from if_pos h] at et
      cases et
      exact PySem.P.repr_of_str ⟨.str _, H, I.tok _, ⟨_, rfl⟩, q⟩ h
    · rw [show repV (.str z) = none from if_neg h] at et
      cases et
  | _ => cases et
end Rx
end
section
set_option Elab.async false
set_option autoImplicit false
set_option linter.all false
set_option maxRecDepth 100000
set_option maxHeartbeats 1000000
/-! D8: comprehensions whose element changes nothing. -/
namespace Dl
open PySem PySem.Spec PyProof.Rows L2 Evl
section
variable {K : Fg} {E : XK} {W : Wd K E} {sl : Sl} {rs : Rs} {P P' : DV → Rs → Prop} {ta tb tc td te : TE} {i j : Nat} {dv : DV} {N N' : Po} {ts tu : TS} {tt : TT} {g : TG} {gs : TGs} {wi : TI} {tr : TA} {K2 : Fg} {f : Dsp}
def keepO : List (Option PyData) → List PyData
  | [] => []
  | none :: r => keepO r
  | some x :: r => x :: keepO r
theorem keepO_app (xs ys : List (Option PyData)) : keepO (xs ++ ys) = keepO xs ++ keepO ys := by
  induction xs with
  | nil => rfl
  | cons x xs ih => cases x <;> simp [keepO, ih]
theorem keepO_len (xs : List (Option PyData)) : (keepO xs).length ≤ xs.length := by
  induction xs with
  | nil => exact Nat.le_refl _
  | cons x xs ih => cases x <;> simp [keepO] <;> omega
theorem keepO_some (xs : List PyData) : keepO (xs.map some) = xs := by
  induction xs with
  | nil => rfl
  | cons x xs ih => simp [keepO, ih]
/-- [e for target in ys if t] -/
theorem we_fm {vs : List Nat} (ds : List PyData) (es : List (Option PyData)) (own : Own vs g) (hl : es.length = ds.length) (hz : ds.length ≤ 100000) (h : WI W wi sl rs fun xs rs1 => xs = ds ∧ rs1 = rs)
    (hs : ∀ (i : Nat) (d : PyData) (o : Option PyData), ds[i]? = some d → es[i]? = some o → WG W g (.d d) (wipeS sl vs) rs fun sl2 rs2 => WT W tt sl2 rs2 fun b rs3 => match o with
      | none => b = false ∧ rs3 = rs
      | some e => b = true ∧ WE W te sl2 rs3 fun y rs4 => y = .d e ∧ rs4 = rs)
    (hp : P (.d (.list (keepO es))) rs) : WE W (tLc wi g tt te vs) sl rs P := by
  refine we_lc (fun i acc rs1 => acc = keepO (es.take i) ∧ rs1 = rs) ds own ?_ ?_ ?_
  · exact fun F H σ k Q q => h F H σ k Q fun F' H' J xs rs' s k' it ⟨e1, e2⟩ => q F' H' J xs rs' s k' it ⟨e1, by rw [List.take_zero]; rfl, e2⟩
  · rintro i d acc rs1 hd ⟨rfl, rfl⟩
    have hi : i < es.length := by
      rw [hl]
      exact (List.getElem?_eq_some_iff.mp hd).1
    have ho : es[i]? = some es[i] := List.getElem?_eq_getElem hi
    have ht : keepO (es.take (i + 1)) = keepO (es.take i) ++ keepO [es[i]] := by rw [List.take_add_one, ho, keepO_app]; rfl
    have hk := keepO_len (es.take i)
    rw [List.length_take] at hk
    intro F H σ v k iv Q q
    refine hs i d es[i] hd ho F H σ v k iv Q fun F' H' σ' sl' rs' s k' p => q F' H' σ' sl' rs' s k' ?_
    refine fun F2 H2 σ2 k2 Q2 q2 => p F2 H2 σ2 k2 Q2 fun F3 H3 b rs3 s3 k3 p3 => q2 F3 H3 b rs3 s3 k3 ?_
    generalize es[i] = o at p3 ht
    cases o with
    | none =>
      obtain ⟨e1, e2⟩ := p3
      rw [e1, if_neg Bool.false_ne_true, ht]
      exact ⟨by simp [keepO], e2⟩
    | some e =>
      obtain ⟨e1, p4⟩ := p3
      rw [e1, if_pos rfl]
      exact p4.mono fun y rs4 ⟨ey, er⟩ => ⟨e, ey, by omega, by rw [ht]; rfl, er⟩
  · rintro acc rs1 ⟨rfl, rfl⟩
    rw [← hl, List.take_length]
    exact hp
/-- [e for target in ys] -/
theorem we_map {vs : List Nat} (ds es : List PyData) (own : Own vs g) (hl : es.length = ds.length) (hz : ds.length ≤ 100000) (h : WI W wi sl rs fun xs rs1 => xs = ds ∧ rs1 = rs)
    (hs : ∀ (i : Nat) (d e : PyData), ds[i]? = some d → es[i]? = some e → WG W g (.d d) (wipeS sl vs) rs fun sl2 rs2 => WE W te sl2 rs2 fun y rs4 => y = .d e ∧ rs4 = rs)
    (hp : P (.d (.list es)) rs) : WE W (tLc wi g tYes te vs) sl rs P := by
  refine we_fm ds (es.map some) own (by rw [List.length_map]; exact hl) hz h (fun i d o hd ho => ?_) (by rw [keepO_some]; exact hp)
  rw [List.getElem?_map] at ho
  obtain ⟨e, he, rfl⟩ := Option.map_eq_some_iff.mp ho
  intro F H σ v k iv Q q
  exact hs i d e hd he F H σ v k iv Q fun F' H' σ' sl' rs' s k' p => q F' H' σ' sl' rs' s k' (wt_yes ⟨rfl, p⟩)
/-- fewer objects told, by what was computed -/
theorem we_dropE (h : WE W te sl rs fun x rs1 => ∃ rs2, List.Sublist rs2 rs1 ∧ P x rs2) : WE W te sl rs P := fun F H σ k Q q =>
  h F H σ k _ fun F1 H1 v x rs1 s1 k1 i1 ⟨rs2, hs, p⟩ => q F1 H1 v x rs2 (s1.drop fun z hz => (hs.map (·.1)).subset hz) (k1.sub (k1.nd.sublist (hs.map (·.1))) fun z hz => hs.subset hz) i1 p
theorem we_id (h : WE W te sl rs P) : WE W te sl rs P := h
theorem ws_id (h : WS W ts sl rs N) : WS W ts sl rs N := h
theorem own1 {j : Nat} {vs : List Nat} (h : j ∈ vs) : Own vs (gName j) := own_name h
theorem own2 {i j n : Nat} {K2 : Fg} {vs : List Nat} (h1 : i ∈ vs) (h2 : j ∈ vs) : Own vs (gTup K2 n (gCons (gName i) (gCons (gName j) gNil))) := own_tup (owns_cons mg_name (mgs_cons mg_name mgs_nil) (own_name h1) (owns_cons mg_name mgs_nil (own_name h2) owns_nil))
theorem own3 {i j l n : Nat} {K2 : Fg} {vs : List Nat} (h1 : i ∈ vs) (h2 : j ∈ vs) (h3 : l ∈ vs) : Own vs (gTup K2 n (gCons (gName i) (gCons (gName j) (gCons (gName l) gNil)))) := own_tup (owns_cons mg_name (mgs_cons mg_name (mgs_cons mg_name mgs_nil)) (own_name h1) (owns_cons mg_name (mgs_cons mg_name mgs_nil) (own_name h2) (owns_cons mg_name mgs_nil (own_name h3) owns_nil)))
end
end Dl
end
section
set_option Elab.async false
set_option autoImplicit false
set_option linter.all false
set_option maxRecDepth 100000
set_option maxHeartbeats 1000000
/-! R8: rules whose reading names the written part, told of a part that is given (within a comprehension). -/
namespace Rx
open PySem PySem.Spec PyProof.Rows L2
theorem ex_id {α : Sort _} {p : α → Prop} (h : ∃ x, p x) : ∃ x, p x := h
theorem and_id {a b : Prop} (h : a ∧ b) : a ∧ b := h
section
variable {X : Cx} {K : PySem.W.Frag}
theorem ix_tupK (h : X.K = K) : IxR X (rIxT K) := by subst h; exact ix_tup
theorem ix_listK (h : X.K = K) : IxR X (rIxL K) := by subst h; exact ix_list
theorem call_lenK (h : X.K = K) : CallR X (.builtin "len") (fun xs H Q => ∃ p ys, xs = [.ref p] ∧ (SqL K H p ys ∨ SqT K H p ys) ∧ Q (.int ys.length) H) := by subst h; exact call_len_seq
theorem call_tupleK (h : X.K = K) : CallR X (.type "tuple") (fun xs H Q => ∃ p ys, xs = [.ref p] ∧ ((SqL K H p ys ∧ ∀ l, H l = none → Q (.ref l) (upd H l (.tup ys))) ∨ (SqT K H p ys ∧ Q (.ref p) H))) := by subst h; exact call_tuple_of
theorem sl_tupK (h : X.K = K) : SlR X (rSlA K) := by subst h; exact sl_tupA
theorem op_inTDK (h : X.K = K) (hu : X.A.units + 65 < cLine) : OpR X (compareOp .In) (rInTD K) := by subst h; exact op_inTD hu
theorem op_neDK (h : X.K = K) (hu : X.A.units + 64 < cLine) : OpR X (compareOp .NotEq) (rNeD K) := by subst h; exact op_neD hu
theorem op_eqDK (h : X.K = K) (hu : X.A.units + 64 < cLine) : OpR X (compareOp .Eq) (rEqD K) := by subst h; exact op_eqD hu
theorem pe_lcountK (h : X.K = K) {o e : Expr} {to : TE} {t : TA} {apos cpos : Pos} (ho : PE X o to) (ha : PA X [e] t) (hbase : attributeBase o "count" X.env (eval o X.env) = eval o X.env := by rfl)
    (hfew : ((backTo cpos (starEach [e] X.env)).all (fun x => !x.1) && (backToKw cpos (keywordEach [] X.env)).all (fun x => x.1.isSome) && decide ([e].length + ([] : List Keyword).length + (if ([] : List Keyword).isEmpty then 0 else 1) < 30)) = true := by rfl)
    (hline : (apos.endLine == cpos.line) = true := by rfl) (hs : starEach [e] X.env = (false, eval e X.env) :: starEach [] X.env := by rfl) (hplain : (backTo cpos (starEach [] X.env)).any (·.1) = false := by rfl) :
    PE X (.Call (.Attribute o "count" apos) [e] [] cpos) (tBM K "list" (rCntI K) to t) := by
  subst h
  exact pe_bm PySem.F.plainAttrs_list PySem.F.slot_list_count PySem.F.type_list_count mt_lcount ho ha hbase hfew hline hs hplain
end
end Rx
end
section
set_option Elab.async false
set_option autoImplicit false
set_option linter.all false
set_option maxRecDepth 100000
set_option maxHeartbeats 1000000
/-! M1: what the defs compute, in plain Lean. -/
namespace Mx
open PySem Dl

/-! ### octets -/
inductive Rd (α : Type) where
  | err (f : Nat)
  | ok (v : α) (p : Nat)
def Rd.bind {α β : Type} (r : Rd α) (f : α → Nat → Rd β) : Rd β := match r with
  | .err e => .err e
  | .ok v p => f v p
def octF (n : Nat) : Nat := if h : n = 0 then 0 else 1 + octF (n / 256)
termination_by n
decreasing_by exact Nat.div_lt_self (by omega) (by decide)
def digs : Nat → Nat → List Nat
  | 0, _ => []
  | m + 1, n => digs m (n / 256) ++ [n % 256]
def val (ds : List Nat) : Nat := ds.foldl (fun a d => a * 256 + d) 0
def rdL (os : List Nat) : Nat → List Nat → Bool → Nat → Rd Nat
  | p, [], _, found => .ok found p
  | p, g :: r, full, found => match os[p]? with
    | none => .err os.length
    | some o => if o ≤ (if full = true then g else 255) then rdL os (p + 1) r (full && decide (o = g)) (found * 256 + o) else .err p
def rdN (os : List Nat) (p many most : Nat) : Rd Nat := rdL os p (digs many most) true 0
def rdRep {α : Type} (f : Nat → Rd α) : Nat → List α → Nat → Rd (List α)
  | 0, acc, p => .ok acc p
  | n + 1, acc, p => (f p).bind fun v q => rdRep f n (acc ++ [v]) q
abbrev M4 : Nat := 4294967295
structure Mark where
  laid : Nat
  first : Nat
  last : Option Nat
def rdMark (os : List Nat) (p : Nat) : Rd Mark := (rdN os p 3 100000).bind fun laid q => (rdN os q (octF laid) laid).bind fun first r =>
  if laid > 0 then (rdN os r 4 M4).bind fun last s => .ok ⟨laid, first, some last⟩ s else .ok ⟨laid, first, none⟩ r
structure Span where
  first : Nat
  many : Nat
  total : Int
  low : Int
  high : Int
def rdSpan (os : List Nat) (first many p : Nat) : Rd Span := (rdN os p 3 2000000).bind fun lw q =>
  if many = 1 then .ok ⟨first, many, (lw : Int) - 1000000, (lw : Int) - 1000000, (lw : Int) - 1000000⟩ q else
  (rdN os q 3 (2000000 - lw)).bind fun h r => (rdN os r (octF ((many - 2) * h)) ((many - 2) * h)).bind fun rest s =>
  .ok ⟨first, many, ((lw : Int) - 1000000) * ((many : Int) - 1) + ((lw : Int) - 1000000) + (h : Int) + (rest : Int), (lw : Int) - 1000000, (lw : Int) - 1000000 + (h : Int)⟩ s
abbrev Rows := List (Nat × Nat)
def rdItem (os : List Nat) (ab : List Rows) (kinds : List Nat) (p : Nat) : Rd (Nat × Span) := match os[p]? with
  | none => .err os.length
  | some k => if k ∈ kinds then (match os[p + 1]? with
    | none => .err os.length
    | some j => match (ab.getD k [])[j]? with
      | none => .err (p + 1)
      | some r => (rdSpan os r.1 r.2 (p + 2)).bind fun s q => .ok (k, s) q) else .err p
def kindsOf (ab : List Rows) : List Nat := (List.range ab.length).filter fun k => decide (0 < (ab.getD k []).length)
def rdCargo (os : List Nat) (ab : List Rows) (p : Nat) : Rd (List (Nat × Span)) := match os[p]? with
  | none => .err os.length
  | some n => if n ≤ (if 0 < (kindsOf ab).length then 100 else 0) then rdRep (rdItem os ab (kindsOf ab)) n [] (p + 1) else .err p

/-! ### shapes -/
def rowsOf : Nat → List Nat → Rows
  | _, [] => []
  | h, s :: r => (h, s) :: rowsOf (h + s) r
def cnts (keep : Nat) : Nat → Nat → List Nat
  | 0, _ => []
  | f + 1, left => if left = 0 then [] else (left - 2 * ((left + 1 - keep) / 2)) :: cnts keep f ((left + 1 - keep) / 2)
def sizesUp (i : Nat) : List Nat → List Nat
  | [] => []
  | m :: r => sizesUp (i + 1) r ++ List.replicate m (2 ^ i)
def sizesOf (keep n : Nat) : List Nat := sizesUp 0 (cnts keep n n)
def shp (keep first laid : Nat) : Rows := rowsOf first (sizesOf keep (laid - first))
def pws : List Nat := [1, 2, 4, 8, 16, 32]
def lawOver (keep : Nat) (sz : List Nat) : List Nat := (pws.filter fun p => decide (p ∈ sz)).filter fun p => decide (keep < sz.count p)
def lawStep (keep : Nat) (sz : List Nat) : List Nat := match lawOver keep sz with
  | [] => sz
  | o :: _ => sz.take (sz.idxOf o) ++ [2 * o] ++ sz.drop (sz.idxOf o + 2)
def lawTurns (keep : Nat) : Nat → List Nat → List Nat
  | 0, sz => sz
  | n + 1, sz => lawTurns keep n (lawStep keep sz)
def lawSizes (keep : Nat) : Nat → List Nat
  | 0 => []
  | n + 1 => lawTurns keep 20 (lawSizes keep n ++ [1])

/-! ### setups, frames -/
structure Knd where
  gap : Nat
  pause : Nat
  keep : Nat
structure Setup where
  kinds : List Knd
  d1 : Nat
  d2 : Nat
  u1 : Nat
  u2 : Nat
structure Frm where
  nums : List Nat
  marks : List Mark
  cargo : List (Nat × Span)
def shapes (ks : List Knd) (ms : List Mark) : List Rows := List.zipWith (fun k m => shp k.keep m.first m.laid) ks ms
def fits (ms : List Mark) : Prop := ∀ m ∈ ms, m.laid - m.first ≤ 40
instance (ms : List Mark) : Decidable (fits ms) := inferInstanceAs (Decidable (∀ m ∈ ms, m.laid - m.first ≤ 40))
def rdHead (su : Setup) (os : List Nat) (p : Nat) : Rd (List Nat × List Mark) := (rdRep (fun q => rdN os q 4 M4) 3 [] p).bind fun ns q => (rdRep (rdMark os) su.kinds.length [] q).bind fun ms r => .ok (ns, ms) r
def rdFrame (su : Setup) (os : List Nat) (p : Nat) : Rd Frm := (rdHead su os p).bind fun h q => (rdCargo os (shapes su.kinds h.2) q).bind fun c r => .ok ⟨h.1, h.2, c⟩ r

/-! ### data -/
abbrev nD (n : Nat) : PyData := .int (n : Int)
def octD (os : List Nat) : PyData := .tuple (os.map nD)
def optD : Option Nat → PyData
  | none => .none
  | some n => nD n
def mkD (m : Mark) : PyData := .tuple [nD m.laid, nD m.first, optD m.last]
def spD (s : Span) : PyData := .tuple [nD s.first, nD s.many, .int s.total, .int s.low, .int s.high]
def itD (c : Nat × Span) : PyData := .tuple [nD c.1, spD c.2]
def rowD (r : Nat × Nat) : PyData := .tuple [nD r.1, nD r.2]
def marksD (ms : List Mark) : PyData := .tuple (ms.map mkD)
def frD (f : Frm) : PyData := .tuple (f.nums.map nD ++ [marksD f.marks, .tuple (f.cargo.map itD)])
def kdD (k : Knd) : PyData := .tuple [nD k.gap, nD k.pause, nD k.keep]
def wayD (a b : Nat) : PyData := .tuple [nD a, nD b]
def suD (s : Setup) : PyData := .tuple [.tuple (s.kinds.map kdD), wayD s.d1 s.d2, wayD s.u1 s.u2]
def shD (rs : Rows) : PyData := zt (rs.map rowD)
def abD (ab : List Rows) : PyData := .tuple (ab.map shD)

/-! ### what is right -/
def Knd.ok (k : Knd) : Prop := 1 ≤ k.gap ∧ k.gap ≤ k.pause ∧ k.pause ≤ 1000 ∧ k.keep ∈ [2, 3, 4, 8]
def Setup.ok (s : Setup) : Prop := 1 ≤ s.kinds.length ∧ s.kinds.length ≤ 6 ∧ (∀ k ∈ s.kinds, k.ok) ∧ s.d1 ≤ s.d2 ∧ s.d2 ≤ 10000 ∧ s.u1 ≤ s.u2 ∧ s.u2 ≤ 10000
def Mark.ok (m : Mark) : Prop := m.laid ≤ 100000 ∧ m.first ≤ m.laid ∧ m.laid - m.first ≤ 40 ∧ (m.laid = 0 ↔ m.last = none) ∧ ∀ l, m.last = some l → l ≤ M4
def trueOf (many total low high : Int) : Bool := if many = 1 then decide (low = high) && decide (high = total) else decide (low ≤ high) && (decide (low * (many - 1) + high ≤ total) && decide (total ≤ low + high * (many - 1)))
def Span.ok (s : Span) : Prop := s.many ∈ pws ∧ -1000000 ≤ s.low ∧ s.low ≤ 1000000 ∧ -1000000 ≤ s.high ∧ s.high ≤ 1000000 ∧ trueOf s.many s.total s.low s.high = true
def itOk (ab : List Rows) (c : Nat × Span) : Prop := c.1 < ab.length ∧ (c.2.first, c.2.many) ∈ ab.getD c.1 [] ∧ c.2.ok
def Frm.ok (su : Setup) (f : Frm) : Prop := f.nums.length = 3 ∧ (∀ n ∈ f.nums, n ≤ M4) ∧ f.marks.length = su.kinds.length ∧ (∀ m ∈ f.marks, m.ok) ∧ f.cargo.length ≤ 100 ∧ ∀ c ∈ f.cargo, itOk (shapes su.kinds f.marks) c

/-! ### written -/
def wrMark (m : Mark) : List Nat := digs 3 m.laid ++ digs (octF m.laid) m.first ++ (match m.last with
  | none => []
  | some l => digs 4 l)
def wrSpan (s : Span) : List Nat := digs 3 (s.low + 1000000).toNat ++ (if s.many = 1 then [] else digs 3 (s.high - s.low).toNat ++ digs (octF ((s.many - 2) * (s.high - s.low).toNat)) (s.total - s.low * ((s.many : Int) - 1) - s.high).toNat)
def wrItem (ab : List Rows) (c : Nat × Span) : List Nat := [c.1, (ab.getD c.1 []).idxOf (c.2.first, c.2.many)] ++ wrSpan c.2
def wrFrame (su : Setup) (f : Frm) : List Nat := (f.nums.map (digs 4)).flatten ++ (f.marks.map wrMark).flatten ++ [f.cargo.length] ++ (f.cargo.map (wrItem (shapes su.kinds f.marks))).flatten
end Mx
end
section
set_option Elab.async false
set_option autoImplicit false
set_option linter.all false
set_option maxRecDepth 100000
set_option maxHeartbeats 1000000
/-! W0 (printed by gen.py): the text by places, what the defs stand on. -/
namespace Fw
open PySem PySem.Spec PyProof.Rows L2 Dl
def top (i : Nat) : Stmt := PySem.Challenge.pw_farstory_k23_whole_where_no_frame_goes_o.main.body.getD i (.Pass ⟨0, 0, 0, 0⟩)
abbrev s_BadOctets___init__ : Stmt := inClass (top 2) 0
abbrev s_BadSetup___init__ : Stmt := inClass (top 3) 0
abbrev s_BadFrame___init__ : Stmt := inClass (top 4) 0
abbrev s_Refused___init__ : Stmt := inClass (top 5) 0
abbrev s_Broken___init__ : Stmt := inClass (top 6) 0
abbrev s_is_integer : Stmt := top 9
theorem sc_is_integer : FnScope ["value"] ["value"] (defScope s_is_integer) := ⟨rfl, rfl, rfl, by decide +kernel, rfl, by decide +kernel, by decide +kernel⟩
abbrev s_is_number : Stmt := top 10
theorem sc_is_number : FnScope ["value"] ["value"] (defScope s_is_number) := ⟨rfl, rfl, rfl, by decide +kernel, rfl, by decide +kernel, by decide +kernel⟩
abbrev s_is_below : Stmt := top 11
theorem sc_is_below : FnScope ["value", "most"] ["value", "most"] (defScope s_is_below) := ⟨rfl, rfl, rfl, by decide +kernel, rfl, by decide +kernel, by decide +kernel⟩
abbrev s_is_sequence : Stmt := top 12
theorem sc_is_sequence : FnScope ["value"] ["value"] (defScope s_is_sequence) := ⟨rfl, rfl, rfl, by decide +kernel, rfl, by decide +kernel, by decide +kernel⟩
abbrev s_need_octets : Stmt := top 13
theorem sc_need_octets : FnScope ["value", "at", "octet"] ["value"] (defScope s_need_octets) := ⟨rfl, rfl, rfl, by decide +kernel, rfl, by decide +kernel, by decide +kernel⟩
abbrev s_is_step : Stmt := top 16
theorem sc_is_step : FnScope ["gap", "pause"] ["gap", "pause"] (defScope s_is_step) := ⟨rfl, rfl, rfl, by decide +kernel, rfl, by decide +kernel, by decide +kernel⟩
abbrev s_need_keep : Stmt := top 20
theorem sc_need_keep : FnScope ["value"] ["value"] (defScope s_need_keep) := ⟨rfl, rfl, rfl, by decide +kernel, rfl, by decide +kernel, by decide +kernel⟩
abbrev s_need_first : Stmt := top 21
theorem sc_need_first : FnScope ["first", "laid"] ["first", "laid"] (defScope s_need_first) := ⟨rfl, rfl, rfl, by decide +kernel, rfl, by decide +kernel, by decide +kernel⟩
abbrev s_counts_of : Stmt := top 22
theorem sc_counts_of : FnScope ["keep", "many", "found", "left", "pairs"] ["keep", "many"] (defScope s_counts_of) := ⟨rfl, rfl, rfl, by decide +kernel, rfl, by decide +kernel, by decide +kernel⟩
abbrev s_shape : Stmt := top 23
theorem sc_shape : FnScope ["keep", "first", "laid", "found", "here", "many", "sizes", "size", "turn", "at"] ["keep", "first", "laid"] (defScope s_shape) := ⟨rfl, rfl, rfl, by decide +kernel, rfl, by decide +kernel, by decide +kernel⟩
abbrev s_is_row_value : Stmt := top 26
theorem sc_is_row_value : FnScope ["value"] ["value"] (defScope s_is_row_value) := ⟨rfl, rfl, rfl, by decide +kernel, rfl, by decide +kernel, by decide +kernel⟩
abbrev s_is_power : Stmt := top 27
theorem sc_is_power : FnScope ["value"] ["value"] (defScope s_is_power) := ⟨rfl, rfl, rfl, by decide +kernel, rfl, by decide +kernel, by decide +kernel⟩
abbrev s_is_true_of : Stmt := top 28
theorem sc_is_true_of : FnScope ["many", "total", "low", "high"] ["many", "total", "low", "high"] (defScope s_is_true_of) := ⟨rfl, rfl, rfl, by decide +kernel, rfl, by decide +kernel, by decide +kernel⟩
abbrev s_is_span : Stmt := top 29
theorem sc_is_span : FnScope ["value"] ["value"] (defScope s_is_span) := ⟨rfl, rfl, rfl, by decide +kernel, rfl, by decide +kernel, by decide +kernel⟩
abbrev s_is_kind : Stmt := top 35
theorem sc_is_kind : FnScope ["value"] ["value"] (defScope s_is_kind) := ⟨rfl, rfl, rfl, by decide +kernel, rfl, by decide +kernel, by decide +kernel⟩
abbrev s_is_way : Stmt := top 36
theorem sc_is_way : FnScope ["value", "one"] ["value"] (defScope s_is_way) := ⟨rfl, rfl, rfl, by decide +kernel, rfl, by decide +kernel, by decide +kernel⟩
abbrev s_check_setup : Stmt := top 37
theorem sc_check_setup : FnScope ["value", "kinds", "down", "up", "at", "kind"] ["value"] (defScope s_check_setup) := ⟨rfl, rfl, rfl, by decide +kernel, rfl, by decide +kernel, by decide +kernel⟩
abbrev s_is_mark : Stmt := top 38
theorem sc_is_mark : FnScope ["value"] ["value"] (defScope s_is_mark) := ⟨rfl, rfl, rfl, by decide +kernel, rfl, by decide +kernel, by decide +kernel⟩
abbrev s_are_marks : Stmt := top 39
theorem sc_are_marks : FnScope ["setup", "value", "one"] ["setup", "value"] (defScope s_are_marks) := ⟨rfl, rfl, rfl, by decide +kernel, rfl, by decide +kernel, by decide +kernel⟩
abbrev s_shapes_of : Stmt := top 40
theorem sc_shapes_of : FnScope ["setup", "marks", "kind", "mark"] ["setup", "marks"] (defScope s_shapes_of) := ⟨rfl, rfl, rfl, by decide +kernel, rfl, by decide +kernel, by decide +kernel⟩
abbrev s_is_cargo : Stmt := top 41
theorem sc_is_cargo : FnScope ["setup", "marks", "value", "aboard", "kind", "span", "one"] ["setup", "marks", "value"] (defScope s_is_cargo) := ⟨rfl, rfl, rfl, by decide +kernel, rfl, by decide +kernel, by decide +kernel⟩
abbrev s_check_frame : Stmt := top 42
theorem sc_check_frame : FnScope ["setup", "value", "told", "at", "marks", "mark", "kind", "span"] ["setup", "value"] (defScope s_check_frame) := ⟨rfl, rfl, rfl, by decide +kernel, rfl, by decide +kernel, by decide +kernel⟩
abbrev s_octets_for : Stmt := top 48
theorem sc_octets_for : FnScope ["number", "found"] ["number"] (defScope s_octets_for) := ⟨rfl, rfl, rfl, by decide +kernel, rfl, by decide +kernel, by decide +kernel⟩
abbrev s_number_octets : Stmt := top 49
theorem sc_number_octets : FnScope ["number", "many", "found", "turn"] ["number", "many"] (defScope s_number_octets) := ⟨rfl, rfl, rfl, by decide +kernel, rfl, by decide +kernel, by decide +kernel⟩
abbrev s_most_rest : Stmt := top 50
theorem sc_most_rest : FnScope ["many", "height"] ["many", "height"] (defScope s_most_rest) := ⟨rfl, rfl, rfl, by decide +kernel, rfl, by decide +kernel, by decide +kernel⟩
abbrev s_values_octets : Stmt := top 51
theorem sc_values_octets : FnScope ["span", "first", "many", "total", "low", "high", "found"] ["span"] (defScope s_values_octets) := ⟨rfl, rfl, rfl, by decide +kernel, rfl, by decide +kernel, by decide +kernel⟩
abbrev s_look_numbers : Stmt := top 52
theorem sc_look_numbers : FnScope ["frame", "at", "laid", "first", "last"] ["frame"] (defScope s_look_numbers) := ⟨rfl, rfl, rfl, by decide +kernel, rfl, by decide +kernel, by decide +kernel⟩
abbrev s_mark_octets : Stmt := top 53
theorem sc_mark_octets : FnScope ["mark", "laid", "first", "last", "found"] ["mark"] (defScope s_mark_octets) := ⟨rfl, rfl, rfl, by decide +kernel, rfl, by decide +kernel, by decide +kernel⟩
abbrev s_frame_octets : Stmt := top 54
theorem sc_frame_octets : FnScope ["setup", "frame", "told", "line", "found", "at", "mark", "aboard", "kind", "span"] ["setup", "frame"] (defScope s_frame_octets) := ⟨rfl, rfl, rfl, by decide +kernel, rfl, by decide +kernel, by decide +kernel⟩
abbrev s_Octets___init__ : Stmt := inClass (top 55) 0
theorem sc_Octets___init__ : FnScope ["self", "octets", "at"] ["self", "octets", "at"] (defScope s_Octets___init__) := ⟨rfl, rfl, rfl, by decide +kernel, rfl, by decide +kernel, by decide +kernel⟩
abbrev s_Octets_take_of : Stmt := inClass (top 55) 1
theorem sc_Octets_take_of : FnScope ["self", "some"] ["self", "some"] (defScope s_Octets_take_of) := ⟨rfl, rfl, rfl, by decide +kernel, rfl, by decide +kernel, by decide +kernel⟩
abbrev s_Octets_take : Stmt := inClass (top 55) 2
theorem sc_Octets_take : FnScope ["self", "least", "most"] ["self", "least", "most"] (defScope s_Octets_take) := ⟨rfl, rfl, rfl, by decide +kernel, rfl, by decide +kernel, by decide +kernel⟩
abbrev s_Octets_take_number : Stmt := inClass (top 55) 3
theorem sc_Octets_take_number : FnScope ["self", "many", "most", "figures", "found", "is_full", "figure", "octet"] ["self", "many", "most"] (defScope s_Octets_take_number) := ⟨rfl, rfl, rfl, by decide +kernel, rfl, by decide +kernel, by decide +kernel⟩
abbrev s_Octets_take_mark : Stmt := inClass (top 55) 4
theorem sc_Octets_take_mark : FnScope ["self", "laid", "first"] ["self"] (defScope s_Octets_take_mark) := ⟨rfl, rfl, rfl, by decide +kernel, rfl, by decide +kernel, by decide +kernel⟩
abbrev s_Octets_take_span : Stmt := inClass (top 55) 5
theorem sc_Octets_take_span : FnScope ["self", "first", "many", "low", "height", "most", "rest"] ["self", "first", "many"] (defScope s_Octets_take_span) := ⟨rfl, rfl, rfl, by decide +kernel, rfl, by decide +kernel, by decide +kernel⟩
abbrev s_Octets_take_cargo : Stmt := inClass (top 55) 6
theorem sc_Octets_take_cargo : FnScope ["self", "aboard", "kind", "kinds", "found", "turn", "first", "many", "some"] ["self", "aboard"] (defScope s_Octets_take_cargo) := ⟨rfl, rfl, rfl, by decide +kernel, rfl, by decide +kernel, by decide +kernel⟩
abbrev s_octets_from : Stmt := top 56
theorem sc_octets_from : FnScope ["octets", "at", "line"] ["octets", "at"] (defScope s_octets_from) := ⟨rfl, rfl, rfl, by decide +kernel, rfl, by decide +kernel, by decide +kernel⟩
abbrev s_frame_at : Stmt := top 57
theorem sc_frame_at : FnScope ["setup", "octets", "at", "told", "reading", "numbers", "marks", "cargo", "turn", "kind"] ["setup", "octets", "at"] (defScope s_frame_at) := ⟨rfl, rfl, rfl, by decide +kernel, rfl, by decide +kernel, by decide +kernel⟩
abbrev s_law_box : Stmt := top 59
theorem sc_law_box : FnScope ["_law_script", "_law_k", "_law_cell", "_law_great"] ["_law_script", "_law_k"] (defScope s_law_box) := ⟨rfl, rfl, rfl, by decide +kernel, rfl, by decide +kernel, by decide +kernel⟩
abbrev s_law_take : Stmt := top 60
theorem sc_law_take : FnScope ["_law_box_here", "_law_many", "_law_digit", "_law_raw"] ["_law_box_here", "_law_many"] (defScope s_law_take) := ⟨rfl, rfl, rfl, by decide +kernel, rfl, by decide +kernel, by decide +kernel⟩
abbrev s_law_pick : Stmt := top 61
theorem sc_law_pick : FnScope ["_law_box_here", "_law_some"] ["_law_box_here", "_law_some"] (defScope s_law_pick) := ⟨rfl, rfl, rfl, by decide +kernel, rfl, by decide +kernel, by decide +kernel⟩
abbrev s_law_setup : Stmt := top 62
theorem sc_law_setup : FnScope ["_law_box_here", "_law_kinds", "_law_turn", "_law_gap"] ["_law_box_here"] (defScope s_law_setup) := ⟨rfl, rfl, rfl, by decide +kernel, rfl, by decide +kernel, by decide +kernel⟩
abbrev s_law_shape : Stmt := top 63
theorem sc_law_shape : FnScope ["_law_keep", "_law_first", "_law_laid", "_law_found", "_law_row", "_law_sizes", "_law_over", "_law_turn", "_law_at", "_law_one", "_law_many", "_law_size"] ["_law_keep", "_law_first", "_law_laid"] (defScope s_law_shape) := ⟨rfl, rfl, rfl, by decide +kernel, rfl, by decide +kernel, by decide +kernel⟩
abbrev s_law_mark : Stmt := top 64
theorem sc_law_mark : FnScope ["_law_box_here", "_law_laid", "_law_last"] ["_law_box_here"] (defScope s_law_mark) := ⟨rfl, rfl, rfl, by decide +kernel, rfl, by decide +kernel, by decide +kernel⟩
abbrev s_law_span : Stmt := top 65
theorem sc_law_span : FnScope ["_law_box_here", "_law_first", "_law_many", "_law_low", "_law_high", "_law_spare"] ["_law_box_here", "_law_first", "_law_many"] (defScope s_law_span) := ⟨rfl, rfl, rfl, by decide +kernel, rfl, by decide +kernel, by decide +kernel⟩
abbrev s_law_frame : Stmt := top 66
theorem sc_law_frame : FnScope ["_law_box_here", "_law_setup_here", "_law_kind", "_law_marks_here", "_law_aboard", "_law_cargo", "_law_mark_here", "_law_turn", "_law_first", "_law_many", "_law_numbers", "_law_span_here"] ["_law_box_here", "_law_setup_here"] (defScope s_law_frame) := ⟨rfl, rfl, rfl, by decide +kernel, rfl, by decide +kernel, by decide +kernel⟩
abbrev s_law_need : Stmt := top 67
theorem sc_law_need : FnScope ["_law_number_here", "_law_found", "_law_left", "_law_turn"] ["_law_number_here"] (defScope s_law_need) := ⟨rfl, rfl, rfl, by decide +kernel, rfl, by decide +kernel, by decide +kernel⟩
abbrev s_law_number : Stmt := top 68
theorem sc_law_number : FnScope ["_law_octets", "_law_at", "_law_many", "_law_most", "_law_here", "_law_least", "_law_place", "_law_found"] ["_law_octets", "_law_at", "_law_many", "_law_most"] (defScope s_law_number) := ⟨rfl, rfl, rfl, by decide +kernel, rfl, by decide +kernel, by decide +kernel⟩
abbrev s_law_marks : Stmt := top 69
theorem sc_law_marks : FnScope ["_law_setup_here", "_law_octets", "_law_at", "_law_marks_here", "_law_kind", "_law_laid", "_law_fault", "_law_first", "_law_last"] ["_law_setup_here", "_law_octets", "_law_at"] (defScope s_law_marks) := ⟨rfl, rfl, rfl, by decide +kernel, rfl, by decide +kernel, by decide +kernel⟩
abbrev s_law_values : Stmt := top 70
theorem sc_law_values : FnScope ["_law_octets", "_law_at", "_law_many", "_law_low", "_law_fault", "_law_height", "_law_spare"] ["_law_octets", "_law_at", "_law_many"] (defScope s_law_values) := ⟨rfl, rfl, rfl, by decide +kernel, rfl, by decide +kernel, by decide +kernel⟩
abbrev s_law_octet : Stmt := top 71
theorem sc_law_octet : FnScope ["_law_octets", "_law_at", "_law_some"] ["_law_octets", "_law_at", "_law_some"] (defScope s_law_octet) := ⟨rfl, rfl, rfl, by decide +kernel, rfl, by decide +kernel, by decide +kernel⟩
abbrev s_law_walk : Stmt := top 72
theorem sc_law_walk : FnScope ["_law_setup_here", "_law_octets", "_law_marks_here", "_law_at", "_law_fault", "_law_kind", "_law_aboard", "_law_kinds", "_law_many", "_law_turn", "_law_place", "_law_laid", "_law_first", "_law_some"] ["_law_setup_here", "_law_octets"] (defScope s_law_walk) := ⟨rfl, rfl, rfl, by decide +kernel, rfl, by decide +kernel, by decide +kernel⟩
abbrev s_law_heard : Stmt := top 73
theorem sc_law_heard : FnScope ["_law_ask", "_law_fault"] ["_law_ask"] (defScope s_law_heard) := ⟨rfl, rfl, rfl, by decide +kernel, rfl, by decide +kernel, by decide +kernel⟩
abbrev s_law_bent : Stmt := top 74
theorem sc_law_bent : FnScope ["_law_box_here", "_law_setup_here", "_law_form", "_law_way", "_law_at", "_law_marks_here", "_law_kind", "_law_laid", "_law_one"] ["_law_box_here", "_law_setup_here", "_law_form"] (defScope s_law_bent) := ⟨rfl, rfl, rfl, by decide +kernel, rfl, by decide +kernel, by decide +kernel⟩
abbrev s_law : Stmt := top 75
theorem sc_law : FnScope ["_law_script", "_law_k", "_law_turn", "_law_behind", "_law_fault", "_law_told", "_law_bad", "_law_box_here", "_law_form", "_law_octets", "_law_odd", "_law_setup_here"] ["_law_script"] (defScope s_law) := ⟨rfl, rfl, rfl, by decide +kernel, rfl, by decide +kernel, by decide +kernel⟩
abbrev FnQ (K : PySem.W.Frag) (x q : Str) (st : Stmt) (f : Addr) (fd : FuncData) : Prop := FunD K x q (defArgs st) (defBody st) (defScope st) [] [] f fd
abbrev fF (K : PySem.W.Frag) (p : Str × Option Str) : Addr := He.fAd K p
def CalX (P : Program) (w : World) (K : PySem.W.Frag) (mg : Str → Option Value) (base : Heap) (CX : CXT) (k : Nat) (f : Addr) (ps : List Str) (sp : Sp) : Prop := ∃ fd : FuncData, FnOk P w K mg base CX k f fd ps sp ∧ PySem.W.keepIn K (.ref f) = true ∧ Binds K fd ps []
/-- what the top leaves -/
structure Fs (P : Program) (K : PySem.W.Frag) (mg : Str → Option Value) : Prop where
  f_is_integer : ∃ fd, FnQ K "is_integer" "is_integer" s_is_integer (fF K ("is_integer", none)) fd
  g_is_integer : mg "is_integer" = some (.ref (fF K ("is_integer", none)))
  f_is_number : ∃ fd, FnQ K "is_number" "is_number" s_is_number (fF K ("is_number", none)) fd
  g_is_number : mg "is_number" = some (.ref (fF K ("is_number", none)))
  f_is_below : ∃ fd, FnQ K "is_below" "is_below" s_is_below (fF K ("is_below", none)) fd
  g_is_below : mg "is_below" = some (.ref (fF K ("is_below", none)))
  f_is_sequence : ∃ fd, FnQ K "is_sequence" "is_sequence" s_is_sequence (fF K ("is_sequence", none)) fd
  g_is_sequence : mg "is_sequence" = some (.ref (fF K ("is_sequence", none)))
  f_need_octets : ∃ fd, FnQ K "need_octets" "need_octets" s_need_octets (fF K ("need_octets", none)) fd
  g_need_octets : mg "need_octets" = some (.ref (fF K ("need_octets", none)))
  f_is_step : ∃ fd, FnQ K "is_step" "is_step" s_is_step (fF K ("is_step", none)) fd
  g_is_step : mg "is_step" = some (.ref (fF K ("is_step", none)))
  f_need_keep : ∃ fd, FnQ K "need_keep" "need_keep" s_need_keep (fF K ("need_keep", none)) fd
  g_need_keep : mg "need_keep" = some (.ref (fF K ("need_keep", none)))
  f_need_first : ∃ fd, FnQ K "need_first" "need_first" s_need_first (fF K ("need_first", none)) fd
  g_need_first : mg "need_first" = some (.ref (fF K ("need_first", none)))
  f_counts_of : ∃ fd, FnQ K "counts_of" "counts_of" s_counts_of (fF K ("counts_of", none)) fd
  g_counts_of : mg "counts_of" = some (.ref (fF K ("counts_of", none)))
  f_shape : ∃ fd, FnQ K "shape" "shape" s_shape (fF K ("shape", none)) fd
  g_shape : mg "shape" = some (.ref (fF K ("shape", none)))
  f_is_row_value : ∃ fd, FnQ K "is_row_value" "is_row_value" s_is_row_value (fF K ("is_row_value", none)) fd
  g_is_row_value : mg "is_row_value" = some (.ref (fF K ("is_row_value", none)))
  f_is_power : ∃ fd, FnQ K "is_power" "is_power" s_is_power (fF K ("is_power", none)) fd
  g_is_power : mg "is_power" = some (.ref (fF K ("is_power", none)))
  f_is_true_of : ∃ fd, FnQ K "is_true_of" "is_true_of" s_is_true_of (fF K ("is_true_of", none)) fd
  g_is_true_of : mg "is_true_of" = some (.ref (fF K ("is_true_of", none)))
  f_is_span : ∃ fd, FnQ K "is_span" "is_span" s_is_span (fF K ("is_span", none)) fd
  g_is_span : mg "is_span" = some (.ref (fF K ("is_span", none)))
  f_is_kind : ∃ fd, FnQ K "is_kind" "is_kind" s_is_kind (fF K ("is_kind", none)) fd
  g_is_kind : mg "is_kind" = some (.ref (fF K ("is_kind", none)))
  f_is_way : ∃ fd, FnQ K "is_way" "is_way" s_is_way (fF K ("is_way", none)) fd
  g_is_way : mg "is_way" = some (.ref (fF K ("is_way", none)))
  f_check_setup : ∃ fd, FnQ K "check_setup" "check_setup" s_check_setup (fF K ("check_setup", none)) fd
  g_check_setup : mg "check_setup" = some (.ref (fF K ("check_setup", none)))
  f_is_mark : ∃ fd, FnQ K "is_mark" "is_mark" s_is_mark (fF K ("is_mark", none)) fd
  g_is_mark : mg "is_mark" = some (.ref (fF K ("is_mark", none)))
  f_are_marks : ∃ fd, FnQ K "are_marks" "are_marks" s_are_marks (fF K ("are_marks", none)) fd
  g_are_marks : mg "are_marks" = some (.ref (fF K ("are_marks", none)))
  f_shapes_of : ∃ fd, FnQ K "shapes_of" "shapes_of" s_shapes_of (fF K ("shapes_of", none)) fd
  g_shapes_of : mg "shapes_of" = some (.ref (fF K ("shapes_of", none)))
  f_is_cargo : ∃ fd, FnQ K "is_cargo" "is_cargo" s_is_cargo (fF K ("is_cargo", none)) fd
  g_is_cargo : mg "is_cargo" = some (.ref (fF K ("is_cargo", none)))
  f_check_frame : ∃ fd, FnQ K "check_frame" "check_frame" s_check_frame (fF K ("check_frame", none)) fd
  g_check_frame : mg "check_frame" = some (.ref (fF K ("check_frame", none)))
  f_octets_for : ∃ fd, FnQ K "octets_for" "octets_for" s_octets_for (fF K ("octets_for", none)) fd
  g_octets_for : mg "octets_for" = some (.ref (fF K ("octets_for", none)))
  f_number_octets : ∃ fd, FnQ K "number_octets" "number_octets" s_number_octets (fF K ("number_octets", none)) fd
  g_number_octets : mg "number_octets" = some (.ref (fF K ("number_octets", none)))
  f_most_rest : ∃ fd, FnQ K "most_rest" "most_rest" s_most_rest (fF K ("most_rest", none)) fd
  g_most_rest : mg "most_rest" = some (.ref (fF K ("most_rest", none)))
  f_values_octets : ∃ fd, FnQ K "values_octets" "values_octets" s_values_octets (fF K ("values_octets", none)) fd
  g_values_octets : mg "values_octets" = some (.ref (fF K ("values_octets", none)))
  f_look_numbers : ∃ fd, FnQ K "look_numbers" "look_numbers" s_look_numbers (fF K ("look_numbers", none)) fd
  g_look_numbers : mg "look_numbers" = some (.ref (fF K ("look_numbers", none)))
  f_mark_octets : ∃ fd, FnQ K "mark_octets" "mark_octets" s_mark_octets (fF K ("mark_octets", none)) fd
  g_mark_octets : mg "mark_octets" = some (.ref (fF K ("mark_octets", none)))
  f_frame_octets : ∃ fd, FnQ K "frame_octets" "frame_octets" s_frame_octets (fF K ("frame_octets", none)) fd
  g_frame_octets : mg "frame_octets" = some (.ref (fF K ("frame_octets", none)))
  f_Octets___init__ : ∃ fd, FnQ K "__init__" "Octets.__init__" s_Octets___init__ (fF K ("Octets", some "__init__")) fd
  f_Octets_take_of : ∃ fd, FnQ K "take_of" "Octets.take_of" s_Octets_take_of (fF K ("Octets", some "take_of")) fd
  m_Octets_take_of : Meth K (He.ga K "Octets") "take_of" (fF K ("Octets", some "take_of"))
  f_Octets_take : ∃ fd, FnQ K "take" "Octets.take" s_Octets_take (fF K ("Octets", some "take")) fd
  m_Octets_take : Meth K (He.ga K "Octets") "take" (fF K ("Octets", some "take"))
  f_Octets_take_number : ∃ fd, FnQ K "take_number" "Octets.take_number" s_Octets_take_number (fF K ("Octets", some "take_number")) fd
  m_Octets_take_number : Meth K (He.ga K "Octets") "take_number" (fF K ("Octets", some "take_number"))
  f_Octets_take_mark : ∃ fd, FnQ K "take_mark" "Octets.take_mark" s_Octets_take_mark (fF K ("Octets", some "take_mark")) fd
  m_Octets_take_mark : Meth K (He.ga K "Octets") "take_mark" (fF K ("Octets", some "take_mark"))
  f_Octets_take_span : ∃ fd, FnQ K "take_span" "Octets.take_span" s_Octets_take_span (fF K ("Octets", some "take_span")) fd
  m_Octets_take_span : Meth K (He.ga K "Octets") "take_span" (fF K ("Octets", some "take_span"))
  f_Octets_take_cargo : ∃ fd, FnQ K "take_cargo" "Octets.take_cargo" s_Octets_take_cargo (fF K ("Octets", some "take_cargo")) fd
  m_Octets_take_cargo : Meth K (He.ga K "Octets") "take_cargo" (fF K ("Octets", some "take_cargo"))
  f_octets_from : ∃ fd, FnQ K "octets_from" "octets_from" s_octets_from (fF K ("octets_from", none)) fd
  g_octets_from : mg "octets_from" = some (.ref (fF K ("octets_from", none)))
  f_frame_at : ∃ fd, FnQ K "frame_at" "frame_at" s_frame_at (fF K ("frame_at", none)) fd
  g_frame_at : mg "frame_at" = some (.ref (fF K ("frame_at", none)))
  f_law_box : ∃ fd, FnQ K "_law_box" "_law_box" s_law_box (fF K ("_law_box", none)) fd
  g_law_box : mg "_law_box" = some (.ref (fF K ("_law_box", none)))
  f_law_take : ∃ fd, FnQ K "_law_take" "_law_take" s_law_take (fF K ("_law_take", none)) fd
  g_law_take : mg "_law_take" = some (.ref (fF K ("_law_take", none)))
  f_law_pick : ∃ fd, FnQ K "_law_pick" "_law_pick" s_law_pick (fF K ("_law_pick", none)) fd
  g_law_pick : mg "_law_pick" = some (.ref (fF K ("_law_pick", none)))
  f_law_setup : ∃ fd, FnQ K "_law_setup" "_law_setup" s_law_setup (fF K ("_law_setup", none)) fd
  g_law_setup : mg "_law_setup" = some (.ref (fF K ("_law_setup", none)))
  f_law_shape : ∃ fd, FnQ K "_law_shape" "_law_shape" s_law_shape (fF K ("_law_shape", none)) fd
  g_law_shape : mg "_law_shape" = some (.ref (fF K ("_law_shape", none)))
  f_law_mark : ∃ fd, FnQ K "_law_mark" "_law_mark" s_law_mark (fF K ("_law_mark", none)) fd
  g_law_mark : mg "_law_mark" = some (.ref (fF K ("_law_mark", none)))
  f_law_span : ∃ fd, FnQ K "_law_span" "_law_span" s_law_span (fF K ("_law_span", none)) fd
  g_law_span : mg "_law_span" = some (.ref (fF K ("_law_span", none)))
  f_law_frame : ∃ fd, FnQ K "_law_frame" "_law_frame" s_law_frame (fF K ("_law_frame", none)) fd
  g_law_frame : mg "_law_frame" = some (.ref (fF K ("_law_frame", none)))
  f_law_need : ∃ fd, FnQ K "_law_need" "_law_need" s_law_need (fF K ("_law_need", none)) fd
  g_law_need : mg "_law_need" = some (.ref (fF K ("_law_need", none)))
  f_law_number : ∃ fd, FnQ K "_law_number" "_law_number" s_law_number (fF K ("_law_number", none)) fd
  g_law_number : mg "_law_number" = some (.ref (fF K ("_law_number", none)))
  f_law_marks : ∃ fd, FnQ K "_law_marks" "_law_marks" s_law_marks (fF K ("_law_marks", none)) fd
  g_law_marks : mg "_law_marks" = some (.ref (fF K ("_law_marks", none)))
  f_law_values : ∃ fd, FnQ K "_law_values" "_law_values" s_law_values (fF K ("_law_values", none)) fd
  g_law_values : mg "_law_values" = some (.ref (fF K ("_law_values", none)))
  f_law_octet : ∃ fd, FnQ K "_law_octet" "_law_octet" s_law_octet (fF K ("_law_octet", none)) fd
  g_law_octet : mg "_law_octet" = some (.ref (fF K ("_law_octet", none)))
  f_law_walk : ∃ fd, FnQ K "_law_walk" "_law_walk" s_law_walk (fF K ("_law_walk", none)) fd
  g_law_walk : mg "_law_walk" = some (.ref (fF K ("_law_walk", none)))
  f_law_heard : ∃ fd, FnQ K "_law_heard" "_law_heard" s_law_heard (fF K ("_law_heard", none)) fd
  g_law_heard : mg "_law_heard" = some (.ref (fF K ("_law_heard", none)))
  f_law_bent : ∃ fd, FnQ K "_law_bent" "_law_bent" s_law_bent (fF K ("_law_bent", none)) fd
  g_law_bent : mg "_law_bent" = some (.ref (fF K ("_law_bent", none)))
  f_law : ∃ fd, FnQ K "law" "law" s_law (fF K ("law", none)) fd
  g_law : mg "law" = some (.ref (fF K ("law", none)))
  g_Octets : mg "Octets" = some (.ref (He.ga K "Octets"))
  cl_Octets : Cls K (He.ga K "Octets")
  mk_Octets : Mk K (He.ga K "Octets") (fF K ("Octets", some "__init__"))
  na_octets : NoAttr K (He.ga K "Octets") "octets"
  na_at : NoAttr K (He.ga K "Octets") "at"
  x_BadOctets : Ex.Txt P K mg "BadOctets" (He.ga K "BadOctets") (He.ma K (He.ga K "BadOctets") "__init__")
  x_BadSetup : Ex.Txt P K mg "BadSetup" (He.ga K "BadSetup") (He.ma K (He.ga K "BadSetup") "__init__")
  x_Refused : Ex.Txt P K mg "Refused" (He.ga K "Refused") (He.ma K (He.ga K "Refused") "__init__")
  x_Broken : Ex.Txt P K mg "Broken" (He.ga K "Broken") (He.ma K (He.ga K "Broken") "__init__")
  b_abs : mg "abs" = none
  b_all : mg "all" = none
  b_any : mg "any" = none
  b_bool : mg "bool" = none
  b_enumerate : mg "enumerate" = none
  b_int : mg "int" = none
  b_isinstance : mg "isinstance" = none
  b_len : mg "len" = none
  b_list : mg "list" = none
  b_max : mg "max" = none
  b_min : mg "min" = none
  b_range : mg "range" = none
  b_repr : mg "repr" = none
  b_set : mg "set" = none
  b_sorted : mg "sorted" = none
  b_super : mg "super" = none
  b_tuple : mg "tuple" = none
  b_zip : mg "zip" = none
  k_MOST_OCTET : ∃ t, mg "MOST_OCTET" = some (.int 256 t)
  k_MOST_STEP : ∃ t, mg "MOST_STEP" = some (.int 1000 t)
  k_LEAST_KEEP : ∃ t, mg "LEAST_KEEP" = some (.int 2 t)
  k_MOST_KEEP : ∃ t, mg "MOST_KEEP" = some (.int 8 t)
  k_MOST_VALUE : ∃ t, mg "MOST_VALUE" = some (.int 1000000 t)
  k_MOST_KINDS : ∃ t, mg "MOST_KINDS" = some (.int 6 t)
  k_MOST_WAY : ∃ t, mg "MOST_WAY" = some (.int 10000 t)
  k_MOST_LAID : ∃ t, mg "MOST_LAID" = some (.int 100000 t)
  k_MOST_CARGO : ∃ t, mg "MOST_CARGO" = some (.int 100 t)
  k_COUNT_OCTETS : ∃ t, mg "COUNT_OCTETS" = some (.int 4 t)
  k_MOST_NUMBER : ∃ t, mg "MOST_NUMBER" = some (.int 4294967296 t)
  k_LAID_OCTETS : ∃ t, mg "LAID_OCTETS" = some (.int 3 t)
  k_VALUE_OCTETS : ∃ t, mg "VALUE_OCTETS" = some (.int 3 t)
theorem hu64 {A : Around} {k : Nat} (hr : Room k A) : A.units + 64 < cLine := by have := hr.un; omega
theorem hu65 {A : Around} {k : Nat} (hr : Room k A) : A.units + 65 < cLine := by have := hr.un; omega
end Fw
end
section
set_option Elab.async false
set_option autoImplicit false
set_option linter.all false
set_option maxRecDepth 100000
set_option maxHeartbeats 1000000
/-! HX: what the head is asked: the defs, the error classes with an own __init__, law's table. -/
namespace Hx
open PySem PySem.Spec PyProof.Rows L2
abbrev Fr : Type := PySem.W.Frag
/-! ### the part of the heap that is looked at -/
def seen (g : Addr → Option Obj) (n : Nat) : Fr := He.frT g (He.asD g n ++ [cStatics])
/-! ### an error class -/
structure Er where
  x : Str
  q : Str
  st : Stmt
abbrev ErV : Type := Option (Str × Str × Arguments × FuncBody × Scope × Addr × List Str × Value × Value × Addr)
def Er.C (K : Fr) (e : Er) : Addr := He.ga K e.x
def Er.f (K : Fr) (e : Er) : Addr := He.ma K (He.ga K e.x) "__init__"
def Er.obs (K : Fr) (e : Er) : ErV := match K.lookup (e.f K) with
  | some ⟨_, _, .func d, _⟩ => some (d.name, d.qualname, d.params, d.body, d.scope, d.globals, d.closure.map (·.1), d.defaults, d.kwdefaults, d.builtins)
  | _ => none
def Er.val (e : Er) : ErV := some ("__init__", e.q, defArgs e.st, .stmts (defBody e.st), defScope e.st, mainGlobals, ["__class__"], .none, .none, builtinsNs)
def clsB (K : Fr) (C : Addr) : Bool := match K.lookup C with
  | some ⟨.type t, _, .cls cd, sl⟩ => decide (t = "type") && (match cd.mro, sl.toList with
    | .ref D :: bm, [_, _, _, _, some (.builtin n), _] => decide (D = C) && (decide (n = "ValueError.__new__") && (!cd.hasDel && (cd.hasDict && PySem.HandSPX.refsVE bm)))
    | _, _ => false)
  | _ => false
def iniB (file : Str) (K : Fr) (e : Er) : Bool := match K.lookup (e.f K) with
  | some ⟨_, _, .func d, _⟩ => PySem.W.codeIn K d.code e.q && ((match d.code with
    | .ref c => (match K.lookup c with
      | some ⟨_, _, .fields vs, _⟩ => (match vs[2]? with
        | some (Value.str fl _) => file == fl
        | _ => false)
      | _ => false)
    | _ => false) && (match d.closure with
    | [(_, cc)] => (match K.lookup cc with
      | some ⟨_, _, .cell (some (.ref D)), _⟩ => decide (D = e.C K)
      | _ => false)
    | _ => false))
  | _ => false
def Er.bs (file : Str) (K : Fr) (e : Er) : List Bool :=
  [clsB K (e.C K), iniB file K e, He.eqO (PySem.W.findIn K (.ref (e.C K)) "__setattr__") (some (some (.builtin "object.__setattr__"))), xfB K (e.C K), He.eqO (PySem.W.findIn K (.ref (e.C K)) "at") (some none),
   He.eqO (PySem.W.findIn K (.ref (e.C K)) "__init__") (some (some (.ref (e.f K)))), decide (PySem.W.typeIn K (.ref (e.f K)) = some (.type "function")), PySem.W.keepIn K (.ref (e.C K)), decide (PySem.W.typeIn K (.ref (e.C K)) = some (.type "type")),
   He.eqO (PySem.W.ks_superIn K (e.C K) (e.C K) "__init__") (some (some (.builtin "ValueError.__init__"))), decide (PySem.W.subIn K (.ref (e.C K)) (.type "ValueError") = some true), He.eqO (PySem.W.nsIn K cStatics "thirdparty.any") (some none),
   decide (PySem.W.mroIn K (e.C K) (.ref (e.C K)) = some true), He.eqO (PySem.W.nsIn K mainGlobals "super") (some none),
   He.eqO (PySem.W.findIn K (.ref (e.C K)) "__class__") (some (some (.builtin "object.__class__"))), He.eqO (PySem.W.specialIn K (.builtin "object.__class__") "__get__") (some (some (.builtin "getset_descriptor.__get__"))),
   decide (PySem.W.takesIn K (.builtin "object.__class__") = some true), decide (PySem.W.mroIn K (e.C K) (.type "object") = some true), decide (PySem.W.kitOne K (.ref (e.C K)) (.ref (He.ga K "FarError")) = some true), He.eqO (PySem.W.nsIn K mainGlobals e.x) (some (some (.ref (e.C K))))]
def exB (file : Str) (es : List Er) (K : Fr) : Bool := es.all fun e => (e.bs file K).all id
theorem Er.b {file : Str} {es : List Er} {K : Fr} (h : exB file es K = true) {e : Er} (he : e ∈ es) (i : Nat) {b : Bool} (hb : (e.bs file K)[i]? = some b) : b = true := List.all_eq_true.mp (List.all_eq_true.mp h e he) b (List.mem_of_getElem? hb)
theorem cls_ok {K : Fr} {C : Addr} (h : clsB K C = true) : ∃ nm q N bs bm sn sub ab col dd k0 k1 k2 k3 k5, K.lookup C = some (excClassObj nm q C N bs bm true sn sub ab col dd k0 k1 k2 k3 k5 "ValueError.__new__") ∧ PySem.HandSPX.refsVE bm = true := by
  unfold clsB at h
  split at h
  · rename_i t dd cd sl ho
    obtain ⟨h1, h⟩ := Bool.and_eq_true_iff.mp h
    split at h
    · rename_i D bm k0 k1 k2 k3 n k5 hm hs
      obtain ⟨h2, h⟩ := Bool.and_eq_true_iff.mp h
      obtain ⟨h3, h⟩ := Bool.and_eq_true_iff.mp h
      obtain ⟨h4, h⟩ := Bool.and_eq_true_iff.mp h
      obtain ⟨h5, h6⟩ := Bool.and_eq_true_iff.mp h
      have e1 := of_decide_eq_true h1
      have e2 := of_decide_eq_true h2
      have e3 := of_decide_eq_true h3
      obtain ⟨nm, bs, mro, ns, qn, hd, sn, sub, ab, col, del⟩ := cd
      dsimp only at hm h4 h5
      rw [Bool.not_eq_true'] at h4
      subst hm h4 h5 e1 e2 e3
      have hsl : sl = #[k0, k1, k2, k3, some (.builtin "ValueError.__new__"), k5] := by
        obtain ⟨l⟩ := sl
        have hs : l = _ := hs
        rw [hs]
      subst hsl
      exact ⟨nm, qn, ns, bs, bm, sn, sub, ab, col, dd, k0, k1, k2, k3, k5, ho, h6⟩
    · cases h
  · cases h
/-- what the text of such a class must be -/
structure Er.Is (e : Er) (msg : Str) : Prop where
  ex : ∃ p q' p1 p2 p3 p4 p5 p6 p7 p8 p9 p10 : Pos, defArgs e.st = Ex.eA p q' ∧ defBody e.st = Ex.eB msg p1 p2 p3 p4 p5 p6 p7 p8 p9 p10 ∧ Ex.Form msg p1 p2 p3 p4 p5
  sc : defScope e.st = Ex.eS
theorem ini_ok {K : Fr} {e : Er} {file msg : Str} (T : e.Is msg) (ho : e.obs K = e.val) (h : iniB file K e = true) : ∃ (oc : Value) (od : Option Addr) (doc pm : Value) (an : Option Addr) (cda cc : Addr) (ct : Value) (osl : Array (Option Value)) (q msg : Str) (p q' p1 p2 p3 p4 p5 p6 p7 p8 p9 p10 : Pos),
    K.lookup (e.f K) = some ⟨oc, od, .func (PySem.W.ksFn "__init__" q (Ex.eA p q') (Ex.eB msg p1 p2 p3 p4 p5 p6 p7 p8 p9 p10) Ex.eS .none .none doc pm an (.ref cda) ct cc), osl⟩ ∧ PySem.W.codeIn K (.ref cda) q = true ∧ Ex.Form msg p1 p2 p3 p4 p5 ∧
    (∃ cl cld csl, K.lookup cc = some ⟨cl, cld, .cell (some (.ref (e.C K))), csl⟩) ∧ ∃ (ccl : Value) (cdd : Option Addr) (vs : Array Value) (ccs : Array (Option Value)) (fl : Str) (tf : Tok), K.lookup cda = some ⟨ccl, cdd, .fields vs, ccs⟩ ∧ vs[2]? = some (.str fl tf) ∧ (file == fl) = true := by
  obtain ⟨⟨p, q', p1, p2, p3, p4, p5, p6, p7, p8, p9, p10, ea, eb, hf⟩, es⟩ := T
  unfold Er.obs at ho
  unfold iniB at h
  cases hk : K.lookup (e.f K) with
  | none => rw [hk] at h; cases h
  | some o =>
    obtain ⟨oc, od, dt, osl⟩ := o
    rw [hk] at h ho
    cases dt with
    | func d =>
      obtain ⟨n1, n2, n3, n4, n5, n6, n7, n8, n9, n10, n11, n12, n13, n14, n15⟩ := d
      have ho : (some (n1, n2, n3, n4, n5, n6, n7.map (·.1), n8, n9, n15) : ErV) = e.val := ho
      unfold Er.val at ho
      simp only [Option.some.injEq, Prod.mk.injEq] at ho
      obtain ⟨h1, h2, h3, h4, h5, h6, h7, h8, h9, h10⟩ := ho
      subst h1 h2 h3 h4 h5 h6 h8 h9 h10
      dsimp only at h
      obtain ⟨c1, h⟩ := Bool.and_eq_true_iff.mp h
      obtain ⟨c2, c3⟩ := Bool.and_eq_true_iff.mp h
      cases n13 with
      | ref cda =>
        dsimp only at c2
        cases hc : K.lookup cda with
        | none => rw [hc] at c2; cases c2
        | some oo =>
          obtain ⟨ccl, cdd, dd, ccs⟩ := oo
          rw [hc] at c2
          cases dd with
          | fields vs =>
            dsimp only at c2
            split at c2
            · rename_i fl tf hv
              cases n7 with
              | nil => cases h7
              | cons z zs =>
                cases zs with
                | cons _ _ => exact absurd (List.cons.inj h7).2 (by simp)
                | nil =>
                  obtain ⟨zn, cc⟩ := z
                  have h7 : zn = ("__class__" : Str) := (List.cons.inj (show [zn] = (["__class__"] : List Str) from h7)).1
                  subst h7
                  dsimp only at c3
                  split at c3
                  · rename_i cl cld D csl hcc
                    have eD := of_decide_eq_true c3
                    subst eD
                    refine ⟨oc, od, n10, n11, n12, cda, cc, n14, osl, e.q, msg, p, q', p1, p2, p3, p4, p5, p6, p7, p8, p9, p10, ?_, c1, hf, ⟨cl, cld, csl, hcc⟩, ccl, cdd, vs, ccs, fl, tf, hc, hv, c2⟩
                    rw [ea, eb, es]
                  · cases c3
            · cases c2
          | _ => cases c2
      | _ => cases c2
    | _ => cases h
theorem txt_ok {P : Program} {K : Fr} {h : Heap} {mg : Str → Option Value} {es : List Er} {e : Er} {msg : Str} (X : K.In h) (G : h.Ns mainGlobals mg) (T : e.Is msg) (ho : e.obs K = e.val) (c : exB P.main.file es K = true) (he : e ∈ es) (hs : (P.main.scope.names.lookup ("super" : Str)).isSome = false) : Ex.Txt P K mg e.x (e.C K) (e.f K) where
  gC := PySem.W.mg_of X G (He.eqO_ok (Er.b c he 19 rfl))
  cls := cls_ok (Er.b c he 0 rfl)
  sa := He.eqO_ok (Er.b c he 2 rfl)
  xf := xfB_ok (Er.b c he 3 rfl)
  no := He.eqO_ok (Er.b c he 4 rfl)
  ini := He.eqO_ok (Er.b c he 5 rfl)
  tyI := of_decide_eq_true (Er.b c he 6 rfl)
  kC := Er.b c he 7 rfl
  tyC := of_decide_eq_true (Er.b c he 8 rfl)
  sup := He.eqO_ok (Er.b c he 9 rfl)
  ve := of_decide_eq_true (Er.b c he 10 rfl)
  opq := He.eqO_ok (Er.b c he 11 rfl)
  mro := of_decide_eq_true (Er.b c he 12 rfl)
  nsup := He.eqO_ok (Er.b c he 13 rfl)
  top := hs
  fn := ini_ok T ho (Er.b c he 1 rfl)
theorem exc_ok {K : Fr} {file : Str} {es : List Er} {e : Er} (c : exB file es K = true) (he : e ∈ es) : L2.ExcC K (e.C K) :=
  have x := xfB_ok (Er.b c he 3 rfl)
  ⟨x.ga, x.gg, x.exC, x.hdC, He.eqO_ok (Er.b c he 14 rfl), He.eqO_ok (Er.b c he 15 rfl), of_decide_eq_true (Er.b c he 16 rfl), of_decide_eq_true (Er.b c he 17 rfl)⟩
/-! ### the Hook -/
def lawT (K : Fr) : Addr × Addr := He.cT K ("law", none)
def tabB (g : Addr → Option Obj) (K : Fr) : Bool := PySem.W.codeHdIn K (lawT K).1 (lawT K).2 && (match g (lawT K).2 with
  | some o => He.emptyTab o
  | none => false)
abbrev Al : Type := He.AlD × (List ErV × Bool)
def obsH (n : Nat) (file : Str) (fa : List He.Fa) (fn : List He.DefD) (es : List Er) (g : Addr → Option Obj) : Al := (He.obsD fa fn (seen g n), es.map (fun e => e.obs (seen g n)), exB file es (seen g n) && tabB g (seen g n))
def valH (fn : List He.DefD) (es : List Er) : Al := (He.valD fn, es.map Er.val, true)
structure Says (file : Str) (fa : List He.Fa) (fn : List He.DefD) (es : List Er) (h : Heap) (K : Fr) : Prop where
  d : He.SaysD fa fn K
  e : es.map (fun e => e.obs K) = es.map Er.val
  b : exB file es K = true
  hd : PySem.W.codeHdIn K (lawT K).1 (lawT K).2 = true
  out : K.lookup (lawT K).2 = none
  nil : h.get? (lawT K).2 = some { cls := .none, data := .fields #[] }
theorem says_of {n : Nat} {file : Str} {fa : List He.Fa} {fn : List He.DefD} {es : List Er} {h : Heap} (q : obsH n file fa fn es h.get? = valH fn es) : Says file fa fn es h (seen h.get? n) := by
  have q2 : (exB file es (seen h.get? n) && tabB h.get? (seen h.get? n)) = true := congrArg (fun z : Al => z.2.2) q
  obtain ⟨h1, h2⟩ := Bool.and_eq_true_iff.mp q2
  obtain ⟨h3, h4⟩ := Bool.and_eq_true_iff.mp h2
  cases ho : h.get? (lawT (seen h.get? n)).2 with
  | none => rw [ho] at h4; cases h4
  | some o =>
    rw [ho] at h4
    exact ⟨congrArg (fun z : Al => z.1) q, congrArg (fun z : Al => z.2.1) q, h1, h3, He.frT_none ho h4, ho.trans (congrArg some (He.emptyTab_eq h4))⟩
def hook (n : Nat) (file : Str) (fa : List He.Fa) (fn : List He.DefD) (es : List Er) : PySem.W.Hook where
  α := Al
  obs := fun s => obsH n file fa fn es s.heap.get?
  val := fun _ => valH fn es
  says := fun _ h => ∃ K : Fr, K.In h ∧ Says file fa fn es h K
  of := fun _ _ q => ⟨_, He.frT_in, says_of q⟩
  keeps := fun _ _ _ ⟨K, hK, c⟩ k => ⟨K, PySem.W.Frag.In.keeps hK k, c.d, c.e, c.b, c.hd, c.out, k _ _ c.nil⟩
theorem obs_eq {n : Nat} {file : Str} {fa : List He.Fa} {fn : List He.DefD} {es : List Er} {g : Addr → Option Obj} {s : Shared} (h : ∀ a, g a = s.heap.get? a) : obsH n file fa fn es g = (hook n file fa fn es).obs s := by
  cases (funext h : g = s.heap.get?)
  rfl
theorem Says.er {file : Str} {fa : List He.Fa} {fn : List He.DefD} {es : List Er} {h : Heap} {K : Fr} (c : Says file fa fn es h K) (i : Nat) {e : Er} (hi : es[i]? = some e) : e.obs K = e.val := by
  have z : (es.map fun e => e.obs K)[i]? = (es.map Er.val)[i]? := by rw [c.e]
  rw [List.getElem?_map, List.getElem?_map, hi] at z
  exact Option.some.inj z
end Hx
end
section
set_option Elab.async false
set_option autoImplicit false
set_option linter.all false
set_option maxRecDepth 100000
set_option maxHeartbeats 0
/-! Hd (printed by gen.py): the head: what the top has left, the run. -/
namespace Hx
open PySem PySem.Spec PyProof.Rows L2 Fw
def nm0 : List PySem.Str := ["FarError", "BadOctets", "BadSetup", "BadFrame", "Refused", "Broken", "MOST_OCTET", "is_integer", "is_number", "is_below", "is_sequence", "need_octets", "MOST_STEP", "is_step", "LEAST_KEEP", "MOST_KEEP", "need_keep", "need_first", "counts_of", "shape", "MOST_VALUE", "is_row_value", "is_power", "is_true_of", "is_span", "MOST_KINDS", "MOST_WAY", "MOST_LAID", "MOST_CARGO", "is_kind"]
def nm1 : List PySem.Str := ["is_way", "check_setup", "is_mark", "are_marks", "shapes_of", "is_cargo", "check_frame", "COUNT_OCTETS", "MOST_NUMBER", "LAID_OCTETS", "VALUE_OCTETS", "octets_for", "number_octets", "most_rest", "values_octets", "look_numbers", "mark_octets", "frame_octets", "Octets", "octets_from", "frame_at", "_law_box", "_law_take", "_law_pick", "_law_setup", "_law_shape", "_law_mark", "_law_span", "_law_frame", "_law_need"]
def nm2 : List PySem.Str := ["_law_number", "_law_marks", "_law_values", "_law_octet", "_law_walk", "_law_heard", "_law_bent"]
def nms : List PySem.Str := nm0 ++ nm1 ++ nm2
def d_is_integer : He.DefD := ⟨("is_integer", none), "is_integer", "is_integer", defArgs s_is_integer, defBody s_is_integer, defScope s_is_integer, [], []⟩
def d_is_number : He.DefD := ⟨("is_number", none), "is_number", "is_number", defArgs s_is_number, defBody s_is_number, defScope s_is_number, [], []⟩
def d_is_below : He.DefD := ⟨("is_below", none), "is_below", "is_below", defArgs s_is_below, defBody s_is_below, defScope s_is_below, [], []⟩
def d_is_sequence : He.DefD := ⟨("is_sequence", none), "is_sequence", "is_sequence", defArgs s_is_sequence, defBody s_is_sequence, defScope s_is_sequence, [], []⟩
def d_need_octets : He.DefD := ⟨("need_octets", none), "need_octets", "need_octets", defArgs s_need_octets, defBody s_need_octets, defScope s_need_octets, [], []⟩
def d_is_step : He.DefD := ⟨("is_step", none), "is_step", "is_step", defArgs s_is_step, defBody s_is_step, defScope s_is_step, [], []⟩
def d_need_keep : He.DefD := ⟨("need_keep", none), "need_keep", "need_keep", defArgs s_need_keep, defBody s_need_keep, defScope s_need_keep, [], []⟩
def d_need_first : He.DefD := ⟨("need_first", none), "need_first", "need_first", defArgs s_need_first, defBody s_need_first, defScope s_need_first, [], []⟩
def d_counts_of : He.DefD := ⟨("counts_of", none), "counts_of", "counts_of", defArgs s_counts_of, defBody s_counts_of, defScope s_counts_of, [], []⟩
def d_shape : He.DefD := ⟨("shape", none), "shape", "shape", defArgs s_shape, defBody s_shape, defScope s_shape, [], []⟩
def d_is_row_value : He.DefD := ⟨("is_row_value", none), "is_row_value", "is_row_value", defArgs s_is_row_value, defBody s_is_row_value, defScope s_is_row_value, [], []⟩
def d_is_power : He.DefD := ⟨("is_power", none), "is_power", "is_power", defArgs s_is_power, defBody s_is_power, defScope s_is_power, [], []⟩
def d_is_true_of : He.DefD := ⟨("is_true_of", none), "is_true_of", "is_true_of", defArgs s_is_true_of, defBody s_is_true_of, defScope s_is_true_of, [], []⟩
def d_is_span : He.DefD := ⟨("is_span", none), "is_span", "is_span", defArgs s_is_span, defBody s_is_span, defScope s_is_span, [], []⟩
def d_is_kind : He.DefD := ⟨("is_kind", none), "is_kind", "is_kind", defArgs s_is_kind, defBody s_is_kind, defScope s_is_kind, [], []⟩
def d_is_way : He.DefD := ⟨("is_way", none), "is_way", "is_way", defArgs s_is_way, defBody s_is_way, defScope s_is_way, [], []⟩
def d_check_setup : He.DefD := ⟨("check_setup", none), "check_setup", "check_setup", defArgs s_check_setup, defBody s_check_setup, defScope s_check_setup, [], []⟩
def d_is_mark : He.DefD := ⟨("is_mark", none), "is_mark", "is_mark", defArgs s_is_mark, defBody s_is_mark, defScope s_is_mark, [], []⟩
def d_are_marks : He.DefD := ⟨("are_marks", none), "are_marks", "are_marks", defArgs s_are_marks, defBody s_are_marks, defScope s_are_marks, [], []⟩
def d_shapes_of : He.DefD := ⟨("shapes_of", none), "shapes_of", "shapes_of", defArgs s_shapes_of, defBody s_shapes_of, defScope s_shapes_of, [], []⟩
def d_is_cargo : He.DefD := ⟨("is_cargo", none), "is_cargo", "is_cargo", defArgs s_is_cargo, defBody s_is_cargo, defScope s_is_cargo, [], []⟩
def d_check_frame : He.DefD := ⟨("check_frame", none), "check_frame", "check_frame", defArgs s_check_frame, defBody s_check_frame, defScope s_check_frame, [], []⟩
def d_octets_for : He.DefD := ⟨("octets_for", none), "octets_for", "octets_for", defArgs s_octets_for, defBody s_octets_for, defScope s_octets_for, [], []⟩
def d_number_octets : He.DefD := ⟨("number_octets", none), "number_octets", "number_octets", defArgs s_number_octets, defBody s_number_octets, defScope s_number_octets, [], []⟩
def d_most_rest : He.DefD := ⟨("most_rest", none), "most_rest", "most_rest", defArgs s_most_rest, defBody s_most_rest, defScope s_most_rest, [], []⟩
def d_values_octets : He.DefD := ⟨("values_octets", none), "values_octets", "values_octets", defArgs s_values_octets, defBody s_values_octets, defScope s_values_octets, [], []⟩
def d_look_numbers : He.DefD := ⟨("look_numbers", none), "look_numbers", "look_numbers", defArgs s_look_numbers, defBody s_look_numbers, defScope s_look_numbers, [], []⟩
def d_mark_octets : He.DefD := ⟨("mark_octets", none), "mark_octets", "mark_octets", defArgs s_mark_octets, defBody s_mark_octets, defScope s_mark_octets, [], []⟩
def d_frame_octets : He.DefD := ⟨("frame_octets", none), "frame_octets", "frame_octets", defArgs s_frame_octets, defBody s_frame_octets, defScope s_frame_octets, [], []⟩
def d_Octets___init__ : He.DefD := ⟨("Octets", some "__init__"), "__init__", "Octets.__init__", defArgs s_Octets___init__, defBody s_Octets___init__, defScope s_Octets___init__, [], []⟩
def d_Octets_take_of : He.DefD := ⟨("Octets", some "take_of"), "take_of", "Octets.take_of", defArgs s_Octets_take_of, defBody s_Octets_take_of, defScope s_Octets_take_of, [], []⟩
def d_Octets_take : He.DefD := ⟨("Octets", some "take"), "take", "Octets.take", defArgs s_Octets_take, defBody s_Octets_take, defScope s_Octets_take, [], []⟩
def d_Octets_take_number : He.DefD := ⟨("Octets", some "take_number"), "take_number", "Octets.take_number", defArgs s_Octets_take_number, defBody s_Octets_take_number, defScope s_Octets_take_number, [], []⟩
def d_Octets_take_mark : He.DefD := ⟨("Octets", some "take_mark"), "take_mark", "Octets.take_mark", defArgs s_Octets_take_mark, defBody s_Octets_take_mark, defScope s_Octets_take_mark, [], []⟩
def d_Octets_take_span : He.DefD := ⟨("Octets", some "take_span"), "take_span", "Octets.take_span", defArgs s_Octets_take_span, defBody s_Octets_take_span, defScope s_Octets_take_span, [], []⟩
def d_Octets_take_cargo : He.DefD := ⟨("Octets", some "take_cargo"), "take_cargo", "Octets.take_cargo", defArgs s_Octets_take_cargo, defBody s_Octets_take_cargo, defScope s_Octets_take_cargo, [], []⟩
def d_octets_from : He.DefD := ⟨("octets_from", none), "octets_from", "octets_from", defArgs s_octets_from, defBody s_octets_from, defScope s_octets_from, [], []⟩
def d_frame_at : He.DefD := ⟨("frame_at", none), "frame_at", "frame_at", defArgs s_frame_at, defBody s_frame_at, defScope s_frame_at, [], []⟩
def d_law_box : He.DefD := ⟨("_law_box", none), "_law_box", "_law_box", defArgs s_law_box, defBody s_law_box, defScope s_law_box, [], []⟩
def d_law_take : He.DefD := ⟨("_law_take", none), "_law_take", "_law_take", defArgs s_law_take, defBody s_law_take, defScope s_law_take, [], []⟩
def d_law_pick : He.DefD := ⟨("_law_pick", none), "_law_pick", "_law_pick", defArgs s_law_pick, defBody s_law_pick, defScope s_law_pick, [], []⟩
def d_law_setup : He.DefD := ⟨("_law_setup", none), "_law_setup", "_law_setup", defArgs s_law_setup, defBody s_law_setup, defScope s_law_setup, [], []⟩
def d_law_shape : He.DefD := ⟨("_law_shape", none), "_law_shape", "_law_shape", defArgs s_law_shape, defBody s_law_shape, defScope s_law_shape, [], []⟩
def d_law_mark : He.DefD := ⟨("_law_mark", none), "_law_mark", "_law_mark", defArgs s_law_mark, defBody s_law_mark, defScope s_law_mark, [], []⟩
def d_law_span : He.DefD := ⟨("_law_span", none), "_law_span", "_law_span", defArgs s_law_span, defBody s_law_span, defScope s_law_span, [], []⟩
def d_law_frame : He.DefD := ⟨("_law_frame", none), "_law_frame", "_law_frame", defArgs s_law_frame, defBody s_law_frame, defScope s_law_frame, [], []⟩
def d_law_need : He.DefD := ⟨("_law_need", none), "_law_need", "_law_need", defArgs s_law_need, defBody s_law_need, defScope s_law_need, [], []⟩
def d_law_number : He.DefD := ⟨("_law_number", none), "_law_number", "_law_number", defArgs s_law_number, defBody s_law_number, defScope s_law_number, [], []⟩
def d_law_marks : He.DefD := ⟨("_law_marks", none), "_law_marks", "_law_marks", defArgs s_law_marks, defBody s_law_marks, defScope s_law_marks, [], []⟩
def d_law_values : He.DefD := ⟨("_law_values", none), "_law_values", "_law_values", defArgs s_law_values, defBody s_law_values, defScope s_law_values, [], []⟩
def d_law_octet : He.DefD := ⟨("_law_octet", none), "_law_octet", "_law_octet", defArgs s_law_octet, defBody s_law_octet, defScope s_law_octet, [], []⟩
def d_law_walk : He.DefD := ⟨("_law_walk", none), "_law_walk", "_law_walk", defArgs s_law_walk, defBody s_law_walk, defScope s_law_walk, [], []⟩
def d_law_heard : He.DefD := ⟨("_law_heard", none), "_law_heard", "_law_heard", defArgs s_law_heard, defBody s_law_heard, defScope s_law_heard, [], []⟩
def d_law_bent : He.DefD := ⟨("_law_bent", none), "_law_bent", "_law_bent", defArgs s_law_bent, defBody s_law_bent, defScope s_law_bent, [], []⟩
def d_law : He.DefD := ⟨("law", none), "law", "law", defArgs s_law, defBody s_law, defScope s_law, [], []⟩
def fnL : List He.DefD := [d_is_integer, d_is_number, d_is_below, d_is_sequence, d_need_octets, d_is_step, d_need_keep, d_need_first, d_counts_of, d_shape, d_is_row_value, d_is_power, d_is_true_of, d_is_span, d_is_kind, d_is_way, d_check_setup, d_is_mark, d_are_marks, d_shapes_of, d_is_cargo, d_check_frame, d_octets_for, d_number_octets, d_most_rest, d_values_octets, d_look_numbers, d_mark_octets, d_frame_octets, d_Octets___init__, d_Octets_take_of, d_Octets_take, d_Octets_take_number, d_Octets_take_mark, d_Octets_take_span, d_Octets_take_cargo, d_octets_from, d_frame_at, d_law_box, d_law_take, d_law_pick, d_law_setup, d_law_shape, d_law_mark, d_law_span, d_law_frame, d_law_need, d_law_number, d_law_marks, d_law_values, d_law_octet, d_law_walk, d_law_heard, d_law_bent, d_law]
def faL : List He.Fa := [.glo "is_integer", .glo "is_number", .glo "is_below", .glo "is_sequence", .glo "need_octets", .glo "is_step", .glo "need_keep", .glo "need_first", .glo "counts_of", .glo "shape", .glo "is_row_value", .glo "is_power", .glo "is_true_of", .glo "is_span", .glo "is_kind", .glo "is_way", .glo "check_setup", .glo "is_mark", .glo "are_marks", .glo "shapes_of", .glo "is_cargo", .glo "check_frame", .glo "octets_for", .glo "number_octets", .glo "most_rest", .glo "values_octets", .glo "look_numbers", .glo "mark_octets", .glo "frame_octets", .meth "Octets" "take_of", .meth "Octets" "take", .meth "Octets" "take_number", .meth "Octets" "take_mark", .meth "Octets" "take_span", .meth "Octets" "take_cargo", .glo "octets_from", .glo "frame_at", .glo "_law_box", .glo "_law_take", .glo "_law_pick", .glo "_law_setup", .glo "_law_shape", .glo "_law_mark", .glo "_law_span", .glo "_law_frame", .glo "_law_need", .glo "_law_number", .glo "_law_marks", .glo "_law_values", .glo "_law_octet", .glo "_law_walk", .glo "_law_heard", .glo "_law_bent", .glo "law", .glo "Octets", .cls "Octets", .mkr "Octets", .noat "Octets" "octets", .noat "Octets" "at", .glo "FarError", .free "abs", .free "all", .free "any", .free "bool", .free "enumerate", .free "int", .free "isinstance", .free "len", .free "list", .free "max", .free "min", .free "range", .free "repr", .free "set", .free "sorted", .free "super", .free "tuple", .free "zip", .int "MOST_OCTET" 256, .int "MOST_STEP" 1000, .int "LEAST_KEEP" 2, .int "MOST_KEEP" 8, .int "MOST_VALUE" 1000000, .int "MOST_KINDS" 6, .int "MOST_WAY" 10000, .int "MOST_LAID" 100000, .int "MOST_CARGO" 100, .int "COUNT_OCTETS" 4, .int "MOST_NUMBER" 4294967296, .int "LAID_OCTETS" 3, .int "VALUE_OCTETS" 3, .exm "Broken" "Broken" true, .exm "Broken" "BadOctets" false, .exm "Broken" "Refused" false, .exm "Broken" "BadSetup" false, .exm "BadOctets" "Broken" false, .exm "BadOctets" "BadOctets" true, .exm "BadOctets" "Refused" false, .exm "BadOctets" "BadSetup" false, .exm "Refused" "Broken" false, .exm "Refused" "BadOctets" false, .exm "Refused" "Refused" true, .exm "Refused" "BadSetup" false, .exm "BadSetup" "Broken" false, .exm "BadSetup" "BadOctets" false, .exm "BadSetup" "Refused" false, .exm "BadSetup" "BadSetup" true]
def esL : List Er := [⟨"BadOctets", "BadOctets.__init__", s_BadOctets___init__⟩, ⟨"BadSetup", "BadSetup.__init__", s_BadSetup___init__⟩, ⟨"Refused", "Refused.__init__", s_Refused___init__⟩, ⟨"Broken", "Broken.__init__", s_Broken___init__⟩]
abbrev pg : Program := PySem.Challenge.pw_farstory_k23_whole_where_no_frame_goes_o
abbrev R : PySem.W.OpenRow := PySem.W.OpenLaw.row PySem.Challenge.rw_farstory_k23_whole_where_no_frame_goes_o
abbrev qv : Program := PySem.W.view R.prog [75]
def fl : Str := pg.main.file
abbrev hk : PySem.W.Hook := hook 4 fl faL fnL esL
def ob (s : PySem.W.SharedT) : Al := obsH 4 fl faL fnL esL (HandSHeadRun.getT s)
theorem ob_eq (s : PySem.W.SharedT) : ob s = hk.obs s.abs := obs_eq (HandSHeadRun.getT_eq s)
theorem run (w : World) : HandSHeadRun.RunEq R qv hk ob 4000 nms w := by
  intro os
  kernel_rfl
end Hx
end
section
set_option Elab.async false
set_option autoImplicit false
set_option linter.all false
set_option maxRecDepth 100000
set_option maxHeartbeats 0
/-! Hz: the head, but for the call of law. -/
namespace Hx
open PySem PySem.W PySem.Calls PyProof.Rows
theorem nm_law : (HandSHeadRun.topDef R.prog 75).name = ("law" : PySem.Str) := by kernel_rfl
theorem no_dfl : (HandSHeadRun.topDef R.prog 75).params.defaults = [] := by kernel_rfl
theorem by_call (call : WalkO qv nms (XL qv []) hk.says R.toRowW (HandSHeadRun.topDef R.prog 75) [] fun f vs => PySem.call f vs) : PySem.Challenge.rw_farstory_k23_whole_where_no_frame_goes_o.Holds := by
  w_on; o_law
  rename_i said
  refine HandSHeadRun.head_any (r := R) (q := qv) (H := hk) (ob := ob) (M := 4000) (loose := nms) (d := HandSHeadRun.topDef R.prog 75) (kwd := []) ob_eq
    (by kernel_rfl) (fun s => by kernel_rfl) run (by kernel_rfl) (by kernel_rfl) (by kernel_rfl) (by rfl) said (by decide +kernel) ⟨rfl, rfl, rfl, rfl, rfl, by decide +kernel⟩ ?hw call
  case hw => w_witness2
end Hx
end
section
set_option Elab.async false
set_option autoImplicit false
set_option linter.all false
set_option maxRecDepth 100000
set_option maxHeartbeats 1000000
/-! P1: words, chains. -/
namespace Fw
open PySem PySem.Spec PyProof.Rows L2 Dl
local macro_rules
  | `(tactic| fail) => `(tactic| first
    | with_reducible refine ws_seq ?_
    | with_reducible refine ws_set ?_
    | with_reducible refine ws_ret ?_
    | with_reducible refine ws_if ?_
    | with_reducible refine ws_next ?_
    | with_reducible refine ws_break ?_
    | with_reducible refine ws_cont ?_
    | with_reducible refine ws_drop ?_
    | with_reducible refine ws_retN ?_
    | with_reducible refine ws_par ?_
    | ((with_reducible refine ws_id ?_); (with_reducible apply ws_aug); rfl)
    | ((with_reducible refine ws_id ?_); (with_reducible apply ws_augR); rfl)
    | with_reducible refine ws_asg ?_
    | ((with_reducible refine we_id ?_); (with_reducible apply we_var); rfl)
    | with_reducible refine we_int ?_
    | with_reducible refine we_non ?_
    | with_reducible refine we_bl ?_
    | with_reducible refine we_str ?_
    | with_reducible refine we_ty ?_
    | with_reducible refine we_opI ?_
    | with_reducible refine we_opB ?_
    | with_reducible refine we_opIC ?_
    | with_reducible refine we_eq ?_
    | with_reducible refine we_ne ?_
    | with_reducible refine we_isN ?_
    | with_reducible refine we_notN ?_
    | with_reducible refine we_chainI ?_
    | with_reducible refine we_chainE ?_
    | with_reducible refine we_chain3 ?_
    | with_reducible refine we_neg ?_
    | with_reducible refine we_andV ?_
    | with_reducible refine we_orV ?_
    | with_reducible refine we_notV ?_
    | with_reducible refine we_if ?_
    | with_reducible refine wt_test ?_
    | with_reducible refine wt_B ?_
    | with_reducible refine wt_not ?_
    | with_reducible refine wt_and ?_
    | with_reducible refine wt_or ?_
    | with_reducible refine wt_yes ?_
    | with_reducible refine wa_nil ?_
    | with_reducible refine wa_cons ?_
    | with_reducible refine we_tup ?_
    | with_reducible refine we_ixT ?_
    | with_reducible refine we_ixL ?_
    | with_reducible refine we_len ?_
    | with_reducible refine we_isi ?_
    | with_reducible refine we_isiSq ?_
    | with_reducible refine wg_name ?_
    | with_reducible refine we_slT ?_
    | with_reducible refine we_tuple ?_
    | with_reducible refine we_slL ?_
    | with_reducible refine wo_none ?_
    | with_reducible refine wo_some ?_
    | with_reducible refine we_callP ?_
    | with_reducible refine we_min2 ?_
    | with_reducible refine we_max2 ?_
    | with_reducible refine we_abs ?_
    | with_reducible refine we_all ?_
    | with_reducible refine we_any ?_
    | with_reducible refine we_append ?_
    | with_reducible refine we_extend ?_
    | with_reducible refine we_catL ?_
    | with_reducible refine ws_raise ?_
    | with_reducible refine we_inZ ?_
    | with_reducible refine we_catT ?_
    | with_reducible refine we_in ?_
    | with_reducible refine we_notIn ?_
    | with_reducible refine wg_tup ?_
    | with_reducible refine wgs_cons ?_
    | with_reducible refine wgs_nil ?_
    | with_reducible refine wi_rng1 ?_
    | with_reducible refine wi_rng2 ?_
    | with_reducible refine wi_lst ?_
    | with_reducible refine wi_tup ?_
    | with_reducible refine wi_enT ?_
    | with_reducible refine wi_enL ?_
    | with_reducible refine wi_zpTT ?_
    | with_reducible refine wi_zpTL ?_
    | with_reducible refine we_toInt ?_
    | with_reducible refine we_callPX ?_
    | ((with_reducible refine Rx.ex_id ?_); first
      | with_reducible refine ⟨_, _, rfl, rfl, ?_⟩
      | with_reducible refine ⟨_, _, rfl, .t _, ?_⟩
      | with_reducible refine ⟨_, _, rfl, .l (.d _), ?_⟩
      | with_reducible refine ⟨_, rfl, ?_⟩
      | with_reducible refine ⟨_, _, rfl, ?_⟩
      | refine ⟨_, _, _, rfl, rfl, rfl, ?_⟩
      | refine ⟨[_], rfl, Nat.le_of_ble_eq_true rfl, ?_⟩
      | refine ⟨[_, _], rfl, Nat.le_of_ble_eq_true rfl, ?_⟩
      | refine ⟨[_, _, _], rfl, Nat.le_of_ble_eq_true rfl, ?_⟩
      | refine ⟨[_, _, _, _], rfl, Nat.le_of_ble_eq_true rfl, ?_⟩
      | refine ⟨[_, _, _, _, _], rfl, Nat.le_of_ble_eq_true rfl, ?_⟩
      | refine ⟨[_, _, _, _, _, _], rfl, Nat.le_of_ble_eq_true rfl, ?_⟩
      | refine ⟨[_, _, _, _, _, _, _], rfl, Nat.le_of_ble_eq_true rfl, ?_⟩)
    | ((with_reducible refine Rx.and_id ?_); first
      | refine ⟨⟨_, 0, rfl⟩, ?_⟩
      | refine ⟨rfl, ?_⟩))
  | `(tactic| rfl') => `(tactic| repeat fail)
def isInt : PyData → Bool
  | .int _ => true
  | _ => false
def isNum : PyData → Bool
  | .int n => decide (0 ≤ n)
  | _ => false
def isBelow (d : PyData) (m : Int) : Bool := match d with
  | .int n => decide (0 ≤ n) && decide (n < m)
  | _ => false
theorem isNum_int {n : Int} : isNum (.int n) = decide (0 ≤ n) := rfl
theorem ite_both {b : Bool} {A B : Prop} (h1 : b = true → A) (h2 : b = false → B) : if b = true then A else B := by
  cases b with
  | true => rw [if_pos rfl]; exact h1 rfl
  | false => rw [if_neg Bool.false_ne_true]; exact h2 rfl
theorem ite_T {b : Bool} {A B : Prop} (h : b = true) (h1 : A) : if b = true then A else B := by rw [if_pos h]; exact h1
theorem ite_F {b : Bool} {A B : Prop} (h : b = false) (h1 : B) : if b = true then A else B := by rw [h, if_neg Bool.false_ne_true]; exact h1
def isIB : PyData → Bool
  | .int _ => true
  | .bool _ => true
  | _ => false
def isBo : PyData → Bool
  | .bool _ => true
  | _ => false
theorem kit_int (d : PyData) : kitB (tyD d) "int" = some (isIB d) := by
  cases d with
  | none => show kitB "NoneType" "int" = some false; decide +kernel
  | bool b => show kitB "bool" "int" = some true; decide +kernel
  | int b => show kitB "int" "int" = some true; decide +kernel
  | str b => show kitB "str" "int" = some false; decide +kernel
  | list b => show kitB "list" "int" = some false; decide +kernel
  | tuple b => show kitB "tuple" "int" = some false; decide +kernel
  | dict b => show kitB "tuple" "int" = some false; decide +kernel
theorem kit_bool (d : PyData) : kitB (tyD d) "bool" = some (isBo d) := by
  cases d with
  | none => show kitB "NoneType" "bool" = some false; decide +kernel
  | bool b => show kitB "bool" "bool" = some true; decide +kernel
  | int b => show kitB "int" "bool" = some false; decide +kernel
  | str b => show kitB "str" "bool" = some false; decide +kernel
  | list b => show kitB "list" "bool" = some false; decide +kernel
  | tuple b => show kitB "tuple" "bool" = some false; decide +kernel
  | dict b => show kitB "tuple" "bool" = some false; decide +kernel
theorem rtB {R : DV → Rs → Prop} {rs : Rs} {b c : Bool} (h : R (.d (.bool b)) rs) (e : b = c) : R (.d (.bool c)) rs := e ▸ h
theorem rtI {R : DV → Rs → Prop} {rs : Rs} {b c : Int} (h : R (.d (.int b)) rs) (e : b = c) : R (.d (.int c)) rs := e ▸ h
theorem rtD {R : DV → Rs → Prop} {rs : Rs} {b c : PyData} (h : R (.d b) rs) (e : b = c) : R (.d c) rs := e ▸ h
abbrev Len (f : Dsp) (n : Nat) : Prop := ∀ (xs : List DV) (rs : Rs) (P : DV → Rs → Prop) (X : Addr → PyData → Rs → Prop), f xs rs P X → xs.length = n
abbrev d_is_integer : Dsp := fun xs rs P X => ∃ d, xs = [.d d] ∧ P (.d (.bool (isInt d))) rs
abbrev d_is_number : Dsp := fun xs rs P X => ∃ d, xs = [.d d] ∧ P (.d (.bool (isNum d))) rs
abbrev d_is_below : Dsp := fun xs rs P X => ∃ d m, xs = [.d d, .d (.int m)] ∧ P (.d (.bool (isBelow d m))) rs
abbrev d_is_sequence : Dsp := fun xs rs P X => ∃ d, xs = [.d d] ∧ P (.d (.bool (isSq d))) rs
theorem len_is_integer : Len d_is_integer 1 := fun _ _ _ _ ⟨_, e, _⟩ => by rw [e]; rfl
theorem len_is_number : Len d_is_number 1 := fun _ _ _ _ ⟨_, e, _⟩ => by rw [e]; rfl
theorem len_is_below : Len d_is_below 2 := fun _ _ _ _ ⟨_, _, e, _⟩ => by rw [e]; rfl
theorem len_is_sequence : Len d_is_sequence 1 := fun _ _ _ _ ⟨_, e, _⟩ => by rw [e]; rfl
abbrev d_is_step : Dsp := fun xs rs P X => ∃ a b : Int, xs = [.d (.int a), .d (.int b)] ∧ P (.d (.bool (decide (1 ≤ a ∧ a ≤ b ∧ b ≤ 1000)))) rs
theorem len_is_step : Len d_is_step 2 := fun _ _ _ _ ⟨_, _, e, _⟩ => by rw [e]; rfl
section
variable {P : Program} {w : World} {K : PySem.W.Frag} {mg : Str → Option Value} {base : Heap}
theorem cal_is_integer (A : Fs P K mg) : CalX P w K mg base CX0 1 (fF K ("is_integer", none)) ["value"] (toSp K (d_is_integer)) := by
  obtain ⟨fd, F⟩ := A.f_is_integer
  refine ⟨fd, F.ok sc_is_integer (toSp_len (len_is_integer)) (fun cdv A0 outer s H vs Q E hr h => ⟨_, PSs.nox ((pss_one (ps_ret (pe_and (pe_callB call_isi (by rfl) A.b_isinstance (by decide +kernel) (pa_cons (pv 0) (pa_cons (pe_bltn (v := .ty "int") (by rfl) A.b_int (by decide +kernel) rfl) pa_nil))) (pe_one (pe_not (pe_callB call_isi (by rfl) A.b_isinstance (by decide +kernel) (pa_cons (pv 0) (pa_cons (pe_bltn (v := .ty "bool") (by rfl) A.b_bool (by decide +kernel) rfl) pa_nil))))))))), to_body h fun W xs rs P hf => ?_⟩), F.kp, F.bindsN fun _ _ _ _ _ _ us hl => match us, hl with | [_], _ => rfl⟩
  obtain ⟨d, rfl, hP⟩ := hf
  change WS W _ [some (.d d)] rs _
  rfl'
  refine ⟨_, _, _, rfl, kit_int d, _, rfl, ite_both (fun hc => ?_) (fun hc => ?_)⟩
  · rfl'
    refine ⟨_, _, _, rfl, kit_bool d, _, rfl, ?_⟩
    exact rtB hP (by cases d <;> simp_all [isInt, isBo, isIB])
  · exact rtB hP (by cases d <;> simp_all [isInt, isBo, isIB])
theorem cal_is_number (A : Fs P K mg) : CalX P w K mg base CX0 2 (fF K ("is_number", none)) ["value"] (toSp K (d_is_number)) := by
  obtain ⟨fd, F⟩ := A.f_is_number
  obtain ⟨fd_is_integer, G_is_integer, p_is_integer, b_is_integer⟩ := cal_is_integer (P := P) (w := w) (base := base) A
  have g_is_integer := A.g_is_integer
  refine ⟨fd, F.ok sc_is_number (toSp_len (len_is_number)) (fun cdv A0 outer s H vs Q E hr h => ⟨_, PSs.nox ((pss_one (ps_ret (pe_and (pe_call G_is_integer (hr.mono (by decide)) rfl g_is_integer p_is_integer b_is_integer .nil pass0 (pa_cons (pv 0) pa_nil)) (pe_one (pe_cmpR op_ge (pv 0) pe_int (nomark _))))))), to_body h fun W xs rs P hf => ?_⟩), F.kp, F.bindsN fun _ _ _ _ _ _ us hl => match us, hl with | [_], _ => rfl⟩
  obtain ⟨d, rfl, hP⟩ := hf
  change WS W _ [some (.d d)] rs _
  rfl'
  refine ite_both (fun hc => ?_) (fun hc => ?_)
  · cases d with
    | int n =>
      rfl'
      exact hP
    | _ => cases hc
  · exact rtB hP (by cases d <;> simp_all [isInt, isNum])
theorem cal_is_below (A : Fs P K mg) : CalX P w K mg base CX0 3 (fF K ("is_below", none)) ["value", "most"] (toSp K (d_is_below)) := by
  obtain ⟨fd, F⟩ := A.f_is_below
  obtain ⟨fd_is_number, G_is_number, p_is_number, b_is_number⟩ := cal_is_number (P := P) (w := w) (base := base) A
  have g_is_number := A.g_is_number
  refine ⟨fd, F.ok sc_is_below (toSp_len (len_is_below)) (fun cdv A0 outer s H vs Q E hr h => ⟨_, PSs.nox ((pss_one (ps_ret (pe_and (pe_call G_is_number (hr.mono (by decide)) rfl g_is_number p_is_number b_is_number .nil pass0 (pa_cons (pv 0) pa_nil)) (pe_one (pe_cmpR op_lt (pv 0) (pv 1) (nomark _))))))), to_body h fun W xs rs P hf => ?_⟩), F.kp, F.bindsN fun _ _ _ _ _ _ us hl => match us, hl with | [_, _], _ => rfl⟩
  obtain ⟨d, m, rfl, hP⟩ := hf
  change WS W _ [some (.d d), some (.d (.int m))] rs _
  rfl'
  refine ite_both (fun hc => ?_) (fun hc => ?_)
  · cases d with
    | int n =>
      rfl'
      exact rtB hP (by simp_all [isNum, isBelow])
    | _ => cases hc
  · exact rtB hP (by cases d <;> simp_all [isBelow, isNum] <;> omega)
theorem cal_is_sequence (A : Fs P K mg) : CalX P w K mg base CX0 1 (fF K ("is_sequence", none)) ["value"] (toSp K (d_is_sequence)) := by
  obtain ⟨fd, F⟩ := A.f_is_sequence
  refine ⟨fd, F.ok sc_is_sequence (toSp_len (len_is_sequence)) (fun cdv A0 outer s H vs Q E hr h => ⟨_, PSs.nox ((pss_one (ps_ret (pe_callB call_isiT (by rfl) A.b_isinstance (by decide +kernel) (pa_cons (pv 0) (pa_cons (pe_tup (pa_cons (pe_bltn (v := .ty "list") (by rfl) A.b_list (by decide +kernel) rfl) (pa_cons (pe_bltn (v := .ty "tuple") (by rfl) A.b_tuple (by decide +kernel) rfl) pa_nil))) pa_nil)))))), to_body h fun W xs rs P hf => ?_⟩), F.kp, F.bindsN fun _ _ _ _ _ _ us hl => match us, hl with | [_], _ => rfl⟩
  obtain ⟨d, rfl, hP⟩ := hf
  change WS W _ [some (.d d)] rs _
  rfl'
  exact hP
theorem cal_is_step (A : Fs P K mg) : CalX P w K mg base CX0 3 (fF K ("is_step", none)) ["gap", "pause"] (toSp K (d_is_step)) := by
  obtain ⟨fd, F⟩ := A.f_is_step
  obtain ⟨t_MOST_STEP, k_MOST_STEP⟩ := A.k_MOST_STEP
  obtain ⟨fd_is_number, G_is_number, p_is_number, b_is_number⟩ := cal_is_number (P := P) (w := w) (base := base) A
  have g_is_number := A.g_is_number
  refine ⟨fd, F.ok sc_is_step (toSp_len (len_is_step)) (fun cdv A0 outer s H vs Q E hr h => ⟨_, PSs.nox ((pss_one (ps_ret (pe_and (pe_call G_is_number (hr.mono (by decide)) rfl g_is_number p_is_number b_is_number .nil pass0 (pa_cons (pv 0) pa_nil)) (pe_and (pe_call G_is_number (hr.mono (by decide)) rfl g_is_number p_is_number b_is_number .nil pass0 (pa_cons (pv 1) pa_nil)) (pe_one (Rx.pe_chain3 op_le op_le op_le pe_int (pv 0) (pv 1) (pe_glob (v := .int 1000) rfl k_MOST_STEP ⟨_, rfl⟩)))))))), to_body h fun W xs rs P hf => ?_⟩), F.kp, F.bindsN fun _ _ _ _ _ _ us hl => match us, hl with | [_, _], _ => rfl⟩
  obtain ⟨a, b, rfl, hP⟩ := hf
  change WS W _ [some (.d (.int a)), some (.d (.int b))] rs _
  rfl'
  refine ite_both (fun hc => ?_) (fun hc => ?_)
  · rfl'
    refine ite_both (fun hc2 => ?_) (fun hc2 => ?_)
    · rfl'
      refine ite_both (fun h1 => ?_) (fun h1 => ?_)
      · rfl'
        refine ite_both (fun h2 => ?_) (fun h2 => ?_)
        · rfl'
          exact rtB hP (by simp_all)
        · exact rtB hP (by simp_all; omega)
      · exact rtB hP (by simp_all; omega)
    · exact rtB hP (by simp_all [isNum]; omega)
  · exact rtB hP (by simp_all [isNum]; omega)
end
end Fw
end
section
set_option Elab.async false
set_option autoImplicit false
set_option linter.all false
set_option maxRecDepth 100000
set_option maxHeartbeats 1000000
/-! P2: shapes. -/
namespace Fw
open PySem PySem.Spec PyProof.Rows L2 Dl Mx
local macro_rules
  | `(tactic| fail) => `(tactic| first
    | with_reducible refine ws_seq ?_
    | with_reducible refine ws_set ?_
    | with_reducible refine ws_ret ?_
    | with_reducible refine ws_if ?_
    | with_reducible refine ws_next ?_
    | with_reducible refine ws_break ?_
    | with_reducible refine ws_cont ?_
    | with_reducible refine ws_drop ?_
    | with_reducible refine ws_retN ?_
    | with_reducible refine ws_par ?_
    | ((with_reducible refine ws_id ?_); (with_reducible apply ws_aug); rfl)
    | ((with_reducible refine ws_id ?_); (with_reducible apply ws_augR); rfl)
    | with_reducible refine ws_asg ?_
    | ((with_reducible refine we_id ?_); (with_reducible apply we_var); rfl)
    | with_reducible refine we_int ?_
    | with_reducible refine we_non ?_
    | with_reducible refine we_bl ?_
    | with_reducible refine we_str ?_
    | with_reducible refine we_ty ?_
    | with_reducible refine we_opI ?_
    | with_reducible refine we_opB ?_
    | with_reducible refine we_opIC ?_
    | with_reducible refine we_eq ?_
    | with_reducible refine we_ne ?_
    | with_reducible refine we_isN ?_
    | with_reducible refine we_notN ?_
    | with_reducible refine we_chainI ?_
    | with_reducible refine we_chainE ?_
    | with_reducible refine we_chain3 ?_
    | with_reducible refine we_neg ?_
    | with_reducible refine we_andV ?_
    | with_reducible refine we_orV ?_
    | with_reducible refine we_notV ?_
    | with_reducible refine we_if ?_
    | with_reducible refine wt_test ?_
    | with_reducible refine wt_B ?_
    | with_reducible refine wt_not ?_
    | with_reducible refine wt_and ?_
    | with_reducible refine wt_or ?_
    | with_reducible refine wt_yes ?_
    | with_reducible refine wa_nil ?_
    | with_reducible refine wa_cons ?_
    | with_reducible refine we_tup ?_
    | with_reducible refine we_ixT ?_
    | with_reducible refine we_ixL ?_
    | with_reducible refine we_len ?_
    | with_reducible refine we_isi ?_
    | with_reducible refine we_isiSq ?_
    | with_reducible refine wg_name ?_
    | with_reducible refine we_slT ?_
    | with_reducible refine we_tuple ?_
    | with_reducible refine we_slL ?_
    | with_reducible refine wo_none ?_
    | with_reducible refine wo_some ?_
    | with_reducible refine we_callP ?_
    | with_reducible refine we_min2 ?_
    | with_reducible refine we_max2 ?_
    | with_reducible refine we_abs ?_
    | with_reducible refine we_all ?_
    | with_reducible refine we_any ?_
    | with_reducible refine we_append ?_
    | with_reducible refine we_extend ?_
    | with_reducible refine we_catL ?_
    | with_reducible refine ws_raise ?_
    | with_reducible refine we_inZ ?_
    | with_reducible refine we_catT ?_
    | with_reducible refine we_in ?_
    | with_reducible refine we_notIn ?_
    | with_reducible refine wg_tup ?_
    | with_reducible refine wgs_cons ?_
    | with_reducible refine wgs_nil ?_
    | with_reducible refine wi_rng1 ?_
    | with_reducible refine wi_rng2 ?_
    | with_reducible refine wi_lst ?_
    | with_reducible refine wi_tup ?_
    | with_reducible refine wi_enT ?_
    | with_reducible refine wi_enL ?_
    | with_reducible refine wi_zpTT ?_
    | with_reducible refine wi_zpTL ?_
    | with_reducible refine we_toInt ?_
    | with_reducible refine we_callPX ?_
    | ((with_reducible refine Rx.ex_id ?_); first
      | with_reducible refine ⟨_, _, rfl, rfl, ?_⟩
      | with_reducible refine ⟨_, _, rfl, .t _, ?_⟩
      | with_reducible refine ⟨_, _, rfl, .l (.d _), ?_⟩
      | with_reducible refine ⟨_, rfl, ?_⟩
      | with_reducible refine ⟨_, _, rfl, ?_⟩
      | refine ⟨_, _, _, rfl, rfl, rfl, ?_⟩
      | refine ⟨[_], rfl, Nat.le_of_ble_eq_true rfl, ?_⟩
      | refine ⟨[_, _], rfl, Nat.le_of_ble_eq_true rfl, ?_⟩
      | refine ⟨[_, _, _], rfl, Nat.le_of_ble_eq_true rfl, ?_⟩
      | refine ⟨[_, _, _, _], rfl, Nat.le_of_ble_eq_true rfl, ?_⟩
      | refine ⟨[_, _, _, _, _], rfl, Nat.le_of_ble_eq_true rfl, ?_⟩
      | refine ⟨[_, _, _, _, _, _], rfl, Nat.le_of_ble_eq_true rfl, ?_⟩
      | refine ⟨[_, _, _, _, _, _, _], rfl, Nat.le_of_ble_eq_true rfl, ?_⟩)
    | ((with_reducible refine Rx.and_id ?_); first
      | refine ⟨⟨_, 0, rfl⟩, ?_⟩
      | refine ⟨rfl, ?_⟩))
  | `(tactic| rfl') => `(tactic| repeat fail)
abbrev d_need_keep : Dsp := fun xs rs P X => ∃ n : Nat, xs = [.d (nD n)] ∧ 2 ≤ n ∧ n ≤ 8 ∧ P (.d (nD n)) rs
theorem len_need_keep : Len d_need_keep 1 := fun _ _ _ _ ⟨_, e, _⟩ => by rw [e]; rfl
abbrev d_need_first : Dsp := fun xs rs P X => ∃ f l : Nat, xs = [.d (nD f), .d (nD l)] ∧ f ≤ l ∧ P (.d .none) rs
theorem len_need_first : Len d_need_first 2 := fun _ _ _ _ ⟨_, _, e, _⟩ => by rw [e]; rfl
abbrev d_counts_of : Dsp := fun xs rs P X => ∃ k n : Nat, xs = [.d (nD k), .d (nD n)] ∧ 2 ≤ k ∧ k ≤ 8 ∧ n ≤ 1000 ∧ P (.d (.tuple ((cnts k n n).map nD))) rs
theorem len_counts_of : Len d_counts_of 2 := fun _ _ _ _ ⟨_, _, e, _⟩ => by rw [e]; rfl
theorem cd2 {i : Int} : CDiv i 2 := ⟨by decide, by decide⟩
theorem cnts_len (k : Nat) : ∀ f l : Nat, (cnts k f l).length ≤ f
  | 0, l => Nat.le_refl _
  | f + 1, l => by
    unfold cnts
    by_cases h : l = 0
    · rw [if_pos h]; exact Nat.zero_le _
    · rw [if_neg h]
      exact Nat.succ_le_succ (cnts_len k f _)
theorem cnts_zero (k f : Nat) : cnts k f 0 = [] := by
  cases f <;> simp [cnts]
def szD (c : List Nat) : List PyData := (List.range c.length).map fun i => .tuple [nD (2 ^ i), nD (c.getD i 0)]
theorem rowsOf_app (f : Nat) (xs ys : List Nat) : rowsOf f (xs ++ ys) = rowsOf f xs ++ rowsOf (f + xs.sum) ys := by
  induction xs generalizing f with
  | nil => simp [rowsOf]
  | cons x xs ih => simp [rowsOf, ih, Nat.add_assoc]
theorem rowsOf_len (f : Nat) (xs : List Nat) : (rowsOf f xs).length = xs.length := by
  induction xs generalizing f with
  | nil => rfl
  | cons x xs ih => simp [rowsOf, ih]
theorem sizesUp_len (i : Nat) (c : List Nat) : (sizesUp i c).length = c.sum := by
  induction c generalizing i with
  | nil => rfl
  | cons m r ih => simp [sizesUp, ih, Nat.add_comm]
theorem sum_drop (c : List Nat) (i : Nat) : (c.drop i).sum ≤ c.sum := by
  induction c generalizing i with
  | nil => simp
  | cons x c ih =>
    cases i with
    | zero => exact Nat.le_refl _
    | succ i =>
      have := ih i
      simp only [List.drop_succ_cons, List.sum_cons]
      omega
theorem cnts_sum (k : Nat) : ∀ f l : Nat, (cnts k f l).sum ≤ f * l
  | 0, l => by simp [cnts]
  | f + 1, l => by
    unfold cnts
    by_cases h : l = 0
    · simp [h]
    · rw [if_neg h, List.sum_cons]
      have h1 := cnts_sum k f ((l + 1 - k) / 2)
      have h2 : f * ((l + 1 - k) / 2) ≤ f * l := Nat.mul_le_mul_left f (by omega)
      rw [Nat.add_mul, Nat.one_mul]
      omega
abbrev d_shape : Dsp := fun xs rs P X => ∃ k f l : Nat, xs = [.d (nD k), .d (nD f), .d (nD l)] ∧ 2 ≤ k ∧ k ≤ 8 ∧ f ≤ l ∧ l - f ≤ 40 ∧ P (.d (shD (shp k f l))) rs
theorem len_shape : Len d_shape 3 := fun _ _ _ _ ⟨_, _, _, e, _⟩ => by rw [e]; rfl
section
variable {P : Program} {w : World} {K : PySem.W.Frag} {mg : Str → Option Value} {base : Heap}
theorem cal_need_keep (A : Fs P K mg) : CalX P w K mg base CX0 3 (fF K ("need_keep", none)) ["value"] (toSp K (d_need_keep)) := by
  obtain ⟨fd, F⟩ := A.f_need_keep
  obtain ⟨t_LEAST_KEEP, k_LEAST_KEEP⟩ := A.k_LEAST_KEEP
  obtain ⟨t_MOST_KEEP, k_MOST_KEEP⟩ := A.k_MOST_KEEP
  obtain ⟨fd_is_number, G_is_number, p_is_number, b_is_number⟩ := cal_is_number (P := P) (w := w) (base := base) A
  have g_is_number := A.g_is_number
  refine ⟨fd, F.ok sc_need_keep (toSp_len (len_need_keep)) (fun cdv A0 outer s H vs Q E hr h => ⟨_, PSs.nox ((pss_cons (ps_if (PW.pt (pw_or (pt_not (pt_val (pe_call G_is_number (hr.mono (by decide)) rfl g_is_number p_is_number b_is_number .nil pass0 (pa_cons (pv 0) pa_nil)))) (pw_or1 (pt_not (pt_chain op_le op_le (pe_glob (v := .int 2) rfl k_LEAST_KEEP ⟨_, rfl⟩) (pv 0) (pe_glob (v := .int 8) rfl k_MOST_KEEP ⟨_, rfl⟩)))))) (pss_one Rx.ps_dead) pss_nil) (pss_one (ps_ret (pv 0))))), to_body h fun W xs rs P hf => ?_⟩), F.kp, F.bindsN fun _ _ _ _ _ _ us hl => match us, hl with | [_], _ => rfl⟩
  obtain ⟨n, rfl, h2, h8, hP⟩ := hf
  change WS W _ [some (.d (nD n))] rs _
  rfl'
  refine ite_F (by simp [isNum]) ?_
  rfl'
  refine ite_T (by simp; omega) ?_
  rfl'
  refine ite_F (by simp; omega) ?_
  rfl'
  exact hP
theorem cal_need_first (A : Fs P K mg) : CalX P w K mg base CX0 3 (fF K ("need_first", none)) ["first", "laid"] (toSp K (d_need_first)) := by
  obtain ⟨fd, F⟩ := A.f_need_first
  obtain ⟨fd_is_number, G_is_number, p_is_number, b_is_number⟩ := cal_is_number (P := P) (w := w) (base := base) A
  have g_is_number := A.g_is_number
  refine ⟨fd, F.ok sc_need_first (toSp_len (len_need_first)) (fun cdv A0 outer s H vs Q E hr h => ⟨_, PSs.nox ((pss_cons (ps_if (pt_not (pt_val (pe_call G_is_number (hr.mono (by decide)) rfl g_is_number p_is_number b_is_number .nil pass0 (pa_cons (pv 0) pa_nil)))) (pss_one Rx.ps_dead) pss_nil) (pss_one (ps_if (PW.pt (pw_or (pt_not (pt_val (pe_call G_is_number (hr.mono (by decide)) rfl g_is_number p_is_number b_is_number .nil pass0 (pa_cons (pv 1) pa_nil)))) (pw_or1 (pt_cmpR op_lt (pv 1) (pv 0) (nomark _))))) (pss_one Rx.ps_dead) pss_nil)))), to_body h fun W xs rs P hf => ?_⟩), F.kp, F.bindsN fun _ _ _ _ _ _ us hl => match us, hl with | [_, _], _ => rfl⟩
  obtain ⟨f, l, rfl, hl, hP⟩ := hf
  change WS W _ [some (.d (nD f)), some (.d (nD l))] rs _
  rfl'
  refine ite_F (by simp [isNum]) ?_
  rfl'
  refine ite_F (by simp [isNum]) ?_
  rfl'
  refine ite_F (by simp; omega) ?_
  rfl'
  exact hP
theorem cal_counts_of (A : Fs P K mg) : CalX P w K mg base CX0 4 (fF K ("counts_of", none)) ["keep", "many"] (toSp K (d_counts_of)) := by
  obtain ⟨fd, F⟩ := A.f_counts_of
  obtain ⟨fd_need_keep, G_need_keep, p_need_keep, b_need_keep⟩ := cal_need_keep (P := P) (w := w) (base := base) A
  have g_need_keep := A.g_need_keep
  refine ⟨fd, F.ok sc_counts_of (toSp_len (len_counts_of)) (fun cdv A0 outer s H vs Q E hr h => ⟨_, PSs.nox ((pss_cons (ps_par (i := 2) (j := 3) rfl sc_counts_of.nd rfl rfl (by decide) rfl rfl (pa_cons (pe_lst pa_nil) (pa_cons (pv 1) pa_nil)) rfl) (pss_cons (ps_expr (pe_call G_need_keep (hr.mono (by decide)) rfl g_need_keep p_need_keep b_need_keep .nil pass0 (pa_cons (pv 0) pa_nil))) (pss_cons (ps_while PassesOwn.never (pt_cmpR op_gt (pv 3) pe_int (nomark _)) (pss_cons (ps_set (i := 4) sc_counts_of.nd rfl (Or.inl rfl) (pe_op op_fdiv (pe_callB (call_max2 rfl) (by rfl) A.b_max (by decide +kernel) (pa_cons pe_int (pa_cons (pe_op op_add (pe_op op_sub (pv 3) (pv 0)) pe_int) pa_nil))) pe_int)) (pss_cons (ps_expr (pe_bm PySem.F.plainAttrs_list PySem.F.slot_list_append PySem.F.type_list_append mt_append (pv 2) (pa_cons (pe_op op_sub (pv 3) (pe_op op_mul pe_int (pv 4))) pa_nil))) (pss_one (ps_set (i := 3) sc_counts_of.nd rfl (Or.inl rfl) (pv 4)))))) (pss_one (ps_ret (pe_callTy call_tuple_of (by rfl) A.b_tuple (by decide +kernel) (pa_cons (pv 2) pa_nil)))))))), to_body h fun W xs rs P hf => ?_⟩), F.kp, F.bindsN fun _ _ _ _ _ _ us hl => match us, hl with | [_, _], _ => rfl⟩
  obtain ⟨k, n, rfl, h2, h8, hn, hP⟩ := hf
  change WS W _ [some (.d (nD k)), some (.d (nD n)), none, none, none] rs _
  rfl'
  refine we_lstR (wa_nil ⟨[], rfl, Nat.zero_le _, fun a => ?_⟩)
  rfl'
  refine ⟨h2, h8, ?_⟩
  rfl'
  refine ws_while (fun m sl rs1 => ∃ (acc : List Nat) (f : Nat) (q : Option DV), sl = [some (.d (nD k)), some (.d (nD n)), some (.p a), some (.d (nD m)), q] ∧ rs1 = (a, .lst (acc.map nD)) :: rs ∧ m ≤ f ∧ acc ++ cnts k f m = cnts k n n) n ⟨[], n, none, rfl, rfl, Nat.le_refl _, rfl⟩ ?_
  rintro m sl rs1 ⟨acc, f, q, rfl, rfl, hmf, he⟩
  rfl'
  refine ite_both (fun hm => ?_) (fun hm => ?_)
  · have hm : 0 < m := by simpa using hm
    rfl'
    refine ⟨cd2, ?_⟩
    rw [show ((if (m : Int) - (k : Int) + 1 > 0 then (m : Int) - (k : Int) + 1 else 0) / 2 : Int) = (((m + 1 - k) / 2 : Nat) : Int) by split <;> omega]
    have hp : (m + 1 - k) / 2 < m := by omega
    obtain ⟨f, rfl⟩ : ∃ f', f = f' + 1 := ⟨f - 1, by omega⟩
    have he2 : acc ++ (m - 2 * ((m + 1 - k) / 2)) :: cnts k f ((m + 1 - k) / 2) = cnts k n n := by
      rw [← he]
      show _ = acc ++ (if m = 0 then [] else _)
      rw [if_neg (by omega)]
    have hl : acc.length < 100000 := by
      have h1 := congrArg List.length he2
      have h3 := cnts_len k n n
      rw [List.length_append, List.length_cons] at h1
      omega
    generalize hpe : (m + 1 - k) / 2 = p at hp he2 ⊢
    rfl'
    refine ⟨.inl ⟨by decide, by decide⟩, ?_⟩
    rfl'
    refine ⟨_, _, 0, rfl, rfl, by rw [List.length_map]; exact hl, ?_⟩
    rfl'
    refine ⟨p, hp, acc ++ [m - 2 * p], f, _, rfl, ?_, by omega, by rw [List.append_assoc]; exact he2⟩
    rw [List.map_append]
    have e2 : (m : Int) - 2 * (p : Int) = ((m - 2 * p : Nat) : Int) := by omega
    simp [nD, e2]
  · have hm : m = 0 := by simpa using hm
    subst hm
    rw [cnts_zero, List.append_nil] at he
    subst he
    refine ws_ret (we_drop (rs2 := rs) (we_tuple ?_))
    rfl'
    exact ⟨_, _, rfl, .l (.p ⟨0, rfl⟩), List.sublist_cons_self _ _, hP⟩
end
section
theorem sumS_take {os : List Nat} : True := trivial
end
section
variable {P : Program} {w : World} {K : PySem.W.Frag} {mg : Str → Option Value} {base : Heap}
theorem cal_shape (A : Fs P K mg) : CalX P w K mg base CX0 5 (fF K ("shape", none)) ["keep", "first", "laid"] (toSp K (d_shape)) := by
  obtain ⟨fd, F⟩ := A.f_shape
  obtain ⟨fd_counts_of, G_counts_of, p_counts_of, b_counts_of⟩ := cal_counts_of (P := P) (w := w) (base := base) A
  have g_counts_of := A.g_counts_of
  obtain ⟨fd_need_first, G_need_first, p_need_first, b_need_first⟩ := cal_need_first (P := P) (w := w) (base := base) A
  have g_need_first := A.g_need_first
  obtain ⟨fd_need_keep, G_need_keep, p_need_keep, b_need_keep⟩ := cal_need_keep (P := P) (w := w) (base := base) A
  have g_need_keep := A.g_need_keep
  refine ⟨fd, F.ok sc_shape (toSp_len (len_shape)) (fun cdv A0 outer s H vs Q E hr h => ⟨_, PSs.nox ((pss_cons (ps_expr (pe_call G_need_keep (hr.mono (by decide)) rfl g_need_keep p_need_keep b_need_keep .nil pass0 (pa_cons (pv 0) pa_nil))) (pss_cons (ps_expr (pe_call G_need_first (hr.mono (by decide)) rfl g_need_first p_need_first b_need_first .nil pass0 (pa_cons (pv 1) (pa_cons (pv 2) pa_nil)))) (pss_cons (ps_par (i := 3) (j := 4) rfl sc_shape.nd rfl rfl (by decide) rfl rfl (pa_cons (pe_lst pa_nil) (pa_cons (pv 1) pa_nil)) rfl) (pss_cons (ps_setLc (i := 6) (own := [("at", 9), ("many", 5)]) (g := (gTup K 2 (gCons (gName 9) (gCons (gName 5) gNil)))) (tt := tYes) rfl sc_shape.nd rfl rfl (sw_true rfl rfl rfl (by decide +kernel)) (Rx.pi_enumT (by rfl) A.b_enumerate (pa_cons (pe_call G_counts_of (hr.mono (by decide)) rfl g_counts_of p_counts_of b_counts_of .nil pass0 (pa_cons (pv 0) (pa_cons (pe_op op_sub (pv 2) (pv 1)) pa_nil))) pa_nil)) (blkOk_by (N := ["keep", "first", "laid", "found", "here", "many", "sizes", "size", "turn", "at"]) (sc := defScope s_shape) (by decide +kernel)) (fun _ _ _ _ _ => (pg_tup (n := 2) rfl (pgs_cons (pg_name (i := 9) sc_shape.nd rfl (Or.inl rfl)) (pgs_cons (pg_name (i := 5) sc_shape.nd rfl (Or.inl rfl)) pgs_nil)))) (fun _ _ _ _ _ => pts_nil) (fun _ _ _ _ _ => (pe_tup (pa_cons (pe_op op_shl pe_int (pv 9)) (pa_cons (pv 5) pa_nil))))) (pss_cons (ps_for PassesOwn.never rfl (pi_list (pe_revL (pv 6))) (pg_tup (n := 2) rfl (pgs_cons (pg_name (i := 7) sc_shape.nd rfl (Or.inl rfl)) (pgs_cons (pg_name (i := 5) sc_shape.nd rfl (Or.inl rfl)) pgs_nil))) (pss_one (ps_for PassesOwn.never rfl (pi_range1 (by rfl) A.b_range (pa_cons (pv 5) pa_nil)) (pg_name (i := 8) sc_shape.nd rfl (Or.inl rfl)) (pss_cons (ps_expr (pe_bm PySem.F.plainAttrs_list PySem.F.slot_list_append PySem.F.type_list_append mt_append (pv 3) (pa_cons (pe_tup (pa_cons (pv 4) (pa_cons (pv 7) pa_nil))) pa_nil))) (pss_one (ps_aug (i := 4) sc_shape.nd rfl (Or.inl rfl) (pv 7) ip_add)))))) (pss_one (ps_ret (pe_callTy Rx.call_tupZ (by rfl) A.b_tuple (by decide +kernel) (pa_cons (pv 3) pa_nil)))))))))), to_body h fun W xs rs P hf => ?_⟩), F.kp, F.bindsN fun _ _ _ _ _ _ us hl => match us, hl with | [_, _, _], _ => rfl⟩
  obtain ⟨k, f, l, rfl, h2, h8, hl, hw, hP⟩ := hf
  change WS W _ [some (.d (nD k)), some (.d (nD f)), some (.d (nD l)), none, none, none, none, none, none, none] rs _
  rfl'
  refine ⟨h2, h8, ?_⟩
  rfl'
  refine ⟨hl, ?_⟩
  rfl'
  refine we_lstR (wa_nil ⟨[], rfl, Nat.zero_le _, fun a => ?_⟩)
  rfl'
  have hn : (l : Int) - (f : Int) = ((l - f : Nat) : Int) := by omega
  have own : Own [9, 5] (gTup K 2 (gCons (gName 9) (gCons (gName 5) gNil))) := own_tup (owns_cons mg_name (mgs_cons mg_name mgs_nil) (own_name (by decide)) (owns_cons mg_name mgs_nil (own_name (by decide)) owns_nil))
  refine we_lc (Iv := fun i acc rs1 => acc = (szD (cnts k (l - f) (l - f))).take i ∧ rs1 = (a, .lst []) :: rs) (ys := enD ((cnts k (l - f) (l - f)).map nD)) own ?_ ?_ ?_
  · rfl'
    refine ⟨k, l - f, by rw [hn], h2, h8, by omega, ?_⟩
    rfl'
    exact rfl
  · rintro i d acc rs1 hd ⟨rfl, rfl⟩
    obtain ⟨x, hx, rfl⟩ := enD_at hd
    rw [List.getElem?_map] at hx
    obtain ⟨c, hc, rfl⟩ := Option.map_eq_some_iff.mp hx
    have hi : i < (cnts k (l - f) (l - f)).length := (List.getElem?_eq_some_iff.mp hc).1
    have hi2 := cnts_len k (l - f) (l - f)
    rfl'
    refine ite_T rfl ?_
    rfl'
    refine ⟨⟨by omega, by omega, by decide⟩, ?_⟩
    rfl'
    refine ⟨?_, ?_, rfl⟩
    · rw [List.length_take]; omega
    · rw [List.take_add_one, show (szD (cnts k (l - f) (l - f)))[i]? = some (.tuple [nD (2 ^ i), nD c]) from by
        unfold szD
        rw [List.getElem?_map, List.getElem?_range hi]
        simp [List.getD_eq_getElem?_getD, hc]]
      simp [nD]
  · rintro acc rs1 ⟨rfl, rfl⟩
    rw [enD_len, List.length_map, show (szD (cnts k (l - f) (l - f))).take (cnts k (l - f) (l - f)).length = szD (cnts k (l - f) (l - f)) from List.take_of_length_le (by unfold szD; simp)]
    rfl'
    generalize hC : cnts k (l - f) (l - f) = C
    have hsum : C.sum ≤ 1600 := by
      have h1 := cnts_sum k (l - f) (l - f)
      have h2 : (l - f) * (l - f) ≤ 40 * 40 := Nat.mul_le_mul hw hw
      rw [hC] at h1
      omega
    have hE : ∀ i, i ≤ C.length → (sizesUp (C.length - i) (C.drop (C.length - i))).length ≤ 1600 := fun i _ => by
      rw [sizesUp_len]
      exact Nat.le_trans (sum_drop _ _) hsum
    have hszl : (szD C).length = C.length := by unfold szD; simp
    refine ws_for (Iv := fun i sl rs1 => ∃ q5 q7 q8 q9 : Option DV, sl = [some (.d (nD k)), some (.d (nD f)), some (.d (nD l)), some (.p a), some (.d (nD (f + (sizesUp (C.length - i) (C.drop (C.length - i))).sum))), q5, some (.d (.list (szD C))), q7, q8, q9] ∧ rs1 = (a, .lst ((rowsOf f (sizesUp (C.length - i) (C.drop (C.length - i)))).map rowD)) :: rs) (xs := (szD C).reverse) ?_ ?_ ?_
    · rfl'
      refine we_rev ?_
      rfl'
      refine ⟨_, .d _, ?_⟩
      rfl'
      refine ⟨none, none, none, none, ?_, ?_⟩
      · simp [sizesUp]
      · simp [sizesUp, rowsOf]
    · rintro i d sl rs1 hd ⟨q5, q7, q8, q9, rfl, rfl⟩
      have hi : i < C.length := by
        have := (List.getElem?_eq_some_iff.mp hd).1
        rw [List.length_reverse, hszl] at this
        exact this
      have hj : C.length - (i + 1) < C.length := by omega
      have hd2 : d = .tuple [nD (2 ^ (C.length - (i + 1))), nD C[C.length - (i + 1)]] := by
        rw [List.getElem?_reverse (by rw [hszl]; exact hi), hszl, show C.length - 1 - i = C.length - (i + 1) by omega] at hd
        unfold szD at hd
        rw [List.getElem?_map, List.getElem?_range hj] at hd
        have := Option.some.inj hd
        rw [← this]
        show PyData.tuple [nD _, nD (C.getD _ 0)] = _
        rw [List.getD_eq_getElem?_getD, List.getElem?_eq_getElem hj]
        rfl
      subst hd2
      have hdrop : C.drop (C.length - (i + 1)) = C[C.length - (i + 1)] :: C.drop (C.length - i) := by
        rw [List.drop_eq_getElem_cons hj, show C.length - (i + 1) + 1 = C.length - i by omega]
      have hnext : sizesUp (C.length - (i + 1)) (C.drop (C.length - (i + 1))) = sizesUp (C.length - i) (C.drop (C.length - i)) ++ List.replicate C[C.length - (i + 1)] (2 ^ (C.length - (i + 1))) := by
        rw [hdrop]
        show sizesUp (C.length - (i + 1) + 1) _ ++ _ = _
        rw [show C.length - (i + 1) + 1 = C.length - i by omega]
      have hlen := hE (i + 1) (by omega)
      rw [hnext, List.length_append, List.length_replicate] at hlen
      rw [hnext]
      generalize sizesUp (C.length - i) (C.drop (C.length - i)) = ES at hlen ⊢
      generalize C[C.length - (i + 1)] = c at hlen ⊢
      generalize 2 ^ (C.length - (i + 1)) = z at hlen ⊢
      rfl'
      refine ws_for (Iv := fun t sl rs1 => ∃ q8 : Option DV, sl = [some (.d (nD k)), some (.d (nD f)), some (.d (nD l)), some (.p a), some (.d (nD (f + (ES ++ List.replicate t z).sum))), some (.d (nD c)), some (.d (.list (szD C))), some (.d (nD z)), q8, q9] ∧ rs1 = (a, .lst ((rowsOf f (ES ++ List.replicate t z)).map rowD)) :: rs) (xs := rgD 0 c) ?_ ?_ ?_
      · rfl'
        refine ⟨by omega, by omega, rfl, q8, ?_, ?_⟩
        · simp
        · simp
      · rintro t d sl rs1 hd ⟨q8, rfl, rfl⟩
        obtain ⟨ht, rfl⟩ := rgD_at hd
        rfl'
        have hrep : ES ++ List.replicate (t + 1) z = (ES ++ List.replicate t z) ++ [z] := by rw [List.append_assoc, List.replicate_succ']
        have hl1 : (ES ++ List.replicate t z).length ≤ 1600 := by
          rw [List.length_append, List.length_replicate]
          omega
        rw [hrep]
        generalize ES ++ List.replicate t z = G at hl1 ⊢
        refine ⟨_, _, 0, rfl, rfl, by rw [List.length_map, rowsOf_len]; omega, ?_⟩
        rfl'
        refine ⟨some (.d (.int (0 + (t : Int)))), ?_, ?_⟩
        · have e1 : ((f + G.sum : Nat) : Int) + (z : Int) = ((f + (G ++ [z]).sum : Nat) : Int) := by simp; omega
          simp only [nD, List.set, e1]
        · rw [rowsOf_app, List.map_append]
          rfl
      · rintro sl rs1 ⟨q8, rfl, rfl⟩
        rw [rgD_len]
        have e : ((c : Int) - 0).toNat = c := by omega
        exact ⟨_, _, _, _, rfl, rfl⟩
    · rintro sl rs1 ⟨q5, q7, q8, q9, rfl, rfl⟩
      rw [List.length_reverse, hszl, Nat.sub_self, List.drop_zero]
      refine ws_ret (we_drop (rs2 := rs) (we_tupleZ ?_))
      rfl'
      refine ⟨_, _, rfl, .p ⟨0, rfl⟩, List.sublist_cons_self _ _, ?_⟩
      have := hP
      unfold shp sizesOf at this
      rw [hC] at this
      exact this
end
end Fw
end
section
set_option Elab.async false
set_option autoImplicit false
set_option linter.all false
set_option maxRecDepth 100000
set_option maxHeartbeats 1000000
/-! P3: spans, setups. -/
namespace Fw
open PySem PySem.Spec PyProof.Rows L2 Dl Mx
local macro_rules
  | `(tactic| fail) => `(tactic| first
    | with_reducible refine ws_seq ?_
    | with_reducible refine ws_set ?_
    | with_reducible refine ws_ret ?_
    | with_reducible refine ws_if ?_
    | with_reducible refine ws_next ?_
    | with_reducible refine ws_break ?_
    | with_reducible refine ws_cont ?_
    | with_reducible refine ws_drop ?_
    | with_reducible refine ws_retN ?_
    | with_reducible refine ws_par ?_
    | ((with_reducible refine ws_id ?_); (with_reducible apply ws_aug); rfl)
    | ((with_reducible refine ws_id ?_); (with_reducible apply ws_augR); rfl)
    | with_reducible refine ws_asg ?_
    | ((with_reducible refine we_id ?_); (with_reducible apply we_var); rfl)
    | with_reducible refine we_int ?_
    | with_reducible refine we_non ?_
    | with_reducible refine we_bl ?_
    | with_reducible refine we_str ?_
    | with_reducible refine we_ty ?_
    | with_reducible refine we_opI ?_
    | with_reducible refine we_opB ?_
    | with_reducible refine we_opIC ?_
    | with_reducible refine we_eq ?_
    | with_reducible refine we_ne ?_
    | with_reducible refine we_isN ?_
    | with_reducible refine we_notN ?_
    | with_reducible refine we_chainI ?_
    | with_reducible refine we_chainE ?_
    | with_reducible refine we_chain3 ?_
    | with_reducible refine we_neg ?_
    | with_reducible refine we_andV ?_
    | with_reducible refine we_orV ?_
    | with_reducible refine we_notV ?_
    | with_reducible refine we_if ?_
    | with_reducible refine wt_test ?_
    | with_reducible refine wt_B ?_
    | with_reducible refine wt_not ?_
    | with_reducible refine wt_and ?_
    | with_reducible refine wt_or ?_
    | with_reducible refine wt_yes ?_
    | with_reducible refine wa_nil ?_
    | with_reducible refine wa_cons ?_
    | with_reducible refine we_tup ?_
    | with_reducible refine we_ixT ?_
    | with_reducible refine we_ixL ?_
    | with_reducible refine we_len ?_
    | with_reducible refine we_isi ?_
    | with_reducible refine we_isiSq ?_
    | with_reducible refine wg_name ?_
    | with_reducible refine we_slT ?_
    | with_reducible refine we_tuple ?_
    | with_reducible refine we_slL ?_
    | with_reducible refine wo_none ?_
    | with_reducible refine wo_some ?_
    | with_reducible refine we_callP ?_
    | with_reducible refine we_min2 ?_
    | with_reducible refine we_max2 ?_
    | with_reducible refine we_abs ?_
    | with_reducible refine we_all ?_
    | with_reducible refine we_any ?_
    | with_reducible refine we_append ?_
    | with_reducible refine we_extend ?_
    | with_reducible refine we_catL ?_
    | with_reducible refine ws_raise ?_
    | with_reducible refine we_inZ ?_
    | with_reducible refine we_catT ?_
    | with_reducible refine we_in ?_
    | with_reducible refine we_notIn ?_
    | with_reducible refine wg_tup ?_
    | with_reducible refine wgs_cons ?_
    | with_reducible refine wgs_nil ?_
    | with_reducible refine wi_rng1 ?_
    | with_reducible refine wi_rng2 ?_
    | with_reducible refine wi_lst ?_
    | with_reducible refine wi_tup ?_
    | with_reducible refine wi_enT ?_
    | with_reducible refine wi_enL ?_
    | with_reducible refine wi_zpTT ?_
    | with_reducible refine wi_zpTL ?_
    | with_reducible refine we_toInt ?_
    | with_reducible refine we_callPX ?_
    | ((with_reducible refine Rx.ex_id ?_); first
      | with_reducible refine ⟨_, _, rfl, rfl, ?_⟩
      | with_reducible refine ⟨_, _, rfl, .t _, ?_⟩
      | with_reducible refine ⟨_, _, rfl, .l (.d _), ?_⟩
      | with_reducible refine ⟨_, rfl, ?_⟩
      | with_reducible refine ⟨_, _, rfl, ?_⟩
      | refine ⟨_, _, _, rfl, rfl, rfl, ?_⟩
      | refine ⟨[_], rfl, Nat.le_of_ble_eq_true rfl, ?_⟩
      | refine ⟨[_, _], rfl, Nat.le_of_ble_eq_true rfl, ?_⟩
      | refine ⟨[_, _, _], rfl, Nat.le_of_ble_eq_true rfl, ?_⟩
      | refine ⟨[_, _, _, _], rfl, Nat.le_of_ble_eq_true rfl, ?_⟩
      | refine ⟨[_, _, _, _, _], rfl, Nat.le_of_ble_eq_true rfl, ?_⟩
      | refine ⟨[_, _, _, _, _, _], rfl, Nat.le_of_ble_eq_true rfl, ?_⟩
      | refine ⟨[_, _, _, _, _, _, _], rfl, Nat.le_of_ble_eq_true rfl, ?_⟩)
    | ((with_reducible refine Rx.and_id ?_); first
      | refine ⟨⟨_, 0, rfl⟩, ?_⟩
      | refine ⟨rfl, ?_⟩))
  | `(tactic| rfl') => `(tactic| repeat fail)
abbrev d_is_row_value : Dsp := fun xs rs P X => ∃ n : Int, xs = [.d (.int n)] ∧ -1000000 ≤ n ∧ n ≤ 1000000 ∧ P (.d (.bool true)) rs
theorem len_is_row_value : Len d_is_row_value 1 := fun _ _ _ _ ⟨_, e, _⟩ => by rw [e]; rfl
abbrev d_is_power : Dsp := fun xs rs P X => ∃ n : Nat, xs = [.d (nD n)] ∧ n ∈ pws ∧ P (.d (.bool true)) rs
theorem len_is_power : Len d_is_power 1 := fun _ _ _ _ ⟨_, e, _⟩ => by rw [e]; rfl
abbrev d_is_true_of : Dsp := fun xs rs P X => ∃ m t l h : Int, xs = [.d (.int m), .d (.int t), .d (.int l), .d (.int h)] ∧ -10000000 ≤ l ∧ l ≤ 10000000 ∧ -10000000 ≤ h ∧ h ≤ 10000000 ∧ P (.d (.bool (trueOf m t l h))) rs
theorem len_is_true_of : Len d_is_true_of 4 := fun _ _ _ _ ⟨_, _, _, _, e, _⟩ => by rw [e]; rfl
abbrev d_is_span : Dsp := fun xs rs P X => ∃ s : Span, xs = [.d (spD s)] ∧ s.ok ∧ P (.d (.bool true)) rs
theorem len_is_span : Len d_is_span 1 := fun _ _ _ _ ⟨_, e, _⟩ => by rw [e]; rfl
abbrev d_is_kind : Dsp := fun xs rs P X => ∃ k : Knd, xs = [.d (kdD k)] ∧ k.ok ∧ P (.d (.bool true)) rs
theorem len_is_kind : Len d_is_kind 1 := fun _ _ _ _ ⟨_, e, _⟩ => by rw [e]; rfl
abbrev d_is_way : Dsp := fun xs rs P X => ∃ a b : Nat, xs = [.d (wayD a b)] ∧ a ≤ b ∧ b ≤ 10000 ∧ P (.d (.bool true)) rs
theorem len_is_way : Len d_is_way 1 := fun _ _ _ _ ⟨_, _, e, _⟩ => by rw [e]; rfl
abbrev d_check_setup (K : PySem.W.Frag) : Dsp := fun xs rs P X => (∃ s : Setup, xs = [.d (suD s)] ∧ s.ok ∧ P (.d (suD s)) rs) ∨ (xs = [.d .none] ∧ ∀ rs', X (He.ga K "BadSetup") (.int (-1)) rs')
theorem len_check_setup (K : PySem.W.Frag) : Len (d_check_setup K) 1 := fun _ _ _ _ h => by
  rcases h with ⟨_, e, _⟩ | ⟨e, _⟩ <;> rw [e] <;> rfl
abbrev d_is_mark : Dsp := fun xs rs P X => ∃ m : Mark, xs = [.d (mkD m)] ∧ m.ok ∧ P (.d (.bool true)) rs
theorem len_is_mark : Len d_is_mark 1 := fun _ _ _ _ ⟨_, e, _⟩ => by rw [e]; rfl
abbrev d_are_marks : Dsp := fun xs rs P X => ∃ (s : Setup) (ms : List Mark), xs = [.d (suD s), .d (marksD ms)] ∧ s.ok ∧ ms.length = s.kinds.length ∧ (∀ m ∈ ms, m.ok) ∧ P (.d (.bool true)) rs
theorem len_are_marks : Len d_are_marks 2 := fun _ _ _ _ ⟨_, _, e, _⟩ => by rw [e]; rfl
abbrev d_shapes_of : Dsp := fun xs rs P X => ∃ (s : Setup) (ms : List Mark), xs = [.d (suD s), .d (marksD ms)] ∧ s.ok ∧ ms.length = s.kinds.length ∧ (∀ m ∈ ms, m.ok) ∧ P (.d (abD (shapes s.kinds ms))) rs
theorem len_shapes_of : Len d_shapes_of 2 := fun _ _ _ _ ⟨_, _, e, _⟩ => by rw [e]; rfl
abbrev d_is_cargo : Dsp := fun xs rs P X => ∃ (s : Setup) (ms : List Mark) (cs : List (Nat × Span)), xs = [.d (suD s), .d (marksD ms), .d (.tuple (cs.map itD))] ∧ s.ok ∧ ms.length = s.kinds.length ∧ (∀ m ∈ ms, m.ok) ∧ cs.length ≤ 100 ∧ (∀ c ∈ cs, itOk (shapes s.kinds ms) c) ∧ P (.d (.bool true)) rs
theorem len_is_cargo : Len d_is_cargo 3 := fun _ _ _ _ ⟨_, _, _, e, _⟩ => by rw [e]; rfl
abbrev d_check_frame : Dsp := fun xs rs P X => ∃ (s : Setup) (f : Frm), xs = [.d (suD s), .d (frD f)] ∧ s.ok ∧ f.ok s ∧ P (.d (frD f)) rs
theorem len_check_frame : Len d_check_frame 2 := fun _ _ _ _ ⟨_, _, e, _⟩ => by rw [e]; rfl
section
variable {P : Program} {w : World} {K : PySem.W.Frag} {mg : Str → Option Value} {base : Heap}
theorem cal_is_row_value (A : Fs P K mg) : CalX P w K mg base CX0 2 (fF K ("is_row_value", none)) ["value"] (toSp K (d_is_row_value)) := by
  obtain ⟨fd, F⟩ := A.f_is_row_value
  obtain ⟨t_MOST_VALUE, k_MOST_VALUE⟩ := A.k_MOST_VALUE
  obtain ⟨fd_is_integer, G_is_integer, p_is_integer, b_is_integer⟩ := cal_is_integer (P := P) (w := w) (base := base) A
  have g_is_integer := A.g_is_integer
  refine ⟨fd, F.ok sc_is_row_value (toSp_len (len_is_row_value)) (fun cdv A0 outer s H vs Q E hr h => ⟨_, PSs.nox ((pss_one (ps_ret (pe_and (pe_call G_is_integer (hr.mono (by decide)) rfl g_is_integer p_is_integer b_is_integer .nil pass0 (pa_cons (pv 0) pa_nil)) (pe_one (pe_chain op_le op_le (pe_un un_neg (pe_glob (v := .int 1000000) rfl k_MOST_VALUE ⟨_, rfl⟩)) (pv 0) (pe_glob (v := .int 1000000) rfl k_MOST_VALUE ⟨_, rfl⟩))))))), to_body h fun W xs rs P hf => ?_⟩), F.kp, F.bindsN fun _ _ _ _ _ _ us hl => match us, hl with | [_], _ => rfl⟩
  obtain ⟨n, rfl, h1, h2, hP⟩ := hf
  change WS W _ [some (.d (.int n))] rs _
  rfl'
  refine ite_T rfl ?_
  rfl'
  refine ite_T (by simp; omega) ?_
  rfl'
  exact rtB hP (by simp; omega)
theorem cal_is_power (A : Fs P K mg) : CalX P w K mg base CX0 3 (fF K ("is_power", none)) ["value"] (toSp K (d_is_power)) := by
  obtain ⟨fd, F⟩ := A.f_is_power
  obtain ⟨fd_is_number, G_is_number, p_is_number, b_is_number⟩ := cal_is_number (P := P) (w := w) (base := base) A
  have g_is_number := A.g_is_number
  refine ⟨fd, F.ok sc_is_power (toSp_len (len_is_power)) (fun cdv A0 outer s H vs Q E hr h => ⟨_, PSs.nox ((pss_one (ps_ret (pe_and (pe_call G_is_number (hr.mono (by decide)) rfl g_is_number p_is_number b_is_number .nil pass0 (pa_cons (pv 0) pa_nil)) (pe_and (pe_cmpR op_gt (pv 0) pe_int (nomark _)) (pe_one (pe_cmpR op_eq (pe_op op_and (pv 0) (pe_op op_sub (pv 0) pe_int)) pe_int (nomark _)))))))), to_body h fun W xs rs P hf => ?_⟩), F.kp, F.bindsN fun _ _ _ _ _ _ us hl => match us, hl with | [_], _ => rfl⟩
  obtain ⟨n, rfl, hn, hP⟩ := hf
  change WS W _ [some (.d (nD n))] rs _
  have h0 : 0 < n := by revert n; decide
  rfl'
  refine ite_T (by simp [isNum]) ?_
  rfl'
  refine ite_T (by simp; omega) ?_
  rfl'
  refine rtB hP ?_
  revert n
  decide +kernel
theorem cal_is_true_of (A : Fs P K mg) : CalX P w K mg base CX0 1 (fF K ("is_true_of", none)) ["many", "total", "low", "high"] (toSp K (d_is_true_of)) := by
  obtain ⟨fd, F⟩ := A.f_is_true_of
  refine ⟨fd, F.ok sc_is_true_of (toSp_len (len_is_true_of)) (fun cdv A0 outer s H vs Q E hr h => ⟨_, PSs.nox ((pss_cons (ps_if (pt_cmpR op_eq (pv 0) pe_int (nomark _)) (pss_one (ps_ret (pe_chain op_eq op_eq (pv 2) (pv 3) (pv 1)))) pss_nil) (pss_one (ps_ret (pe_and (pe_cmpR op_le (pv 2) (pv 3) (nomark _)) (pe_one (pe_chain op_le op_le (pe_op op_add (pe_op op_mul (pv 2) (pe_op op_sub (pv 0) pe_int)) (pv 3)) (pv 1) (pe_op op_add (pv 2) (pe_op op_mul (pv 3) (pe_op op_sub (pv 0) pe_int)))))))))), to_body h fun W xs rs P hf => ?_⟩), F.kp, F.bindsN fun _ _ _ _ _ _ us hl => match us, hl with | [_, _, _, _], _ => rfl⟩
  obtain ⟨m, t, l, h, rfl, h1, h2, h3, h4, hP⟩ := hf
  change WS W _ [some (.d (.int m)), some (.d (.int t)), some (.d (.int l)), some (.d (.int h))] rs _
  unfold trueOf at hP
  rfl'
  refine ite_both (fun hm => ?_) (fun hm => ?_)
  · have hm : m = 1 := by simpa [deq] using hm
    rw [if_pos hm] at hP
    rfl'
    refine ite_both (fun hc => ?_) (fun hc => ?_)
    · rfl'
      exact rtB hP (by simp_all)
    · exact rtB hP (by simp_all)
  · have hm : ¬ m = 1 := by simpa [deq] using hm
    rw [if_neg hm] at hP
    rfl'
    refine ite_both (fun hc => ?_) (fun hc => ?_)
    · rfl'
      refine ⟨.inl ⟨by omega, by omega⟩, ?_⟩
      rfl'
      refine ite_both (fun hd => ?_) (fun hd => ?_)
      · rfl'
        refine ⟨.inl ⟨by omega, by omega⟩, ?_⟩
        rfl'
        exact rtB hP (by simp_all)
      · exact rtB hP (by simp_all; omega)
    · exact rtB hP (by simp_all; omega)
theorem cal_is_span (A : Fs P K mg) : CalX P w K mg base CX0 4 (fF K ("is_span", none)) ["value"] (toSp K (d_is_span)) := by
  obtain ⟨fd, F⟩ := A.f_is_span
  obtain ⟨fd_is_true_of, G_is_true_of, p_is_true_of, b_is_true_of⟩ := cal_is_true_of (P := P) (w := w) (base := base) A
  have g_is_true_of := A.g_is_true_of
  obtain ⟨fd_is_row_value, G_is_row_value, p_is_row_value, b_is_row_value⟩ := cal_is_row_value (P := P) (w := w) (base := base) A
  have g_is_row_value := A.g_is_row_value
  obtain ⟨fd_is_integer, G_is_integer, p_is_integer, b_is_integer⟩ := cal_is_integer (P := P) (w := w) (base := base) A
  have g_is_integer := A.g_is_integer
  obtain ⟨fd_is_power, G_is_power, p_is_power, b_is_power⟩ := cal_is_power (P := P) (w := w) (base := base) A
  have g_is_power := A.g_is_power
  obtain ⟨fd_is_number, G_is_number, p_is_number, b_is_number⟩ := cal_is_number (P := P) (w := w) (base := base) A
  have g_is_number := A.g_is_number
  obtain ⟨fd_is_sequence, G_is_sequence, p_is_sequence, b_is_sequence⟩ := cal_is_sequence (P := P) (w := w) (base := base) A
  have g_is_sequence := A.g_is_sequence
  refine ⟨fd, F.ok sc_is_span (toSp_len (len_is_span)) (fun cdv A0 outer s H vs Q E hr h => ⟨_, PSs.nox ((pss_cons (ps_if (PW.pt (pw_or (pt_not (pt_val (pe_call G_is_sequence (hr.mono (by decide)) rfl g_is_sequence p_is_sequence b_is_sequence .nil pass0 (pa_cons (pv 0) pa_nil)))) (pw_or (pt_cmpR op_ne (pe_callB call_len_seq (by rfl) A.b_len (by decide +kernel) (pa_cons (pv 0) pa_nil)) pe_int (nomark _)) (pw_or (pt_not (pt_val (pe_call G_is_number (hr.mono (by decide)) rfl g_is_number p_is_number b_is_number .nil pass0 (pa_cons (pe_ix ix_tup (pv 0) pe_int (fun _ _ => rfl)) pa_nil)))) (pw_or1 (pt_not (pt_val (pe_call G_is_power (hr.mono (by decide)) rfl g_is_power p_is_power b_is_power .nil pass0 (pa_cons (pe_ix ix_tup (pv 0) pe_int (fun _ _ => rfl)) pa_nil))))))))) (pss_one (ps_ret pe_bl)) pss_nil) (pss_cons (ps_if (PW.pt (pw_or (pt_not (pt_val (pe_call G_is_integer (hr.mono (by decide)) rfl g_is_integer p_is_integer b_is_integer .nil pass0 (pa_cons (pe_ix ix_tup (pv 0) pe_int (fun _ _ => rfl)) pa_nil)))) (pw_or (pt_not (pt_val (pe_call G_is_row_value (hr.mono (by decide)) rfl g_is_row_value p_is_row_value b_is_row_value .nil pass0 (pa_cons (pe_ix ix_tup (pv 0) pe_int (fun _ _ => rfl)) pa_nil)))) (pw_or1 (pt_not (pt_val (pe_call G_is_row_value (hr.mono (by decide)) rfl g_is_row_value p_is_row_value b_is_row_value .nil pass0 (pa_cons (pe_ix ix_tup (pv 0) pe_int (fun _ _ => rfl)) pa_nil)))))))) (pss_one (ps_ret pe_bl)) pss_nil) (pss_one (ps_ret (pe_call G_is_true_of (hr.mono (by decide)) rfl g_is_true_of p_is_true_of b_is_true_of .nil pass0 (pa_cons (pe_ix ix_tup (pv 0) pe_int (fun _ _ => rfl)) (pa_cons (pe_ix ix_tup (pv 0) pe_int (fun _ _ => rfl)) (pa_cons (pe_ix ix_tup (pv 0) pe_int (fun _ _ => rfl)) (pa_cons (pe_ix ix_tup (pv 0) pe_int (fun _ _ => rfl)) pa_nil)))))))))), to_body h fun W xs rs P hf => ?_⟩), F.kp, F.bindsN fun _ _ _ _ _ _ us hl => match us, hl with | [_], _ => rfl⟩
  obtain ⟨s, rfl, ⟨o1, o2, o3, o4, o5, o6⟩, hP⟩ := hf
  change WS W _ [some (.d (spD s))] rs _
  rfl'
  refine ite_F rfl ?_
  rfl'
  refine ite_F rfl ?_
  rfl'
  refine ite_F (by simp [isNum]) ?_
  rfl'
  refine ⟨o1, ?_⟩
  rfl'
  refine ite_F rfl ?_
  rfl'
  refine ite_F rfl ?_
  rfl'
  refine ⟨o2, o3, ?_⟩
  rfl'
  refine ite_F rfl ?_
  rfl'
  refine ⟨o4, o5, ?_⟩
  rfl'
  refine ite_F rfl ?_
  rfl'
  refine ⟨_, _, _, _, rfl, by omega, by omega, by omega, by omega, ?_⟩
  exact rtB hP o6.symm
theorem cal_is_kind (A : Fs P K mg) : CalX P w K mg base CX0 4 (fF K ("is_kind", none)) ["value"] (toSp K (d_is_kind)) := by
  obtain ⟨fd, F⟩ := A.f_is_kind
  obtain ⟨t_LEAST_KEEP, k_LEAST_KEEP⟩ := A.k_LEAST_KEEP
  obtain ⟨t_MOST_KEEP, k_MOST_KEEP⟩ := A.k_MOST_KEEP
  obtain ⟨fd_is_number, G_is_number, p_is_number, b_is_number⟩ := cal_is_number (P := P) (w := w) (base := base) A
  have g_is_number := A.g_is_number
  obtain ⟨fd_is_step, G_is_step, p_is_step, b_is_step⟩ := cal_is_step (P := P) (w := w) (base := base) A
  have g_is_step := A.g_is_step
  obtain ⟨fd_is_sequence, G_is_sequence, p_is_sequence, b_is_sequence⟩ := cal_is_sequence (P := P) (w := w) (base := base) A
  have g_is_sequence := A.g_is_sequence
  refine ⟨fd, F.ok sc_is_kind (toSp_len (len_is_kind)) (fun cdv A0 outer s H vs Q E hr h => ⟨_, PSs.nox ((pss_cons (ps_if (PW.pt (pw_or (pt_not (pt_val (pe_call G_is_sequence (hr.mono (by decide)) rfl g_is_sequence p_is_sequence b_is_sequence .nil pass0 (pa_cons (pv 0) pa_nil)))) (pw_or (pt_cmpR op_ne (pe_callB call_len_seq (by rfl) A.b_len (by decide +kernel) (pa_cons (pv 0) pa_nil)) pe_int (nomark _)) (pw_or1 (pt_not (pt_val (pe_call G_is_step (hr.mono (by decide)) rfl g_is_step p_is_step b_is_step .nil pass0 (pa_cons (pe_ix ix_tup (pv 0) pe_int (fun _ _ => rfl)) (pa_cons (pe_ix ix_tup (pv 0) pe_int (fun _ _ => rfl)) pa_nil))))))))) (pss_one (ps_ret pe_bl)) pss_nil) (pss_one (ps_ret (pe_and (pe_call G_is_number (hr.mono (by decide)) rfl g_is_number p_is_number b_is_number .nil pass0 (pa_cons (pe_ix ix_tup (pv 0) pe_int (fun _ _ => rfl)) pa_nil)) (pe_one (pe_chain op_le op_le (pe_glob (v := .int 2) rfl k_LEAST_KEEP ⟨_, rfl⟩) (pe_ix ix_tup (pv 0) pe_int (fun _ _ => rfl)) (pe_glob (v := .int 8) rfl k_MOST_KEEP ⟨_, rfl⟩)))))))), to_body h fun W xs rs P hf => ?_⟩), F.kp, F.bindsN fun _ _ _ _ _ _ us hl => match us, hl with | [_], _ => rfl⟩
  obtain ⟨k, rfl, ⟨o1, o2, o3, o4⟩, hP⟩ := hf
  change WS W _ [some (.d (kdD k))] rs _
  have hk : 2 ≤ k.keep ∧ k.keep ≤ 8 := by
    generalize k.keep = z at o4
    revert z
    decide
  rfl'
  refine ite_F rfl ?_
  rfl'
  refine ite_F rfl ?_
  rfl'
  refine ite_F (by simp; omega) ?_
  rfl'
  refine ite_T (by simp [isNum]) ?_
  rfl'
  refine ite_T (by simp; omega) ?_
  rfl'
  exact rtB hP (by simp; omega)
theorem cal_is_way (A : Fs P K mg) : CalX P w K mg base CX0 4 (fF K ("is_way", none)) ["value"] (toSp K (d_is_way)) := by
  obtain ⟨fd, F⟩ := A.f_is_way
  obtain ⟨t_MOST_WAY, k_MOST_WAY⟩ := A.k_MOST_WAY
  obtain ⟨fd_is_below, G_is_below, p_is_below, b_is_below⟩ := cal_is_below (P := P) (w := w) (base := base) A
  have g_is_below := A.g_is_below
  obtain ⟨fd_is_sequence, G_is_sequence, p_is_sequence, b_is_sequence⟩ := cal_is_sequence (P := P) (w := w) (base := base) A
  have g_is_sequence := A.g_is_sequence
  refine ⟨fd, F.ok sc_is_way (toSp_len (len_is_way)) (fun cdv A0 outer s H vs Q E hr h => ⟨_, PSs.nox ((pss_cons (ps_if (PW.pt (pw_or (pt_not (pt_val (pe_call G_is_sequence (hr.mono (by decide)) rfl g_is_sequence p_is_sequence b_is_sequence .nil pass0 (pa_cons (pv 0) pa_nil)))) (pw_or (pt_cmpR op_ne (pe_callB call_len_seq (by rfl) A.b_len (by decide +kernel) (pa_cons (pv 0) pa_nil)) pe_int (nomark _)) (pw_or1 (pt_not (pt_val (pe_callB (cr_all rfl) (by rfl) A.b_all (by decide +kernel) (pa_cons (pe_lc (own := [("one", 1)]) (g := (gName 1)) (tt := tYes) rfl sc_is_way.nd (pi_tup (pv 0)) (blkOk_by (N := ["value", "one"]) (sc := defScope s_is_way) (by decide +kernel)) (fun _ _ _ _ _ => (pg_name (i := 1) sc_is_way.nd rfl (Or.inl rfl))) (fun _ _ _ _ _ => pts_nil) (fun _ _ _ _ _ => (pe_call G_is_below (hr.mono (by decide)) rfl g_is_below p_is_below b_is_below .nil pass0 (pa_cons (pv 1) (pa_cons (pe_op op_add (pe_glob (v := .int 10000) rfl k_MOST_WAY ⟨_, rfl⟩) pe_int) pa_nil))))) pa_nil)))))))) (pss_one (ps_ret pe_bl)) pss_nil) (pss_one (ps_ret (pe_cmpR op_le (pe_ix ix_tup (pv 0) pe_int (fun _ _ => rfl)) (pe_ix ix_tup (pv 0) pe_int (fun _ _ => rfl)) (nomark _)))))), to_body h fun W xs rs P hf => ?_⟩), F.kp, F.bindsN fun _ _ _ _ _ _ us hl => match us, hl with | [_], _ => rfl⟩
  obtain ⟨a, b, rfl, h1, h2, hP⟩ := hf
  change WS W _ [some (.d (wayD a b)), none] rs _
  rfl'
  refine ite_F rfl ?_
  rfl'
  refine ite_F rfl ?_
  rfl'
  refine we_map (ds := [nD a, nD b]) (es := [.bool true, .bool true]) (own1 (by decide)) rfl (Nat.le_of_ble_eq_true rfl) ?_ ?_ ?_
  · rfl'
    rfl
  · intro i d e hd he
    have h3 : d = nD a ∨ d = nD b := by
      have := List.mem_of_getElem? hd
      simpa using this
    have h4 : e = .bool true := by
      have := List.mem_of_getElem? he
      simpa using this
    subst h4
    rfl'
    refine ⟨?_, rfl⟩
    rcases h3 with rfl | rfl <;> simp [isBelow] <;> omega
  · rfl'
    refine ⟨[true, true], rfl, ?_⟩
    rfl'
    refine ite_F rfl ?_
    rfl'
    exact rtB hP (by simp; omega)
end
end Fw
end
section
set_option Elab.async false
set_option autoImplicit false
set_option linter.all false
set_option maxRecDepth 100000
set_option maxHeartbeats 1000000
/-! M2: data: its shape, its equality. -/
namespace Mx
open PySem Dl
def Sh (n : Nat) (d : PyData) : Prop := d.canLay0 = true ∧ d.depth ≤ n
theorem all_lay : ∀ {xs : List PyData}, (∀ x ∈ xs, x.canLay0 = true) → PyData.canLayAll0 xs = true
  | [], _ => by simp [PyData.canLayAll0]
  | x :: xs, h => by
    simp only [PyData.canLayAll0, Bool.and_eq_true]
    exact ⟨h x List.mem_cons_self, all_lay fun y hy => h y (List.mem_cons_of_mem _ hy)⟩
theorem all_depth {n : Nat} : ∀ {xs : List PyData}, (∀ x ∈ xs, x.depth ≤ n) → PyData.depthAll xs ≤ n
  | [], _ => by simp [PyData.depthAll]
  | x :: xs, h => by
    have h1 := h x List.mem_cons_self
    have h2 := all_depth (n := n) (xs := xs) fun y hy => h y (List.mem_cons_of_mem _ hy)
    simp only [PyData.depthAll]
    omega
theorem sh_int {n : Nat} (i : Int) : Sh n (.int i) := ⟨by simp [PyData.canLay0], by simp [PyData.depth]⟩
theorem sh_nD {n : Nat} (i : Nat) : Sh n (nD i) := sh_int _
theorem sh_bool {n : Nat} (b : Bool) : Sh n (.bool b) := ⟨by simp [PyData.canLay0], by simp [PyData.depth]⟩
theorem sh_none {n : Nat} : Sh n .none := ⟨by simp [PyData.canLay0], by simp [PyData.depth]⟩
theorem sh_opt {n : Nat} (o : Option Nat) : Sh n (optD o) := by
  cases o with
  | none => exact sh_none
  | some x => exact sh_nD x
theorem sh_tup {n : Nat} {xs : List PyData} (h : ∀ x ∈ xs, Sh n x) : Sh (n + 1) (.tuple xs) := ⟨by simp only [PyData.canLay0]; exact all_lay fun x hx => (h x hx).1, by
  have := all_depth (n := n) fun x hx => (h x hx).2
  simp only [PyData.depth]
  omega⟩
theorem sh_lst {n : Nat} {xs : List PyData} (h : ∀ x ∈ xs, Sh n x) : Sh (n + 1) (.list xs) := ⟨by simp only [PyData.canLay0]; exact all_lay fun x hx => (h x hx).1, by
  have := all_depth (n := n) fun x hx => (h x hx).2
  simp only [PyData.depth]
  omega⟩
theorem Sh.up {n m : Nat} {d : PyData} (h : Sh n d) (hm : n ≤ m) : Sh m d := ⟨h.1, Nat.le_trans h.2 hm⟩
theorem Sh.s {n : Nat} {d : PyData} (h : Sh n d) (hn : n ≤ 64 := by decide) : SeqAt.shaped d = true := by
  show (d.canLay0 && decide (d.depth ≤ 64)) = true
  rw [Bool.and_eq_true]
  exact ⟨h.1, decide_eq_true (Nat.le_trans h.2 hn)⟩
theorem sh_row (r : Nat × Nat) : Sh 1 (rowD r) := sh_tup (n := 0) fun x hx => by
  simp only [List.mem_cons, List.not_mem_nil, or_false] at hx
  rcases hx with rfl | rfl <;> exact sh_nD _
theorem sh_rows (rs : Rows) : Sh 2 (.tuple (rs.map rowD)) := sh_tup fun x hx => by
  obtain ⟨r, _, rfl⟩ := List.mem_map.mp hx
  exact sh_row r
theorem sh_oct (os : List Nat) : Sh 1 (octD os) := sh_tup (n := 0) fun x hx => by
  obtain ⟨r, _, rfl⟩ := List.mem_map.mp hx
  exact sh_nD r
mutual
theorem eqv_refl : ∀ (d : PyData), d.canLay0 = true → PyData.eqv d d = true
  | .none, _ => by simp [PyData.eqv]
  | .bool b, _ => by simp [PyData.eqv]
  | .int b, _ => by simp [PyData.eqv]
  | .str b, _ => by simp [PyData.eqv]
  | .list xs, h => by
    simp only [PyData.eqv]
    exact eqvAll_refl xs (by simpa only [PyData.canLay0] using h)
  | .tuple xs, h => by
    simp only [PyData.eqv]
    exact eqvAll_refl xs (by simpa only [PyData.canLay0] using h)
  | .dict _, h => by simp [PyData.canLay0] at h
theorem eqvAll_refl : ∀ (xs : List PyData), PyData.canLayAll0 xs = true → PyData.eqvAll xs xs = true
  | [], _ => by simp [PyData.eqvAll]
  | x :: xs, h => by
    simp only [PyData.canLayAll0, Bool.and_eq_true] at h
    simp only [PyData.eqvAll, Bool.and_eq_true]
    exact ⟨eqv_refl x h.1, eqvAll_refl xs h.2⟩
end
theorem eqv_row (r q : Nat × Nat) : PyData.eqv (rowD r) (rowD q) = decide (r = q) := by
  obtain ⟨a, b⟩ := r
  obtain ⟨c, d⟩ := q
  simp only [rowD, nD, PyData.eqv, PyData.eqvAll, Bool.and_true]
  rw [Bool.eq_iff_iff]
  simp
  omega
theorem any_row (rs : Rows) (r : Nat × Nat) : ((rs.map rowD).any fun z => PyData.eqv z (rowD r)) = decide (r ∈ rs) := by
  rw [List.any_map, Bool.eq_iff_iff, List.any_eq_true, decide_eq_true_iff]
  constructor
  · rintro ⟨x, hx, h⟩
    have h : PyData.eqv (rowD x) (rowD r) = true := h
    rw [eqv_row, decide_eq_true_iff] at h
    exact h ▸ hx
  · intro h
    exact ⟨r, h, by show PyData.eqv (rowD r) (rowD r) = true; rw [eqv_row]; simp⟩
end Mx
end
section
set_option Elab.async false
set_option autoImplicit false
set_option linter.all false
set_option maxRecDepth 100000
set_option maxHeartbeats 1000000
/-! P4: setups, frames checked. -/
namespace Fw
open PySem PySem.Spec PyProof.Rows L2 Dl Mx
local macro_rules
  | `(tactic| fail) => `(tactic| first
    | with_reducible refine ws_seq ?_
    | with_reducible refine ws_set ?_
    | with_reducible refine ws_ret ?_
    | with_reducible refine ws_if ?_
    | with_reducible refine ws_next ?_
    | with_reducible refine ws_break ?_
    | with_reducible refine ws_cont ?_
    | with_reducible refine ws_drop ?_
    | with_reducible refine ws_retN ?_
    | with_reducible refine ws_par ?_
    | ((with_reducible refine ws_id ?_); (with_reducible apply ws_aug); rfl)
    | ((with_reducible refine ws_id ?_); (with_reducible apply ws_augR); rfl)
    | with_reducible refine ws_asg ?_
    | ((with_reducible refine we_id ?_); (with_reducible apply we_var); rfl)
    | with_reducible refine we_int ?_
    | with_reducible refine we_non ?_
    | with_reducible refine we_bl ?_
    | with_reducible refine we_str ?_
    | with_reducible refine we_ty ?_
    | with_reducible refine we_opI ?_
    | with_reducible refine we_opB ?_
    | with_reducible refine we_opIC ?_
    | with_reducible refine we_eq ?_
    | with_reducible refine we_ne ?_
    | with_reducible refine we_isN ?_
    | with_reducible refine we_notN ?_
    | with_reducible refine we_chainI ?_
    | with_reducible refine we_chainE ?_
    | with_reducible refine we_chain3 ?_
    | with_reducible refine we_neg ?_
    | with_reducible refine we_andV ?_
    | with_reducible refine we_orV ?_
    | with_reducible refine we_notV ?_
    | with_reducible refine we_if ?_
    | with_reducible refine wt_test ?_
    | with_reducible refine wt_B ?_
    | with_reducible refine wt_not ?_
    | with_reducible refine wt_and ?_
    | with_reducible refine wt_or ?_
    | with_reducible refine wt_yes ?_
    | with_reducible refine wa_nil ?_
    | with_reducible refine wa_cons ?_
    | with_reducible refine we_tup ?_
    | with_reducible refine we_ixT ?_
    | with_reducible refine we_ixL ?_
    | with_reducible refine we_len ?_
    | with_reducible refine we_isi ?_
    | with_reducible refine we_isiSq ?_
    | with_reducible refine wg_name ?_
    | with_reducible refine we_slT ?_
    | with_reducible refine we_tuple ?_
    | with_reducible refine we_slL ?_
    | with_reducible refine wo_none ?_
    | with_reducible refine wo_some ?_
    | with_reducible refine we_callP ?_
    | with_reducible refine we_min2 ?_
    | with_reducible refine we_max2 ?_
    | with_reducible refine we_abs ?_
    | with_reducible refine we_all ?_
    | with_reducible refine we_any ?_
    | with_reducible refine we_append ?_
    | with_reducible refine we_extend ?_
    | with_reducible refine we_catL ?_
    | with_reducible refine ws_raise ?_
    | with_reducible refine we_inZ ?_
    | with_reducible refine we_catT ?_
    | with_reducible refine we_in ?_
    | with_reducible refine we_notIn ?_
    | with_reducible refine wg_tup ?_
    | with_reducible refine wgs_cons ?_
    | with_reducible refine wgs_nil ?_
    | with_reducible refine wi_rng1 ?_
    | with_reducible refine wi_rng2 ?_
    | with_reducible refine wi_lst ?_
    | with_reducible refine wi_tup ?_
    | with_reducible refine wi_enT ?_
    | with_reducible refine wi_enL ?_
    | with_reducible refine wi_zpTT ?_
    | with_reducible refine wi_zpTL ?_
    | with_reducible refine we_toInt ?_
    | with_reducible refine we_callPX ?_
    | ((with_reducible refine Rx.ex_id ?_); first
      | with_reducible refine ⟨_, _, rfl, rfl, ?_⟩
      | with_reducible refine ⟨_, _, rfl, .t _, ?_⟩
      | with_reducible refine ⟨_, _, rfl, .l (.d _), ?_⟩
      | with_reducible refine ⟨_, rfl, ?_⟩
      | with_reducible refine ⟨_, _, rfl, ?_⟩
      | refine ⟨_, _, _, rfl, rfl, rfl, ?_⟩
      | refine ⟨[_], rfl, Nat.le_of_ble_eq_true rfl, ?_⟩
      | refine ⟨[_, _], rfl, Nat.le_of_ble_eq_true rfl, ?_⟩
      | refine ⟨[_, _, _], rfl, Nat.le_of_ble_eq_true rfl, ?_⟩
      | refine ⟨[_, _, _, _], rfl, Nat.le_of_ble_eq_true rfl, ?_⟩
      | refine ⟨[_, _, _, _, _], rfl, Nat.le_of_ble_eq_true rfl, ?_⟩
      | refine ⟨[_, _, _, _, _, _], rfl, Nat.le_of_ble_eq_true rfl, ?_⟩
      | refine ⟨[_, _, _, _, _, _, _], rfl, Nat.le_of_ble_eq_true rfl, ?_⟩)
    | ((with_reducible refine Rx.and_id ?_); first
      | refine ⟨⟨_, 0, rfl⟩, ?_⟩
      | refine ⟨rfl, ?_⟩))
  | `(tactic| rfl') => `(tactic| repeat fail)
theorem mapAt {α : Type} {f : α → PyData} {xs : List α} {i : Nat} {d : PyData} (h : (xs.map f)[i]? = some d) : ∃ x, xs[i]? = some x ∧ d = f x := by
  rw [List.getElem?_map] at h
  obtain ⟨x, hx, e⟩ := Option.map_eq_some_iff.mp h
  exact ⟨x, hx, e.symm⟩
theorem repAt {x d : PyData} {n i : Nat} (h : (List.replicate n x)[i]? = some d) : d = x := by
  have := List.mem_of_getElem? h
  exact (List.mem_replicate.mp this).2
theorem trues (n : Nat) : List.replicate n (PyData.bool true) = (List.replicate n true).map PyData.bool := by simp
theorem allT (n : Nat) : (List.replicate n true).all id = true := by
  simp
theorem bt {n : Nat} (h : n < 100000) : ¬ 100000 ≤ n := by omega
section
variable {P : Program} {w : World} {K : PySem.W.Frag} {mg : Str → Option Value} {base : Heap}
theorem cal_check_setup (A : Fs P K mg) : CalX P w K mg base (L2.CX P w) 9 (fF K ("check_setup", none)) ["value"] (toSp K (d_check_setup K)) := by
  obtain ⟨fd, F⟩ := A.f_check_setup
  obtain ⟨t_MOST_KINDS, k_MOST_KINDS⟩ := A.k_MOST_KINDS
  obtain ⟨fd_is_way, G_is_way, p_is_way, b_is_way⟩ := cal_is_way (P := P) (w := w) (base := base) A
  have g_is_way := A.g_is_way
  obtain ⟨fd_is_kind, G_is_kind, p_is_kind, b_is_kind⟩ := cal_is_kind (P := P) (w := w) (base := base) A
  have g_is_kind := A.g_is_kind
  obtain ⟨fd_is_sequence, G_is_sequence, p_is_sequence, b_is_sequence⟩ := cal_is_sequence (P := P) (w := w) (base := base) A
  have g_is_sequence := A.g_is_sequence
  refine ⟨fd, F.ok sc_check_setup (toSp_len (len_check_setup K)) (fun cdv A0 outer s H vs Q E hr h => ⟨_, (pss_cons (ps_if (PW.pt (pw_or (pt_not (pt_val (pe_call G_is_sequence (hr.mono (by decide)) rfl g_is_sequence p_is_sequence b_is_sequence .nil pass0 (pa_cons (pv 0) pa_nil)))) (pw_or1 (pt_cmpR op_ne (pe_callB call_len_seq (by rfl) A.b_len (by decide +kernel) (pa_cons (pv 0) pa_nil)) pe_int (nomark _))))) (pss_one (Rx.ps_raiseErr rfl A.x_BadSetup hr (takes_of rfl rfl rfl rfl) (pa_cons (pe_un un_neg pe_int) pa_nil))) pss_nil) (pss_cons (ps_asg (pv 0) (pg_tup (n := 3) rfl (pgs_cons (pg_name (i := 1) sc_check_setup.nd rfl (Or.inl rfl)) (pgs_cons (pg_name (i := 2) sc_check_setup.nd rfl (Or.inl rfl)) (pgs_cons (pg_name (i := 3) sc_check_setup.nd rfl (Or.inl rfl)) pgs_nil))))) (pss_cons (ps_if (PW.pt (pw_or (pt_not (pt_val (pe_call G_is_sequence (hr.mono (by decide)) rfl g_is_sequence p_is_sequence b_is_sequence .nil pass0 (pa_cons (pv 1) pa_nil)))) (pw_or (pt_not (pt_chain op_le op_le pe_int (pe_callB call_len_seq (by rfl) A.b_len (by decide +kernel) (pa_cons (pv 1) pa_nil)) (pe_glob (v := .int 6) rfl k_MOST_KINDS ⟨_, rfl⟩))) (pw_or1 (pt_not (pt_val (pe_callB (cr_all rfl) (by rfl) A.b_all (by decide +kernel) (pa_cons (pe_lc (own := [("kind", 5)]) (g := (gName 5)) (tt := tYes) rfl sc_check_setup.nd (pi_tup (pv 1)) (blkOk_by (N := ["value", "kinds", "down", "up", "at", "kind"]) (sc := defScope s_check_setup) (by decide +kernel)) (fun _ _ _ _ _ => (pg_name (i := 5) sc_check_setup.nd rfl (Or.inl rfl))) (fun _ _ _ _ _ => pts_nil) (fun _ _ _ _ _ => (pe_call G_is_kind (hr.mono (by decide)) rfl g_is_kind p_is_kind b_is_kind .nil pass0 (pa_cons (pv 5) pa_nil)))) pa_nil)))))))) (pss_one (Rx.ps_raiseErr rfl A.x_BadSetup hr (takes_of rfl rfl rfl rfl) (pa_cons pe_int pa_nil))) pss_nil) (pss_cons (ps_for (passes_of rfl) rfl (pi_tup (pe_tup (pa_cons pe_int (pa_cons pe_int pa_nil)))) (pg_name (i := 4) sc_check_setup.nd rfl (Or.inl rfl)) (pss_one (ps_if (pt_not (pt_val (pe_call G_is_way (hr.mono (by decide)) rfl g_is_way p_is_way b_is_way .nil pass0 (pa_cons (pe_ix ix_tup (pv 0) (pv 4) (fun _ _ => rfl)) pa_nil)))) (pss_one (Rx.ps_raiseErr rfl A.x_BadSetup hr (takes_of rfl rfl rfl rfl) (pa_cons (pv 4) pa_nil))) pss_nil))) (pss_one (ps_ret (pe_tup (pa_cons (pe_callTy call_tuple_of (by rfl) A.b_tuple (by decide +kernel) (pa_cons (pe_lc (own := [("kind", 5)]) (g := (gName 5)) (tt := tYes) rfl sc_check_setup.nd (pi_tup (pv 1)) (blkOk_by (N := ["value", "kinds", "down", "up", "at", "kind"]) (sc := defScope s_check_setup) (by decide +kernel)) (fun _ _ _ _ _ => (pg_name (i := 5) sc_check_setup.nd rfl (Or.inl rfl))) (fun _ _ _ _ _ => pts_nil) (fun _ _ _ _ _ => (pe_callTy (Rx.call_tupleK (K := K) rfl) (by rfl) A.b_tuple (by decide +kernel) (pa_cons (pv 5) pa_nil)))) pa_nil)) (pa_cons (pe_callTy call_tuple_of (by rfl) A.b_tuple (by decide +kernel) (pa_cons (pv 2) pa_nil)) (pa_cons (pe_callTy call_tuple_of (by rfl) A.b_tuple (by decide +kernel) (pa_cons (pv 3) pa_nil)) pa_nil)))))))))), to_body h fun W xs rs P hf => ?_⟩), F.kp, F.bindsN fun _ _ _ _ _ _ us hl => match us, hl with | [_], _ => rfl⟩
  rcases hf with ⟨s, rfl, hs, hP⟩ | ⟨rfl, hX⟩
  · obtain ⟨o1, o2, o3, o4, o5, o6, o7⟩ := hs
    change WS W _ [some (.d (suD s)), none, none, none, none, none] rs _
    rfl'
    refine ite_F rfl ?_
    rfl'
    refine ite_F rfl ?_
    rfl'
    refine ite_F rfl ?_
    rfl'
    refine ite_T (by simp; omega) ?_
    rfl'
    refine ite_F (by simp; omega) ?_
    rfl'
    refine we_map (ds := s.kinds.map kdD) (es := List.replicate s.kinds.length (.bool true)) (own1 (by decide)) (by simp) (by simp; omega) ?_ ?_ ?_
    · rfl'
      rfl
    · intro i d e hd he
      obtain ⟨k, hk, rfl⟩ := mapAt hd
      have := repAt he
      subst this
      rfl'
      refine ⟨o3 k (List.mem_of_getElem? hk), ?_⟩
      exact ⟨rfl, rfl⟩
    · rfl'
      refine ⟨_, by rw [trues], ?_⟩
      rfl'
      refine ite_F (by rw [allT]; rfl) ?_
      rfl'
      refine ws_for (Iv := fun i sl rs1 => ∃ q4 : Option DV, sl = [some (.d (suD s)), some (.d (.tuple (s.kinds.map kdD))), some (.d (wayD s.d1 s.d2)), some (.d (wayD s.u1 s.u2)), q4, none] ∧ rs1 = rs) (xs := [.int 1, .int 2]) ?_ ?_ ?_
      · rfl'
        rfl
      · rintro i d sl rs1 hd ⟨q4, rfl, rfl⟩
        have hd2 : d = .int 1 ∨ d = .int 2 := by
          have := List.mem_of_getElem? hd
          simpa using this
        rcases hd2 with rfl | rfl
        · rfl'
          refine ⟨o4, o5, ?_⟩
          rfl'
          refine ite_F rfl ?_
          rfl'
          rfl
        · rfl'
          refine ⟨o6, o7, ?_⟩
          rfl'
          refine ite_F rfl ?_
          rfl'
          rfl
      · rintro sl rs1 ⟨q4, rfl, rfl⟩
        rfl'
        refine we_map (ds := s.kinds.map kdD) (es := s.kinds.map kdD) (own1 (by decide)) rfl (by simp; omega) ?_ ?_ ?_
        · rfl'
          rfl
        · intro i d e hd he
          rw [hd] at he
          cases he
          obtain ⟨k, hk, rfl⟩ := mapAt hd
          rfl'
          rfl
        · rfl'
          exact hP
  · change WS W _ [some (.d .none), none, none, none, none, none] rs _
    rfl'
    refine ite_T rfl ?_
    refine ite_T rfl ?_
    rfl'
    exact hX _
theorem cal_is_mark (A : Fs P K mg) : CalX P w K mg base CX0 4 (fF K ("is_mark", none)) ["value"] (toSp K (d_is_mark)) := by
  obtain ⟨fd, F⟩ := A.f_is_mark
  obtain ⟨t_MOST_LAID, k_MOST_LAID⟩ := A.k_MOST_LAID
  obtain ⟨fd_is_number, G_is_number, p_is_number, b_is_number⟩ := cal_is_number (P := P) (w := w) (base := base) A
  have g_is_number := A.g_is_number
  obtain ⟨fd_is_below, G_is_below, p_is_below, b_is_below⟩ := cal_is_below (P := P) (w := w) (base := base) A
  have g_is_below := A.g_is_below
  obtain ⟨fd_is_sequence, G_is_sequence, p_is_sequence, b_is_sequence⟩ := cal_is_sequence (P := P) (w := w) (base := base) A
  have g_is_sequence := A.g_is_sequence
  refine ⟨fd, F.ok sc_is_mark (toSp_len (len_is_mark)) (fun cdv A0 outer s H vs Q E hr h => ⟨_, PSs.nox ((pss_cons (ps_if (PW.pt (pw_or (pt_not (pt_val (pe_call G_is_sequence (hr.mono (by decide)) rfl g_is_sequence p_is_sequence b_is_sequence .nil pass0 (pa_cons (pv 0) pa_nil)))) (pw_or (pt_cmpR op_ne (pe_callB call_len_seq (by rfl) A.b_len (by decide +kernel) (pa_cons (pv 0) pa_nil)) pe_int (nomark _)) (pw_or1 (pt_not (pt_val (pe_call G_is_below (hr.mono (by decide)) rfl g_is_below p_is_below b_is_below .nil pass0 (pa_cons (pe_ix ix_tup (pv 0) pe_int (fun _ _ => rfl)) (pa_cons (pe_op op_add (pe_glob (v := .int 100000) rfl k_MOST_LAID ⟨_, rfl⟩) pe_int) pa_nil))))))))) (pss_one (ps_ret pe_bl)) pss_nil) (pss_cons (ps_if (PW.pt (pw_or (pt_not (pt_val (pe_call G_is_number (hr.mono (by decide)) rfl g_is_number p_is_number b_is_number .nil pass0 (pa_cons (pe_ix ix_tup (pv 0) pe_int (fun _ _ => rfl)) pa_nil)))) (pw_or1 (pt_cmpR op_gt (pe_ix ix_tup (pv 0) pe_int (fun _ _ => rfl)) (pe_ix ix_tup (pv 0) pe_int (fun _ _ => rfl)) (nomark _))))) (pss_one (ps_ret pe_bl)) pss_nil) (pss_one (ps_ret (pe_ifExp (pt_cmpR op_eq (pe_ix ix_tup (pv 0) pe_int (fun _ _ => rfl)) pe_int (nomark _)) (pe_cmp (pc_isN (pe_ix ix_tup (pv 0) pe_int (fun _ _ => rfl)))) (pe_call G_is_number (hr.mono (by decide)) rfl g_is_number p_is_number b_is_number .nil pass0 (pa_cons (pe_ix ix_tup (pv 0) pe_int (fun _ _ => rfl)) pa_nil)))))))), to_body h fun W xs rs P hf => ?_⟩), F.kp, F.bindsN fun _ _ _ _ _ _ us hl => match us, hl with | [_], _ => rfl⟩
  obtain ⟨m, rfl, ⟨o1, o2, o3, o4, o5⟩, hP⟩ := hf
  change WS W _ [some (.d (mkD m))] rs _
  rfl'
  refine ite_F rfl ?_
  rfl'
  refine ite_F rfl ?_
  rfl'
  have eb : isBelow (nD m.laid) (100000 + 1) = true := by simp [isBelow]; omega
  rw [eb]
  refine ite_F rfl ?_
  rfl'
  refine ite_F (by simp [isNum]) ?_
  rfl'
  refine ite_F (by simp; omega) ?_
  rfl'
  refine ite_both (fun hc => ?_) (fun hc => ?_)
  · have hl : m.laid = 0 := by simpa [deq] using hc
    rfl'
    refine rtB hP ?_
    rw [o4.mp hl]
    rfl
  · have hl : ¬ m.laid = 0 := by simpa [deq] using hc
    rfl'
    refine rtB hP ?_
    cases he : m.last with
    | none => exact absurd (o4.mpr he) hl
    | some l => simp [optD, isNum]
theorem cal_are_marks (A : Fs P K mg) : CalX P w K mg base CX0 5 (fF K ("are_marks", none)) ["setup", "value"] (toSp K (d_are_marks)) := by
  obtain ⟨fd, F⟩ := A.f_are_marks
  obtain ⟨fd_is_mark, G_is_mark, p_is_mark, b_is_mark⟩ := cal_is_mark (P := P) (w := w) (base := base) A
  have g_is_mark := A.g_is_mark
  obtain ⟨fd_is_sequence, G_is_sequence, p_is_sequence, b_is_sequence⟩ := cal_is_sequence (P := P) (w := w) (base := base) A
  have g_is_sequence := A.g_is_sequence
  refine ⟨fd, F.ok sc_are_marks (toSp_len (len_are_marks)) (fun cdv A0 outer s H vs Q E hr h => ⟨_, PSs.nox ((pss_one (ps_ret (pe_and (pe_call G_is_sequence (hr.mono (by decide)) rfl g_is_sequence p_is_sequence b_is_sequence .nil pass0 (pa_cons (pv 1) pa_nil)) (pe_and (pe_cmpR op_eq (pe_callB call_len_seq (by rfl) A.b_len (by decide +kernel) (pa_cons (pv 1) pa_nil)) (pe_callB call_len_seq (by rfl) A.b_len (by decide +kernel) (pa_cons (pe_ix ix_tup (pv 0) pe_int (fun _ _ => rfl)) pa_nil)) (nomark _)) (pe_one (pe_callB (cr_all rfl) (by rfl) A.b_all (by decide +kernel) (pa_cons (pe_lc (own := [("one", 2)]) (g := (gName 2)) (tt := tYes) rfl sc_are_marks.nd (pi_tup (pv 1)) (blkOk_by (N := ["setup", "value", "one"]) (sc := defScope s_are_marks) (by decide +kernel)) (fun _ _ _ _ _ => (pg_name (i := 2) sc_are_marks.nd rfl (Or.inl rfl))) (fun _ _ _ _ _ => pts_nil) (fun _ _ _ _ _ => (pe_call G_is_mark (hr.mono (by decide)) rfl g_is_mark p_is_mark b_is_mark .nil pass0 (pa_cons (pv 2) pa_nil)))) pa_nil)))))))), to_body h fun W xs rs P hf => ?_⟩), F.kp, F.bindsN fun _ _ _ _ _ _ us hl => match us, hl with | [_, _], _ => rfl⟩
  obtain ⟨s, ms, rfl, hs, hl, hm, hP⟩ := hf
  change WS W _ [some (.d (suD s)), some (.d (marksD ms)), none] rs _
  have h6 := hs.2.1
  rfl'
  refine ite_T rfl ?_
  rfl'
  refine ite_T (by simp [deq, hl]) ?_
  rfl'
  refine we_map (ds := ms.map mkD) (es := List.replicate ms.length (.bool true)) (own1 (by decide)) (by simp) (by simp; omega) ?_ ?_ ?_
  · rfl'
    rfl
  · intro i d e hd he
    obtain ⟨k, hk, rfl⟩ := mapAt hd
    have := repAt he
    subst this
    rfl'
    refine ⟨hm k (List.mem_of_getElem? hk), ?_⟩
    exact ⟨rfl, rfl⟩
  · rfl'
    refine ⟨_, by rw [trues], ?_⟩
    exact rtB hP (allT _).symm
theorem cal_shapes_of (A : Fs P K mg) : CalX P w K mg base CX0 6 (fF K ("shapes_of", none)) ["setup", "marks"] (toSp K (d_shapes_of)) := by
  obtain ⟨fd, F⟩ := A.f_shapes_of
  obtain ⟨fd_shape, G_shape, p_shape, b_shape⟩ := cal_shape (P := P) (w := w) (base := base) A
  have g_shape := A.g_shape
  refine ⟨fd, F.ok sc_shapes_of (toSp_len (len_shapes_of)) (fun cdv A0 outer s H vs Q E hr h => ⟨_, PSs.nox ((pss_one (ps_ret (pe_callTy call_tuple_of (by rfl) A.b_tuple (by decide +kernel) (pa_cons (pe_lc (own := [("kind", 2), ("mark", 3)]) (g := (gTup K 2 (gCons (gName 2) (gCons (gName 3) gNil)))) (tt := tYes) rfl sc_shapes_of.nd (RZ.pi_zipA (by rfl) A.b_zip (pa_cons (pe_ix ix_tup (pv 0) pe_int (fun _ _ => rfl)) (pa_cons (pv 1) pa_nil))) (blkOk_by (N := ["setup", "marks", "kind", "mark"]) (sc := defScope s_shapes_of) (by decide +kernel)) (fun _ _ _ _ _ => (pg_tup (n := 2) rfl (pgs_cons (pg_name (i := 2) sc_shapes_of.nd rfl (Or.inl rfl)) (pgs_cons (pg_name (i := 3) sc_shapes_of.nd rfl (Or.inl rfl)) pgs_nil)))) (fun _ _ _ _ _ => pts_nil) (fun _ _ _ _ _ => (pe_call G_shape (hr.mono (by decide)) rfl g_shape p_shape b_shape .nil pass0 (pa_cons (pe_ix (Rx.ix_tupK (K := K) rfl) (pv 2) pe_int (fun _ _ => rfl)) (pa_cons (pe_ix (Rx.ix_tupK (K := K) rfl) (pv 3) pe_int (fun _ _ => rfl)) (pa_cons (pe_ix (Rx.ix_tupK (K := K) rfl) (pv 3) pe_int (fun _ _ => rfl)) pa_nil)))))) pa_nil))))), to_body h fun W xs rs P hf => ?_⟩), F.kp, F.bindsN fun _ _ _ _ _ _ us hl => match us, hl with | [_, _], _ => rfl⟩
  obtain ⟨s, ms, rfl, hs, hl, hm, hP⟩ := hf
  change WS W _ [some (.d (suD s)), some (.d (marksD ms)), none, none] rs _
  have h6 := hs.2.1
  rfl'
  refine we_map (ds := zpD (s.kinds.map kdD) (ms.map mkD)) (es := (shapes s.kinds ms).map shD) (own2 (by decide) (by decide)) ?_ ?_ ?_ ?_ ?_
  · simp [zpD, shapes]
  · simp [zpD, hl]; omega
  · rfl'
    exact ⟨by simp [hl], rfl, rfl⟩
  · intro i d e hd he
    obtain ⟨x, y, hx, hy, rfl⟩ := zpD_at hd
    obtain ⟨k, hk, rfl⟩ := mapAt hx
    obtain ⟨m, hm1, rfl⟩ := mapAt hy
    obtain ⟨r, hr1, rfl⟩ := mapAt he
    have ko := hs.2.2.1 k (List.mem_of_getElem? hk)
    have mo := hm m (List.mem_of_getElem? hm1)
    have hk2 : 2 ≤ k.keep ∧ k.keep ≤ 8 := by
      have o4 := ko.2.2.2
      generalize k.keep = z at o4
      revert z
      decide
    have er : r = shp k.keep m.first m.laid := by
      unfold shapes at hr1
      rw [List.getElem?_zipWith, hk, hm1] at hr1
      exact (Option.some.inj hr1).symm
    subst er
    rfl'
    exact ⟨_, _, _, rfl, hk2.1, hk2.2, mo.2.1, mo.2.2.1, rfl, rfl⟩
  · rfl'
    exact hP
end
end Fw
end
section
set_option Elab.async false
set_option autoImplicit false
set_option linter.all false
set_option maxRecDepth 100000
set_option maxHeartbeats 1000000
/-! P5: cargo, frames checked. -/
namespace Fw
open PySem PySem.Spec PyProof.Rows L2 Dl Mx
local macro_rules
  | `(tactic| fail) => `(tactic| first
    | with_reducible refine ws_seq ?_
    | with_reducible refine ws_set ?_
    | with_reducible refine ws_ret ?_
    | with_reducible refine ws_if ?_
    | with_reducible refine ws_next ?_
    | with_reducible refine ws_break ?_
    | with_reducible refine ws_cont ?_
    | with_reducible refine ws_drop ?_
    | with_reducible refine ws_retN ?_
    | with_reducible refine ws_par ?_
    | ((with_reducible refine ws_id ?_); (with_reducible apply ws_aug); rfl)
    | ((with_reducible refine ws_id ?_); (with_reducible apply ws_augR); rfl)
    | with_reducible refine ws_asg ?_
    | ((with_reducible refine we_id ?_); (with_reducible apply we_var); rfl)
    | with_reducible refine we_int ?_
    | with_reducible refine we_non ?_
    | with_reducible refine we_bl ?_
    | with_reducible refine we_str ?_
    | with_reducible refine we_ty ?_
    | with_reducible refine we_opI ?_
    | with_reducible refine we_opB ?_
    | with_reducible refine we_opIC ?_
    | with_reducible refine we_eq ?_
    | with_reducible refine we_ne ?_
    | with_reducible refine we_isN ?_
    | with_reducible refine we_notN ?_
    | with_reducible refine we_chainI ?_
    | with_reducible refine we_chainE ?_
    | with_reducible refine we_chain3 ?_
    | with_reducible refine we_neg ?_
    | with_reducible refine we_andV ?_
    | with_reducible refine we_orV ?_
    | with_reducible refine we_notV ?_
    | with_reducible refine we_if ?_
    | with_reducible refine wt_test ?_
    | with_reducible refine wt_B ?_
    | with_reducible refine wt_not ?_
    | with_reducible refine wt_and ?_
    | with_reducible refine wt_or ?_
    | with_reducible refine wt_yes ?_
    | with_reducible refine wa_nil ?_
    | with_reducible refine wa_cons ?_
    | with_reducible refine we_tup ?_
    | with_reducible refine we_ixT ?_
    | with_reducible refine we_ixL ?_
    | with_reducible refine we_len ?_
    | with_reducible refine we_isi ?_
    | with_reducible refine we_isiSq ?_
    | with_reducible refine wg_name ?_
    | with_reducible refine we_slT ?_
    | with_reducible refine we_tuple ?_
    | with_reducible refine we_slL ?_
    | with_reducible refine wo_none ?_
    | with_reducible refine wo_some ?_
    | with_reducible refine we_callP ?_
    | with_reducible refine we_min2 ?_
    | with_reducible refine we_max2 ?_
    | with_reducible refine we_abs ?_
    | with_reducible refine we_all ?_
    | with_reducible refine we_any ?_
    | with_reducible refine we_append ?_
    | with_reducible refine we_extend ?_
    | with_reducible refine we_catL ?_
    | with_reducible refine ws_raise ?_
    | with_reducible refine we_inZ ?_
    | with_reducible refine we_catT ?_
    | with_reducible refine we_in ?_
    | with_reducible refine we_notIn ?_
    | with_reducible refine wg_tup ?_
    | with_reducible refine wgs_cons ?_
    | with_reducible refine wgs_nil ?_
    | with_reducible refine wi_rng1 ?_
    | with_reducible refine wi_rng2 ?_
    | with_reducible refine wi_lst ?_
    | with_reducible refine wi_tup ?_
    | with_reducible refine wi_enT ?_
    | with_reducible refine wi_enL ?_
    | with_reducible refine wi_zpTT ?_
    | with_reducible refine wi_zpTL ?_
    | with_reducible refine we_toInt ?_
    | with_reducible refine we_callPX ?_
    | ((with_reducible refine Rx.ex_id ?_); first
      | with_reducible refine ⟨_, _, rfl, rfl, ?_⟩
      | with_reducible refine ⟨_, _, rfl, .t _, ?_⟩
      | with_reducible refine ⟨_, _, rfl, .l (.d _), ?_⟩
      | with_reducible refine ⟨_, rfl, ?_⟩
      | with_reducible refine ⟨_, _, rfl, ?_⟩
      | refine ⟨_, _, _, rfl, rfl, rfl, ?_⟩
      | refine ⟨[_], rfl, Nat.le_of_ble_eq_true rfl, ?_⟩
      | refine ⟨[_, _], rfl, Nat.le_of_ble_eq_true rfl, ?_⟩
      | refine ⟨[_, _, _], rfl, Nat.le_of_ble_eq_true rfl, ?_⟩
      | refine ⟨[_, _, _, _], rfl, Nat.le_of_ble_eq_true rfl, ?_⟩
      | refine ⟨[_, _, _, _, _], rfl, Nat.le_of_ble_eq_true rfl, ?_⟩
      | refine ⟨[_, _, _, _, _, _], rfl, Nat.le_of_ble_eq_true rfl, ?_⟩
      | refine ⟨[_, _, _, _, _, _, _], rfl, Nat.le_of_ble_eq_true rfl, ?_⟩)
    | ((with_reducible refine Rx.and_id ?_); first
      | refine ⟨⟨_, 0, rfl⟩, ?_⟩
      | refine ⟨rfl, ?_⟩))
  | `(tactic| rfl') => `(tactic| repeat fail)
theorem shapes_len {ks : List Knd} {ms : List Mark} (h : ms.length = ks.length) : (shapes ks ms).length = ks.length := by
  unfold shapes
  rw [List.length_zipWith, h, Nat.min_self]
section
variable {P : Program} {w : World} {K : PySem.W.Frag} {mg : Str → Option Value} {base : Heap}
theorem cal_is_cargo (A : Fs P K mg) : CalX P w K mg base CX0 7 (fF K ("is_cargo", none)) ["setup", "marks", "value"] (toSp K (d_is_cargo)) := by
  obtain ⟨fd, F⟩ := A.f_is_cargo
  obtain ⟨t_MOST_CARGO, k_MOST_CARGO⟩ := A.k_MOST_CARGO
  obtain ⟨fd_is_span, G_is_span, p_is_span, b_is_span⟩ := cal_is_span (P := P) (w := w) (base := base) A
  have g_is_span := A.g_is_span
  obtain ⟨fd_shapes_of, G_shapes_of, p_shapes_of, b_shapes_of⟩ := cal_shapes_of (P := P) (w := w) (base := base) A
  have g_shapes_of := A.g_shapes_of
  obtain ⟨fd_is_below, G_is_below, p_is_below, b_is_below⟩ := cal_is_below (P := P) (w := w) (base := base) A
  have g_is_below := A.g_is_below
  obtain ⟨fd_is_sequence, G_is_sequence, p_is_sequence, b_is_sequence⟩ := cal_is_sequence (P := P) (w := w) (base := base) A
  have g_is_sequence := A.g_is_sequence
  refine ⟨fd, F.ok sc_is_cargo (toSp_len (len_is_cargo)) (fun cdv A0 outer s H vs Q E hr h => ⟨_, PSs.nox ((pss_cons (ps_if (PW.pt (pw_or (pt_not (pt_val (pe_call G_is_sequence (hr.mono (by decide)) rfl g_is_sequence p_is_sequence b_is_sequence .nil pass0 (pa_cons (pv 2) pa_nil)))) (pw_or1 (pt_cmpR op_gt (pe_callB call_len_seq (by rfl) A.b_len (by decide +kernel) (pa_cons (pv 2) pa_nil)) (pe_glob (v := .int 100) rfl k_MOST_CARGO ⟨_, rfl⟩) (nomark _))))) (pss_one (ps_ret pe_bl)) pss_nil) (pss_cons (ps_if (pt_not (pt_val (pe_callB (cr_all rfl) (by rfl) A.b_all (by decide +kernel) (pa_cons (pe_lc (own := [("one", 6)]) (g := (gName 6)) (tt := tYes) rfl sc_is_cargo.nd (pi_tup (pv 2)) (blkOk_by (N := ["setup", "marks", "value", "aboard", "kind", "span", "one"]) (sc := defScope s_is_cargo) (by decide +kernel)) (fun _ _ _ _ _ => (pg_name (i := 6) sc_is_cargo.nd rfl (Or.inl rfl))) (fun _ _ _ _ _ => pts_nil) (fun _ _ _ _ _ => (pe_and (pe_call G_is_sequence (hr.mono (by decide)) rfl g_is_sequence p_is_sequence b_is_sequence .nil pass0 (pa_cons (pv 6) pa_nil)) (pe_and (pe_cmpR op_eq (pe_callB (Rx.call_lenK (K := K) rfl) (by rfl) A.b_len (by decide +kernel) (pa_cons (pv 6) pa_nil)) pe_int (nomark _)) (pe_one (pe_call G_is_below (hr.mono (by decide)) rfl g_is_below p_is_below b_is_below .nil pass0 (pa_cons (pe_ix (Rx.ix_tupK (K := K) rfl) (pv 6) pe_int (fun _ _ => rfl)) (pa_cons (pe_callB (Rx.call_lenK (K := K) rfl) (by rfl) A.b_len (by decide +kernel) (pa_cons (pe_ix (Rx.ix_tupK (K := K) rfl) (pv 0) pe_int (fun _ _ => rfl)) pa_nil)) pa_nil)))))))) pa_nil)))) (pss_one (ps_ret pe_bl)) pss_nil) (pss_cons (ps_set (i := 3) sc_is_cargo.nd rfl (Or.inr rfl) (pe_call G_shapes_of (hr.mono (by decide)) rfl g_shapes_of p_shapes_of b_shapes_of .nil pass0 (pa_cons (pv 0) (pa_cons (pv 1) pa_nil)))) (pss_one (ps_ret (pe_callB (cr_all rfl) (by rfl) A.b_all (by decide +kernel) (pa_cons (pe_lc (own := [("kind", 4), ("span", 5)]) (g := (gTup K 2 (gCons (gName 4) (gCons (gName 5) gNil)))) (tt := tYes) rfl sc_is_cargo.nd (pi_tup (pv 2)) (blkOk_by (N := ["setup", "marks", "value", "aboard", "kind", "span", "one"]) (sc := defScope s_is_cargo) (by decide +kernel)) (fun _ _ _ _ _ => (pg_tup (n := 2) rfl (pgs_cons (pg_name (i := 4) sc_is_cargo.nd rfl (Or.inl rfl)) (pgs_cons (pg_name (i := 5) sc_is_cargo.nd rfl (Or.inl rfl)) pgs_nil)))) (fun _ _ _ _ _ => pts_nil) (fun _ _ _ _ _ => (pe_and (pe_call G_is_span (hr.mono (by decide)) rfl g_is_span p_is_span b_is_span .nil pass0 (pa_cons (pv 5) pa_nil)) (pe_one (pe_cmpR (Rx.op_inTDK (K := K) rfl (hu65 hr)) (pe_callTy (Rx.call_tupleK (K := K) rfl) (by rfl) A.b_tuple (by decide +kernel) (pa_cons (pe_slice (Rx.sl_tupK (K := K) rfl) (pv 5) po_none (po_some pe_int)) pa_nil)) (pe_ix (Rx.ix_tupK (K := K) rfl) (pv 3) (pv 4) (fun _ _ => rfl)) rfl))))) pa_nil)))))))), to_body h fun W xs rs P hf => ?_⟩), F.kp, F.bindsN fun _ _ _ _ _ _ us hl => match us, hl with | [_, _, _], _ => rfl⟩
  obtain ⟨s, ms, cs, rfl, hs, hl, hm, hc, hok, hP⟩ := hf
  change WS W _ [some (.d (suD s)), some (.d (marksD ms)), some (.d (.tuple (cs.map itD))), none, none, none, none] rs _
  have hsl := shapes_len hl
  rfl'
  refine ite_F rfl ?_
  rfl'
  refine ite_F (by simp; omega) ?_
  rfl'
  refine we_map (ds := cs.map itD) (es := List.replicate cs.length (.bool true)) (own1 (by decide)) (by simp) (by simp; omega) ?_ ?_ ?_
  · rfl'
    rfl
  · intro i d e hd he
    obtain ⟨c, hk, rfl⟩ := mapAt hd
    have := repAt he
    subst this
    have co := hok c (List.mem_of_getElem? hk)
    rfl'
    refine ite_T rfl ?_
    rfl'
    refine ite_T rfl ?_
    rfl'
    have h1 := co.1
    have eb : isBelow (nD c.1) ((s.kinds.map kdD).length : Nat) = true := by simp [isBelow]; omega
    exact ⟨by rw [eb], rfl⟩
  · rfl'
    refine ⟨_, by rw [trues], ?_⟩
    rfl'
    refine ite_F (by rw [allT]; rfl) ?_
    rfl'
    refine ⟨hs, hl, hm, ?_⟩
    rfl'
    refine we_map (ds := cs.map itD) (es := List.replicate cs.length (.bool true)) (own2 (by decide) (by decide)) (by simp) (by simp; omega) ?_ ?_ ?_
    · rfl'
      rfl
    · intro i d e hd he
      obtain ⟨c, hk, rfl⟩ := mapAt hd
      have := repAt he
      subst this
      obtain ⟨c1, c2, c3⟩ := hok c (List.mem_of_getElem? hk)
      rfl'
      refine ⟨c3, ?_⟩
      rfl'
      refine ite_T rfl ?_
      rfl'
      refine ⟨_, _, shD ((shapes s.kinds ms).getD c.1 []), rfl, rfl, atI_nat ?_, ?_⟩
      · rw [List.getElem?_map, List.getElem?_eq_getElem c1, List.getD_eq_getElem?_getD, List.getElem?_eq_getElem c1]
        rfl
      refine ⟨rowD (c.2.first, c.2.many), _, rfl, rfl, (sh_row _).s, (sh_rows _).s, ?_, rfl⟩
      rw [any_row, decide_eq_true c2]
    · rfl'
      refine ⟨_, by rw [trues], ?_⟩
      rfl'
      exact rtB hP (allT _).symm
end
end Fw
end
section
set_option Elab.async false
set_option autoImplicit false
set_option linter.all false
set_option maxRecDepth 100000
set_option maxHeartbeats 1000000
/-! P6: octets written. -/
namespace Fw
open PySem PySem.Spec PyProof.Rows L2 Dl Mx
local macro_rules
  | `(tactic| fail) => `(tactic| first
    | with_reducible refine ws_seq ?_
    | with_reducible refine ws_set ?_
    | with_reducible refine ws_ret ?_
    | with_reducible refine ws_if ?_
    | with_reducible refine ws_next ?_
    | with_reducible refine ws_break ?_
    | with_reducible refine ws_cont ?_
    | with_reducible refine ws_drop ?_
    | with_reducible refine ws_retN ?_
    | with_reducible refine ws_par ?_
    | ((with_reducible refine ws_id ?_); (with_reducible apply ws_aug); rfl)
    | ((with_reducible refine ws_id ?_); (with_reducible apply ws_augR); rfl)
    | with_reducible refine ws_asg ?_
    | ((with_reducible refine we_id ?_); (with_reducible apply we_var); rfl)
    | with_reducible refine we_int ?_
    | with_reducible refine we_non ?_
    | with_reducible refine we_bl ?_
    | with_reducible refine we_str ?_
    | with_reducible refine we_ty ?_
    | with_reducible refine we_opI ?_
    | with_reducible refine we_opB ?_
    | with_reducible refine we_opIC ?_
    | with_reducible refine we_eq ?_
    | with_reducible refine we_ne ?_
    | with_reducible refine we_isN ?_
    | with_reducible refine we_notN ?_
    | with_reducible refine we_chainI ?_
    | with_reducible refine we_chainE ?_
    | with_reducible refine we_chain3 ?_
    | with_reducible refine we_neg ?_
    | with_reducible refine we_andV ?_
    | with_reducible refine we_orV ?_
    | with_reducible refine we_notV ?_
    | with_reducible refine we_if ?_
    | with_reducible refine wt_test ?_
    | with_reducible refine wt_B ?_
    | with_reducible refine wt_not ?_
    | with_reducible refine wt_and ?_
    | with_reducible refine wt_or ?_
    | with_reducible refine wt_yes ?_
    | with_reducible refine wa_nil ?_
    | with_reducible refine wa_cons ?_
    | with_reducible refine we_tup ?_
    | with_reducible refine we_ixT ?_
    | with_reducible refine we_ixL ?_
    | with_reducible refine we_len ?_
    | with_reducible refine we_isi ?_
    | with_reducible refine we_isiSq ?_
    | with_reducible refine wg_name ?_
    | with_reducible refine we_slT ?_
    | with_reducible refine we_tuple ?_
    | with_reducible refine we_slL ?_
    | with_reducible refine wo_none ?_
    | with_reducible refine wo_some ?_
    | with_reducible refine we_callP ?_
    | with_reducible refine we_min2 ?_
    | with_reducible refine we_max2 ?_
    | with_reducible refine we_abs ?_
    | with_reducible refine we_all ?_
    | with_reducible refine we_any ?_
    | with_reducible refine we_append ?_
    | with_reducible refine we_extend ?_
    | with_reducible refine we_catL ?_
    | with_reducible refine ws_raise ?_
    | with_reducible refine we_inZ ?_
    | with_reducible refine we_catT ?_
    | with_reducible refine we_in ?_
    | with_reducible refine we_notIn ?_
    | with_reducible refine wg_tup ?_
    | with_reducible refine wgs_cons ?_
    | with_reducible refine wgs_nil ?_
    | with_reducible refine wi_rng1 ?_
    | with_reducible refine wi_rng2 ?_
    | with_reducible refine wi_lst ?_
    | with_reducible refine wi_tup ?_
    | with_reducible refine wi_enT ?_
    | with_reducible refine wi_enL ?_
    | with_reducible refine wi_zpTT ?_
    | with_reducible refine wi_zpTL ?_
    | with_reducible refine we_toInt ?_
    | with_reducible refine we_callPX ?_
    | ((with_reducible refine Rx.ex_id ?_); first
      | with_reducible refine ⟨_, _, rfl, rfl, ?_⟩
      | with_reducible refine ⟨_, _, rfl, .t _, ?_⟩
      | with_reducible refine ⟨_, _, rfl, .l (.d _), ?_⟩
      | with_reducible refine ⟨_, rfl, ?_⟩
      | with_reducible refine ⟨_, _, rfl, ?_⟩
      | refine ⟨_, _, _, rfl, rfl, rfl, ?_⟩
      | refine ⟨[_], rfl, Nat.le_of_ble_eq_true rfl, ?_⟩
      | refine ⟨[_, _], rfl, Nat.le_of_ble_eq_true rfl, ?_⟩
      | refine ⟨[_, _, _], rfl, Nat.le_of_ble_eq_true rfl, ?_⟩
      | refine ⟨[_, _, _, _], rfl, Nat.le_of_ble_eq_true rfl, ?_⟩
      | refine ⟨[_, _, _, _, _], rfl, Nat.le_of_ble_eq_true rfl, ?_⟩
      | refine ⟨[_, _, _, _, _, _], rfl, Nat.le_of_ble_eq_true rfl, ?_⟩
      | refine ⟨[_, _, _, _, _, _, _], rfl, Nat.le_of_ble_eq_true rfl, ?_⟩)
    | ((with_reducible refine Rx.and_id ?_); first
      | refine ⟨⟨_, 0, rfl⟩, ?_⟩
      | refine ⟨rfl, ?_⟩))
  | `(tactic| rfl') => `(tactic| repeat fail)
abbrev d_octets_for : Dsp := fun xs rs P X => ∃ n : Nat, xs = [.d (nD n)] ∧ P (.d (nD (octF n))) rs
theorem len_octets_for : Len d_octets_for 1 := fun _ _ _ _ ⟨_, e, _⟩ => by rw [e]; rfl
abbrev d_number_octets : Dsp := fun xs rs P X => ∃ n m : Nat, xs = [.d (nD n), .d (nD m)] ∧ m ≤ 1000 ∧ ((∀ a, P (.p a) ((a, .lst ((digs m n).map nD)) :: rs)) ∨ P (.d (.list ((digs m n).map nD))) rs)
theorem len_number_octets : Len d_number_octets 2 := fun _ _ _ _ ⟨_, _, e, _⟩ => by rw [e]; rfl
abbrev d_most_rest : Dsp := fun xs rs P X => ∃ m h : Nat, xs = [.d (nD m), .d (nD h)] ∧ 2 ≤ m ∧ m ≤ 1000000 ∧ P (.d (nD ((m - 2) * h))) rs
theorem len_most_rest : Len d_most_rest 2 := fun _ _ _ _ ⟨_, _, e, _⟩ => by rw [e]; rfl
theorem octF_pos {n : Nat} (h : 0 < n) : octF n = 1 + octF (n / 256) := by
  rw [octF, dif_neg (by omega)]
theorem octF_zero : octF 0 = 0 := by rw [octF, dif_pos rfl]
abbrev d_values_octets : Dsp := fun xs rs P X => ∃ s : Span, xs = [.d (spD s)] ∧ s.ok ∧ P (.d (.list ((wrSpan s).map nD))) rs
theorem len_values_octets : Len d_values_octets 1 := fun _ _ _ _ ⟨_, e, _⟩ => by rw [e]; rfl
abbrev d_mark_octets : Dsp := fun xs rs P X => ∃ m : Mark, xs = [.d (mkD m)] ∧ m.laid ≤ 100000 ∧ P (.d (.list ((wrMark m).map nD))) rs
theorem len_mark_octets : Len d_mark_octets 1 := fun _ _ _ _ ⟨_, e, _⟩ => by rw [e]; rfl
abbrev d_look_numbers : Dsp := fun xs rs P X => ∃ (s : Setup) (f : Frm), xs = [.d (frD f)] ∧ s.ok ∧ f.ok s ∧ P (.d .none) rs
theorem len_look_numbers : Len d_look_numbers 1 := fun _ _ _ _ ⟨_, _, e, _⟩ => by rw [e]; rfl
theorem digs_len (m n : Nat) : (digs m n).length = m := by
  induction m generalizing n with
  | zero => rfl
  | succ m ih => simp [digs, ih]
theorem octF_le : ∀ (k n : Nat), n < 256 ^ k → octF n ≤ k
  | 0, n, h => by
    have : n = 0 := by simpa using h
    rw [this, octF_zero]
    exact Nat.le_refl _
  | k + 1, n, h => by
    by_cases h0 : n = 0
    · rw [h0, octF_zero]
      omega
    · rw [octF_pos (by omega)]
      have := octF_le k (n / 256) (by rw [Nat.pow_succ] at h; omega)
      omega
theorem span_rest (s : Span) (o1 : s.many ∈ pws) (o2 : -1000000 ≤ s.low) (o3 : s.low ≤ 1000000) (o4 : -1000000 ≤ s.high) (o5 : s.high ≤ 1000000) (hc : ¬ s.many = 1) (q1 : s.low ≤ s.high) (q2 : s.low * ((s.many : Int) - 1) + s.high ≤ s.total) (q3 : s.total ≤ s.low + s.high * ((s.many : Int) - 1)) : 0 ≤ s.total - s.low * ((s.many : Int) - 1) - s.high ∧ (s.total - s.low * ((s.many : Int) - 1) - s.high).toNat ≤ (s.many - 2) * (s.high - s.low).toNat ∧ (s.many - 2) * (s.high - s.low).toNat ≤ 60000000 := by
  obtain ⟨f, m, t, l, h⟩ := s
  simp only at *
  simp only [pws, List.mem_cons, List.not_mem_nil, or_false] at o1
  rcases o1 with rfl | rfl | rfl | rfl | rfl | rfl
  · omega
  all_goals
    refine ⟨?_, ?_, ?_⟩ <;> omega
section
variable {P : Program} {w : World} {K : PySem.W.Frag} {mg : Str → Option Value} {base : Heap}
theorem cal_octets_for (A : Fs P K mg) : CalX P w K mg base CX0 1 (fF K ("octets_for", none)) ["number"] (toSp K (d_octets_for)) := by
  obtain ⟨fd, F⟩ := A.f_octets_for
  obtain ⟨t_MOST_OCTET, k_MOST_OCTET⟩ := A.k_MOST_OCTET
  refine ⟨fd, F.ok sc_octets_for (toSp_len (len_octets_for)) (fun cdv A0 outer s H vs Q E hr h => ⟨_, PSs.nox ((pss_cons (ps_set (i := 1) sc_octets_for.nd rfl (Or.inl rfl) pe_int) (pss_cons (ps_while PassesOwn.never (pt_cmpR op_gt (pv 0) pe_int (nomark _)) (pss_cons (ps_aug (i := 1) sc_octets_for.nd rfl (Or.inl rfl) pe_int ip_add) (pss_one (ps_aug (i := 0) sc_octets_for.nd rfl (Or.inl rfl) (pe_glob (v := .int 256) rfl k_MOST_OCTET ⟨_, rfl⟩) iop_fdiv)))) (pss_one (ps_ret (pv 1)))))), to_body h fun W xs rs P hf => ?_⟩), F.kp, F.bindsN fun _ _ _ _ _ _ us hl => match us, hl with | [_], _ => rfl⟩
  obtain ⟨n, rfl, hP⟩ := hf
  change WS W _ [some (.d (nD n)), none] rs _
  rfl'
  refine ws_while (fun m sl rs1 => ∃ c : Nat, sl = [some (.d (nD m)), some (.d (nD c))] ∧ rs1 = rs ∧ c + octF m = octF n) n ⟨0, rfl, rfl, by omega⟩ ?_
  rintro m sl rs1 ⟨c, rfl, rfl, he⟩
  rfl'
  refine ite_both (fun hm => ?_) (fun hm => ?_)
  · have hm : 0 < m := by simpa using hm
    rfl'
    refine ⟨⟨by decide, by decide⟩, ?_⟩
    rfl'
    rw [octF_pos hm] at he
    have e1 : (m : Int) / 256 = ((m / 256 : Nat) : Int) := by omega
    have e2 : (c : Int) + 1 = ((c + 1 : Nat) : Int) := by omega
    refine ⟨m / 256, by omega, c + 1, ?_, rfl, by omega⟩
    simp only [nD, List.set, e1, e2]
  · have hm : m = 0 := by simpa using hm
    subst hm
    rw [octF_zero] at he
    rfl'
    have : c = octF n := by omega
    subst this
    exact hP
theorem cal_number_octets (A : Fs P K mg) : CalX P w K mg base CX0 1 (fF K ("number_octets", none)) ["number", "many"] (toSp K (d_number_octets)) := by
  obtain ⟨fd, F⟩ := A.f_number_octets
  obtain ⟨t_MOST_OCTET, k_MOST_OCTET⟩ := A.k_MOST_OCTET
  refine ⟨fd, F.ok sc_number_octets (toSp_len (len_number_octets)) (fun cdv A0 outer s H vs Q E hr h => ⟨_, PSs.nox ((pss_cons (ps_set (i := 2) sc_number_octets.nd rfl (Or.inl rfl) (pe_lst pa_nil)) (pss_cons (ps_for PassesOwn.never rfl (pi_range1 (by rfl) A.b_range (pa_cons (pv 1) pa_nil)) (pg_name (i := 3) sc_number_octets.nd rfl (Or.inl rfl)) (pss_cons (ps_expr (pe_bm PySem.F.plainAttrs_list PySem.F.slot_list_append PySem.F.type_list_append mt_append (pv 2) (pa_cons (pe_op op_mod (pv 0) (pe_glob (v := .int 256) rfl k_MOST_OCTET ⟨_, rfl⟩)) pa_nil))) (pss_one (ps_aug (i := 0) sc_number_octets.nd rfl (Or.inl rfl) (pe_glob (v := .int 256) rfl k_MOST_OCTET ⟨_, rfl⟩) iop_fdiv)))) (pss_one (ps_ret (pe_revL (pv 2))))))), to_body h fun W xs rs P hf => ?_⟩), F.kp, F.bindsN fun _ _ _ _ _ _ us hl => match us, hl with | [_, _], _ => rfl⟩
  obtain ⟨n, m, rfl, hm, hP⟩ := hf
  change WS W _ [some (.d (nD n)), some (.d (nD m)), none, none] rs _
  rfl'
  refine we_lstR (wa_nil ⟨[], rfl, Nat.zero_le _, fun a => ?_⟩)
  rfl'
  refine ws_for (Iv := fun i sl rs1 => ∃ (z : Nat) (acc : List Nat) (q : Option DV), sl = [some (.d (nD z)), some (.d (nD m)), some (.p a), q] ∧ rs1 = (a, .lst (acc.map nD)) :: rs ∧ acc.length = i ∧ digs (m - i) z ++ acc.reverse = digs m n) (xs := rgD 0 m) ?_ ?_ ?_
  · rfl'
    refine ⟨by omega, by omega, rfl, n, [], none, rfl, rfl, rfl, by simp⟩
  · rintro i d sl rs1 hd ⟨z, acc, q, rfl, rfl, hl, he⟩
    obtain ⟨hi, rfl⟩ := rgD_at hd
    rfl'
    refine ⟨by decide, ?_⟩
    rfl'
    refine ⟨_, _, 0, rfl, rfl, by rw [List.length_map]; omega, ?_⟩
    rfl'
    refine ⟨⟨by decide, by decide⟩, ?_⟩
    rfl'
    have e1 : (z : Int) / 256 = ((z / 256 : Nat) : Int) := by omega
    have e2 : (z : Int) % 256 = ((z % 256 : Nat) : Int) := by omega
    have e3 : m - i = (m - (i + 1)) + 1 := by omega
    refine ⟨z / 256, acc ++ [z % 256], some (.d (.int (0 + (i : Int)))), ?_, ?_, by simp [hl], ?_⟩
    · simp only [nD, List.set, e1]
    · rw [List.map_append]
      simp only [nD, List.map, e2]
      rfl
    · rw [← he, e3]
      simp [digs]
  · rintro sl rs1 ⟨z, acc, q, rfl, rfl, hl, he⟩
    rw [rgD_len] at hl he
    rw [Nat.sub_self] at he
    have he : acc.reverse = digs m n := he
    rcases hP with hP | hP
    · refine ws_ret (we_dropE (we_revR ?_))
      rfl'
      refine ⟨_, .p ⟨0, rfl⟩, fun b => ⟨(b, .lst ((digs m n).map nD)) :: rs, ?_, hP b⟩⟩
      rw [← he, List.map_reverse]
      exact List.Sublist.cons_cons _ (List.sublist_cons_self _ _)
    · refine ws_ret (we_drop (rs2 := rs) (we_rev ?_))
      rfl'
      refine ⟨_, .p ⟨0, rfl⟩, List.sublist_cons_self _ _, ?_⟩
      rw [← List.map_reverse, he]
      exact hP
theorem cal_most_rest (A : Fs P K mg) : CalX P w K mg base CX0 1 (fF K ("most_rest", none)) ["many", "height"] (toSp K (d_most_rest)) := by
  obtain ⟨fd, F⟩ := A.f_most_rest
  refine ⟨fd, F.ok sc_most_rest (toSp_len (len_most_rest)) (fun cdv A0 outer s H vs Q E hr h => ⟨_, PSs.nox ((pss_one (ps_ret (pe_op op_mul (pe_op op_sub (pv 0) pe_int) (pv 1))))), to_body h fun W xs rs P hf => ?_⟩), F.kp, F.bindsN fun _ _ _ _ _ _ us hl => match us, hl with | [_, _], _ => rfl⟩
  obtain ⟨m, h, rfl, h2, h3, hP⟩ := hf
  change WS W _ [some (.d (nD m)), some (.d (nD h))] rs _
  rfl'
  refine ⟨.inl ⟨by omega, by omega⟩, ?_⟩
  refine rtI hP ?_
  rw [Int.natCast_mul]
  congr 1
  omega
theorem cal_values_octets (A : Fs P K mg) : CalX P w K mg base CX0 2 (fF K ("values_octets", none)) ["span"] (toSp K (d_values_octets)) := by
  obtain ⟨fd, F⟩ := A.f_values_octets
  obtain ⟨t_VALUE_OCTETS, k_VALUE_OCTETS⟩ := A.k_VALUE_OCTETS
  obtain ⟨t_MOST_VALUE, k_MOST_VALUE⟩ := A.k_MOST_VALUE
  obtain ⟨fd_number_octets, G_number_octets, p_number_octets, b_number_octets⟩ := cal_number_octets (P := P) (w := w) (base := base) A
  have g_number_octets := A.g_number_octets
  obtain ⟨fd_octets_for, G_octets_for, p_octets_for, b_octets_for⟩ := cal_octets_for (P := P) (w := w) (base := base) A
  have g_octets_for := A.g_octets_for
  obtain ⟨fd_most_rest, G_most_rest, p_most_rest, b_most_rest⟩ := cal_most_rest (P := P) (w := w) (base := base) A
  have g_most_rest := A.g_most_rest
  refine ⟨fd, F.ok sc_values_octets (toSp_len (len_values_octets)) (fun cdv A0 outer s H vs Q E hr h => ⟨_, PSs.nox ((pss_cons (ps_asg (pv 0) (pg_tup (n := 5) rfl (pgs_cons (pg_name (i := 1) sc_values_octets.nd rfl (Or.inl rfl)) (pgs_cons (pg_name (i := 2) sc_values_octets.nd rfl (Or.inl rfl)) (pgs_cons (pg_name (i := 3) sc_values_octets.nd rfl (Or.inl rfl)) (pgs_cons (pg_name (i := 4) sc_values_octets.nd rfl (Or.inl rfl)) (pgs_cons (pg_name (i := 5) sc_values_octets.nd rfl (Or.inl rfl)) pgs_nil))))))) (pss_cons (ps_set (i := 6) sc_values_octets.nd rfl (Or.inl rfl) (pe_call G_number_octets (hr.mono (by decide)) rfl g_number_octets p_number_octets b_number_octets .nil pass0 (pa_cons (pe_op op_add (pv 4) (pe_glob (v := .int 1000000) rfl k_MOST_VALUE ⟨_, rfl⟩)) (pa_cons (pe_glob (v := .int 3) rfl k_VALUE_OCTETS ⟨_, rfl⟩) pa_nil)))) (pss_cons (ps_if (pt_cmpR op_eq (pv 2) pe_int (nomark _)) (pss_one (ps_ret (pv 6))) pss_nil) (pss_cons (ps_expr (pe_bm PySem.F.plainAttrs_list PySem.F.slot_list_extend PySem.F.type_list_extend mt_extend (pv 6) (pa_cons (pe_call G_number_octets (hr.mono (by decide)) rfl g_number_octets p_number_octets b_number_octets .nil pass0 (pa_cons (pe_op op_sub (pv 5) (pv 4)) (pa_cons (pe_glob (v := .int 3) rfl k_VALUE_OCTETS ⟨_, rfl⟩) pa_nil))) pa_nil))) (pss_cons (ps_expr (pe_bm PySem.F.plainAttrs_list PySem.F.slot_list_extend PySem.F.type_list_extend mt_extend (pv 6) (pa_cons (pe_call G_number_octets (hr.mono (by decide)) rfl g_number_octets p_number_octets b_number_octets .nil pass0 (pa_cons (pe_op op_sub (pe_op op_sub (pv 3) (pe_op op_mul (pv 4) (pe_op op_sub (pv 2) pe_int))) (pv 5)) (pa_cons (pe_call G_octets_for (hr.mono (by decide)) rfl g_octets_for p_octets_for b_octets_for .nil pass0 (pa_cons (pe_call G_most_rest (hr.mono (by decide)) rfl g_most_rest p_most_rest b_most_rest .nil pass0 (pa_cons (pv 2) (pa_cons (pe_op op_sub (pv 5) (pv 4)) pa_nil))) pa_nil)) pa_nil))) pa_nil))) (pss_one (ps_ret (pv 6))))))))), to_body h fun W xs rs P hf => ?_⟩), F.kp, F.bindsN fun _ _ _ _ _ _ us hl => match us, hl with | [_], _ => rfl⟩
  obtain ⟨s, rfl, ⟨o1, o2, o3, o4, o5, o6⟩, hP⟩ := hf
  change WS W _ [some (.d (spD s)), none, none, none, none, none, none] rs _
  have hm : 1 ≤ s.many ∧ s.many ≤ 32 := by
    generalize s.many = z at o1
    revert z
    decide
  unfold wrSpan at hP
  unfold trueOf at o6
  rfl'
  have e1 : s.low + 1000000 = (((s.low + 1000000).toNat : Nat) : Int) := by omega
  refine ⟨(s.low + 1000000).toNat, 3, by rw [e1]; rfl, by omega, .inl fun a => ?_⟩
  rfl'
  refine ite_both (fun hc => ?_) (fun hc => ?_)
  · have hc : (s.many : Int) = 1 := by simpa [deq] using hc
    have hc : s.many = 1 := by omega
    rw [if_pos hc, List.append_nil] at hP
    refine ws_ret (we_frz (a := a) (ds := (digs 3 (s.low + 1000000).toNat).map nD) ?_)
    rfl'
    exact ⟨rs, rfl, .refl _, hP⟩
  · have hc : ¬ (s.many : Int) = 1 := by simpa [deq] using hc
    have hc : ¬ s.many = 1 := by omega
    rw [if_neg hc] at hP
    rw [if_neg (by omega)] at o6
    simp only [Bool.and_eq_true, decide_eq_true_eq] at o6
    obtain ⟨q1, q2, q3⟩ := o6
    rfl'
    have e2 : s.high - s.low = (((s.high - s.low).toNat : Nat) : Int) := by omega
    refine ⟨(s.high - s.low).toNat, 3, by rw [e2]; rfl, by omega, .inr ?_⟩
    rfl'
    refine ⟨_, _, 0, rfl, rfl, by simp [digs_len], ?_⟩
    rfl'
    refine ⟨.inl ⟨by omega, by omega⟩, ?_⟩
    rfl'
    refine ⟨s.many, (s.high - s.low).toNat, by rw [e2]; rfl, by omega, by omega, ?_⟩
    rfl'
    obtain ⟨r1, r2, r3⟩ := span_rest s o1 o2 o3 o4 o5 hc q1 q2 q3
    have e3 : s.total - s.low * (↑s.many - 1) - s.high = (((s.total - s.low * (↑s.many - 1) - s.high).toNat : Nat) : Int) := by omega
    have h4 := octF_le 4 _ (show (s.many - 2) * (s.high - s.low).toNat < 256 ^ 4 by omega)
    refine ⟨(s.total - s.low * (↑s.many - 1) - s.high).toNat, octF ((s.many - 2) * (s.high - s.low).toNat), by rw [e3]; simp only [Int.toNat_natCast], Nat.le_trans h4 (by decide), .inr ?_⟩
    rfl'
    refine ⟨_, _, 0, rfl, rfl, by rw [List.length_append, List.length_map, List.length_map, List.length_map, digs_len, digs_len, digs_len]; exact Nat.le_trans (Nat.add_le_add_left h4 _) (by decide), ?_⟩
    refine ws_ret (we_frz (a := a) (ds := (digs 3 (s.low + 1000000).toNat ++ digs 3 (s.high - s.low).toNat ++ digs (octF ((s.many - 2) * (s.high - s.low).toNat)) (s.total - s.low * (↑s.many - 1) - s.high).toNat).map nD) ?_)
    rfl'
    refine ⟨rs, rfl, ?_, ?_⟩
    · rw [List.map_append, List.map_append]
      exact .refl _
    · rw [List.append_assoc]
      exact hP
theorem cal_mark_octets (A : Fs P K mg) : CalX P w K mg base CX0 2 (fF K ("mark_octets", none)) ["mark"] (toSp K (d_mark_octets)) := by
  obtain ⟨fd, F⟩ := A.f_mark_octets
  obtain ⟨t_COUNT_OCTETS, k_COUNT_OCTETS⟩ := A.k_COUNT_OCTETS
  obtain ⟨t_LAID_OCTETS, k_LAID_OCTETS⟩ := A.k_LAID_OCTETS
  obtain ⟨fd_number_octets, G_number_octets, p_number_octets, b_number_octets⟩ := cal_number_octets (P := P) (w := w) (base := base) A
  have g_number_octets := A.g_number_octets
  obtain ⟨fd_octets_for, G_octets_for, p_octets_for, b_octets_for⟩ := cal_octets_for (P := P) (w := w) (base := base) A
  have g_octets_for := A.g_octets_for
  refine ⟨fd, F.ok sc_mark_octets (toSp_len (len_mark_octets)) (fun cdv A0 outer s H vs Q E hr h => ⟨_, PSs.nox ((pss_cons (ps_asg (pv 0) (pg_tup (n := 3) rfl (pgs_cons (pg_name (i := 1) sc_mark_octets.nd rfl (Or.inl rfl)) (pgs_cons (pg_name (i := 2) sc_mark_octets.nd rfl (Or.inl rfl)) (pgs_cons (pg_name (i := 3) sc_mark_octets.nd rfl (Or.inl rfl)) pgs_nil))))) (pss_cons (ps_set (i := 4) sc_mark_octets.nd rfl (Or.inl rfl) (pe_op op_cat (pe_call G_number_octets (hr.mono (by decide)) rfl g_number_octets p_number_octets b_number_octets .nil pass0 (pa_cons (pv 1) (pa_cons (pe_glob (v := .int 3) rfl k_LAID_OCTETS ⟨_, rfl⟩) pa_nil))) (pe_call G_number_octets (hr.mono (by decide)) rfl g_number_octets p_number_octets b_number_octets .nil pass0 (pa_cons (pv 2) (pa_cons (pe_call G_octets_for (hr.mono (by decide)) rfl g_octets_for p_octets_for b_octets_for .nil pass0 (pa_cons (pv 1) pa_nil)) pa_nil))))) (pss_one (ps_ret (pe_ifExp (pt_cmp (pc_isN (pv 3))) (pv 4) (pe_op op_cat (pv 4) (pe_call G_number_octets (hr.mono (by decide)) rfl g_number_octets p_number_octets b_number_octets .nil pass0 (pa_cons (pv 3) (pa_cons (pe_glob (v := .int 4) rfl k_COUNT_OCTETS ⟨_, rfl⟩) pa_nil)))))))))), to_body h fun W xs rs P hf => ?_⟩), F.kp, F.bindsN fun _ _ _ _ _ _ us hl => match us, hl with | [_], _ => rfl⟩
  obtain ⟨m, rfl, hl, hP⟩ := hf
  change WS W _ [some (.d (mkD m)), none, none, none, none] rs _
  have h3 := octF_le 3 m.laid (by omega)
  unfold wrMark at hP
  rfl'
  refine ⟨by decide, .inr ?_⟩
  rfl'
  refine ⟨Nat.le_trans h3 (by decide), .inr ?_⟩
  rfl'
  refine ⟨_, _, .d _, .d _, by rw [List.length_map, List.length_map, digs_len, digs_len]; exact Nat.le_trans (Nat.add_le_add_left h3 _) (by decide), ?_⟩
  rfl'
  cases he : m.last with
  | none =>
    refine ite_T rfl ?_
    rfl'
    rw [he] at hP
    refine rtD hP ?_
    simp
  | some l =>
    refine ite_F rfl ?_
    rfl'
    rw [he] at hP
    refine ⟨by decide, .inr ?_⟩
    rfl'
    refine ⟨_, _, .d _, .d _, by rw [List.length_append, List.length_map, List.length_map, List.length_map, digs_len, digs_len, digs_len]; exact Nat.le_trans (Nat.add_le_add_right (Nat.add_le_add_left h3 _) _) (by decide), ?_⟩
    refine rtD hP ?_
    simp
theorem cal_look_numbers (A : Fs P K mg) : CalX P w K mg base CX0 1 (fF K ("look_numbers", none)) ["frame"] (toSp K (d_look_numbers)) := by
  obtain ⟨fd, F⟩ := A.f_look_numbers
  obtain ⟨t_MOST_NUMBER, k_MOST_NUMBER⟩ := A.k_MOST_NUMBER
  refine ⟨fd, F.ok sc_look_numbers (toSp_len (len_look_numbers)) (fun cdv A0 outer s H vs Q E hr h => ⟨_, PSs.nox ((pss_cons (ps_for PassesOwn.never rfl (pi_range1 (by rfl) A.b_range (pa_cons pe_int pa_nil)) (pg_name (i := 1) sc_look_numbers.nd rfl (Or.inl rfl)) (pss_one (ps_if (pt_cmpR op_ge (pe_ix ix_tup (pv 0) (pv 1) (fun _ _ => rfl)) (pe_glob (v := .int 4294967296) rfl k_MOST_NUMBER ⟨_, rfl⟩) (nomark _)) (pss_one Rx.ps_dead) pss_nil))) (pss_one (ps_if (pt_val (pe_callB (cr_any rfl) (by rfl) A.b_any (by decide +kernel) (pa_cons (pe_lc (own := [("laid", 2), ("first", 3), ("last", 4)]) (g := (gTup K 3 (gCons (gName 2) (gCons (gName 3) (gCons (gName 4) gNil))))) (tt := tYes) rfl sc_look_numbers.nd (pi_tup (pe_ix ix_tup (pv 0) pe_int (fun _ _ => rfl))) (blkOk_by (N := ["frame", "at", "laid", "first", "last"]) (sc := defScope s_look_numbers) (by decide +kernel)) (fun _ _ _ _ _ => (pg_tup (n := 3) rfl (pgs_cons (pg_name (i := 2) sc_look_numbers.nd rfl (Or.inl rfl)) (pgs_cons (pg_name (i := 3) sc_look_numbers.nd rfl (Or.inl rfl)) (pgs_cons (pg_name (i := 4) sc_look_numbers.nd rfl (Or.inl rfl)) pgs_nil))))) (fun _ _ _ _ _ => pts_nil) (fun _ _ _ _ _ => (pe_and (pe_cmp (pc_notN (pv 4))) (pe_one (pe_cmpR op_ge (pv 4) (pe_glob (v := .int 4294967296) rfl k_MOST_NUMBER ⟨_, rfl⟩) (nomark _)))))) pa_nil))) (pss_one Rx.ps_dead) pss_nil)))), to_body h fun W xs rs P hf => ?_⟩), F.kp, F.bindsN fun _ _ _ _ _ _ us hl => match us, hl with | [_], _ => rfl⟩
  obtain ⟨s, f, rfl, hs, ⟨o1, o2, o3, o4, o5, o6⟩, hP⟩ := hf
  obtain ⟨a, b, c, hn⟩ : ∃ a b c, f.nums = [a, b, c] := by
    match hq : f.nums, o1 with
    | [a, b, c], _ => exact ⟨a, b, c, rfl⟩
  have hs6 := hs.2.1
  unfold frD
  rw [hn] at o2 ⊢
  change WS W _ [some (.d (.tuple [nD a, nD b, nD c, marksD f.marks, .tuple (f.cargo.map itD)])), none, none, none, none] rs _
  rfl'
  refine ws_for (Iv := fun i sl rs1 => ∃ q, sl = [some (.d (.tuple [nD a, nD b, nD c, marksD f.marks, .tuple (f.cargo.map itD)])), q, none, none, none] ∧ rs1 = rs) (xs := rgD 0 3) ?_ ?_ ?_
  · rfl'
    exact ⟨by omega, by omega, rfl, none, rfl, rfl⟩
  · rintro i d sl rs1 hd ⟨q, rfl, rfl⟩
    obtain ⟨hi, rfl⟩ := rgD_at hd
    have ha := o2 a (by simp)
    have hb := o2 b (by simp)
    have hc := o2 c (by simp)
    have : i = 0 ∨ i = 1 ∨ i = 2 := by omega
    rcases this with rfl | rfl | rfl
    · rfl'
      refine ite_F (by simp; unfold M4 at ha hb hc; omega) ?_
      rfl'
      rfl
    · rfl'
      refine ite_F (by simp; unfold M4 at ha hb hc; omega) ?_
      rfl'
      rfl
    · rfl'
      refine ite_F (by simp; unfold M4 at ha hb hc; omega) ?_
      rfl'
      rfl
  · rintro sl rs1 ⟨q, rfl, rfl⟩
    rfl'
    refine we_map (ds := f.marks.map mkD) (es := List.replicate f.marks.length (.bool false)) (own3 (by decide) (by decide) (by decide)) (by simp) (by simp; omega) ?_ ?_ ?_
    · rfl'
      rfl
    · intro i d e hd he
      rw [List.getElem?_map] at hd
      obtain ⟨m, hm, rfl⟩ := Option.map_eq_some_iff.mp hd
      have he : e = .bool false := (List.mem_replicate.mp (List.mem_of_getElem? he)).2
      subst he
      have mo := o4 m (List.mem_of_getElem? hm)
      rfl'
      cases hq : m.last with
      | none =>
        refine ite_F (by simp [optD, isNo]) ?_
        exact ⟨rfl, rfl⟩
      | some l =>
        have : l ≤ 4294967295 := mo.2.2.2.2 l hq
        refine ite_T (by simp [optD, isNo]) ?_
        rfl'
        exact ⟨by simp; omega, rfl⟩
    · rfl'
      refine ⟨List.replicate f.marks.length false, by simp, ?_⟩
      rfl'
      refine ite_F (by simp) ?_
      rfl'
      exact hP
end
end Fw
end
section
set_option Elab.async false
set_option autoImplicit false
set_option linter.all false
set_option maxRecDepth 100000
set_option maxHeartbeats 1000000
/-! P7: frames checked, written. -/
namespace Fw
open PySem PySem.Spec PyProof.Rows L2 Dl Mx
local macro_rules
  | `(tactic| fail) => `(tactic| first
    | with_reducible refine ws_seq ?_
    | with_reducible refine ws_set ?_
    | with_reducible refine ws_ret ?_
    | with_reducible refine ws_if ?_
    | with_reducible refine ws_next ?_
    | with_reducible refine ws_break ?_
    | with_reducible refine ws_cont ?_
    | with_reducible refine ws_drop ?_
    | with_reducible refine ws_retN ?_
    | with_reducible refine ws_par ?_
    | ((with_reducible refine ws_id ?_); (with_reducible apply ws_aug); rfl)
    | ((with_reducible refine ws_id ?_); (with_reducible apply ws_augR); rfl)
    | with_reducible refine ws_asg ?_
    | ((with_reducible refine we_id ?_); (with_reducible apply we_var); rfl)
    | with_reducible refine we_int ?_
    | with_reducible refine we_non ?_
    | with_reducible refine we_bl ?_
    | with_reducible refine we_str ?_
    | with_reducible refine we_ty ?_
    | with_reducible refine we_opI ?_
    | with_reducible refine we_opB ?_
    | with_reducible refine we_opIC ?_
    | with_reducible refine we_eq ?_
    | with_reducible refine we_ne ?_
    | with_reducible refine we_isN ?_
    | with_reducible refine we_notN ?_
    | with_reducible refine we_chainI ?_
    | with_reducible refine we_chainE ?_
    | with_reducible refine we_chain3 ?_
    | with_reducible refine we_neg ?_
    | with_reducible refine we_andV ?_
    | with_reducible refine we_orV ?_
    | with_reducible refine we_notV ?_
    | with_reducible refine we_if ?_
    | with_reducible refine wt_test ?_
    | with_reducible refine wt_B ?_
    | with_reducible refine wt_not ?_
    | with_reducible refine wt_and ?_
    | with_reducible refine wt_or ?_
    | with_reducible refine wt_yes ?_
    | with_reducible refine wa_nil ?_
    | with_reducible refine wa_cons ?_
    | with_reducible refine we_tup ?_
    | with_reducible refine we_ixT ?_
    | with_reducible refine we_ixL ?_
    | with_reducible refine we_len ?_
    | with_reducible refine we_isi ?_
    | with_reducible refine we_isiSq ?_
    | with_reducible refine wg_name ?_
    | with_reducible refine we_slT ?_
    | with_reducible refine we_tuple ?_
    | with_reducible refine we_slL ?_
    | with_reducible refine wo_none ?_
    | with_reducible refine wo_some ?_
    | with_reducible refine we_callP ?_
    | with_reducible refine we_min2 ?_
    | with_reducible refine we_max2 ?_
    | with_reducible refine we_abs ?_
    | with_reducible refine we_all ?_
    | with_reducible refine we_any ?_
    | with_reducible refine we_append ?_
    | with_reducible refine we_extend ?_
    | with_reducible refine we_catL ?_
    | with_reducible refine ws_raise ?_
    | with_reducible refine we_inZ ?_
    | with_reducible refine we_catT ?_
    | with_reducible refine we_in ?_
    | with_reducible refine we_notIn ?_
    | with_reducible refine wg_tup ?_
    | with_reducible refine wgs_cons ?_
    | with_reducible refine wgs_nil ?_
    | with_reducible refine wi_rng1 ?_
    | with_reducible refine wi_rng2 ?_
    | with_reducible refine wi_lst ?_
    | with_reducible refine wi_tup ?_
    | with_reducible refine wi_enT ?_
    | with_reducible refine wi_enL ?_
    | with_reducible refine wi_zpTT ?_
    | with_reducible refine wi_zpTL ?_
    | with_reducible refine we_toInt ?_
    | with_reducible refine we_callPX ?_
    | ((with_reducible refine Rx.ex_id ?_); first
      | with_reducible refine ⟨_, _, rfl, rfl, ?_⟩
      | with_reducible refine ⟨_, _, rfl, .t _, ?_⟩
      | with_reducible refine ⟨_, _, rfl, .l (.d _), ?_⟩
      | with_reducible refine ⟨_, rfl, ?_⟩
      | with_reducible refine ⟨_, _, rfl, ?_⟩
      | refine ⟨_, _, _, rfl, rfl, rfl, ?_⟩
      | refine ⟨[_], rfl, Nat.le_of_ble_eq_true rfl, ?_⟩
      | refine ⟨[_, _], rfl, Nat.le_of_ble_eq_true rfl, ?_⟩
      | refine ⟨[_, _, _], rfl, Nat.le_of_ble_eq_true rfl, ?_⟩
      | refine ⟨[_, _, _, _], rfl, Nat.le_of_ble_eq_true rfl, ?_⟩
      | refine ⟨[_, _, _, _, _], rfl, Nat.le_of_ble_eq_true rfl, ?_⟩
      | refine ⟨[_, _, _, _, _, _], rfl, Nat.le_of_ble_eq_true rfl, ?_⟩
      | refine ⟨[_, _, _, _, _, _, _], rfl, Nat.le_of_ble_eq_true rfl, ?_⟩)
    | ((with_reducible refine Rx.and_id ?_); first
      | refine ⟨⟨_, 0, rfl⟩, ?_⟩
      | refine ⟨rfl, ?_⟩))
  | `(tactic| rfl') => `(tactic| repeat fail)
abbrev d_frame_octets : Dsp := fun xs rs P X => ∃ (s : Setup) (f : Frm), xs = [.d (suD s), .d (frD f)] ∧ s.ok ∧ f.ok s ∧ P (.d (octD (wrFrame s f))) rs
theorem len_frame_octets : Len d_frame_octets 2 := fun _ _ _ _ ⟨_, _, e, _⟩ => by rw [e]; rfl
theorem wrMark_len (m : Mark) (h : m.laid ≤ 100000) : (wrMark m).length ≤ 10 := by
  have h3 := octF_le 3 m.laid (by omega)
  unfold wrMark
  cases m.last with
  | none => simp [digs_len]; exact Nat.le_trans (Nat.add_le_add_left h3 _) (by decide)
  | some l => simp [digs_len]; exact Nat.le_trans (Nat.add_le_add_left (Nat.add_le_add_right h3 _) _) (by decide)
theorem wrSpan_len (s : Span) (h : s.ok) : (wrSpan s).length ≤ 10 := by
  obtain ⟨o1, o2, o3, o4, o5, o6⟩ := h
  unfold wrSpan
  by_cases hc : s.many = 1
  · rw [if_pos hc]
    simp [digs_len]
  · rw [if_neg hc]
    unfold trueOf at o6
    rw [if_neg (by omega)] at o6
    simp only [Bool.and_eq_true, decide_eq_true_eq] at o6
    obtain ⟨q1, q2, q3⟩ := o6
    obtain ⟨r1, r2, r3⟩ := span_rest s o1 o2 o3 o4 o5 hc q1 q2 q3
    have h4 := octF_le 4 _ (show (s.many - 2) * (s.high - s.low).toNat < 256 ^ 4 by omega)
    simp only [List.length_append, digs_len]
    exact Nat.le_trans (Nat.add_le_add_left (Nat.add_le_add_left h4 _) _) (by decide)
theorem idx_at {rs : Rows} {r : Nat × Nat} (h : r ∈ rs) : rs[rs.idxOf r]? = some r := by
  induction rs with
  | nil => cases h
  | cons x rs ih =>
    rw [List.idxOf_cons]
    by_cases e : x = r
    · rw [e]
      simp
    · have h2 : r ∈ rs := by
        rcases List.mem_cons.mp h with h | h
        · exact absurd h.symm e
        · exact h
      rw [beq_eq_false_iff_ne.mpr e]
      exact ih h2
theorem idx_before {rs : Rows} {r z : Nat × Nat} {m : Nat} (h : m < rs.idxOf r) (hz : rs[m]? = some z) : z ≠ r := by
  induction rs generalizing m with
  | nil => cases hz
  | cons x rs ih =>
    rw [List.idxOf_cons] at h
    by_cases e : x = r
    · rw [e] at h
      simp at h
    · rw [beq_eq_false_iff_ne.mpr e] at h
      cases m with
      | zero =>
        cases hz
        exact e
      | succ m => exact ih (Nat.lt_of_succ_lt_succ h) hz
section
variable {P : Program} {w : World} {K : PySem.W.Frag} {mg : Str → Option Value} {base : Heap}
theorem cal_check_frame (A : Fs P K mg) : CalX P w K mg base CX0 10 (fF K ("check_frame", none)) ["setup", "value"] (toSp K (d_check_frame)) := by
  obtain ⟨fd, F⟩ := A.f_check_frame
  obtain ⟨fd_is_cargo, G_is_cargo, p_is_cargo, b_is_cargo⟩ := cal_is_cargo (P := P) (w := w) (base := base) A
  have g_is_cargo := A.g_is_cargo
  obtain ⟨fd_are_marks, G_are_marks, p_are_marks, b_are_marks⟩ := cal_are_marks (P := P) (w := w) (base := base) A
  have g_are_marks := A.g_are_marks
  obtain ⟨fd_is_number, G_is_number, p_is_number, b_is_number⟩ := cal_is_number (P := P) (w := w) (base := base) A
  have g_is_number := A.g_is_number
  obtain ⟨fd_is_sequence, G_is_sequence, p_is_sequence, b_is_sequence⟩ := cal_is_sequence (P := P) (w := w) (base := base) A
  have g_is_sequence := A.g_is_sequence
  obtain ⟨fd_check_setup, G_check_setup, p_check_setup, b_check_setup⟩ := cal_check_setup (P := P) (w := w) (base := base) A
  have g_check_setup := A.g_check_setup
  refine ⟨fd, F.ok sc_check_frame (toSp_len (len_check_frame)) (fun cdv A0 outer s H vs Q E hr h => ⟨_, PSs.nox ((pss_cons (ps_set (i := 2) sc_check_frame.nd rfl (Or.inl rfl) (pe_call G_check_setup (hr.mono (by decide)) rfl g_check_setup p_check_setup b_check_setup .nil passL (pa_cons (pv 0) pa_nil))) (pss_cons (ps_if (PW.pt (pw_or (pt_not (pt_val (pe_call G_is_sequence (hr.mono (by decide)) rfl g_is_sequence p_is_sequence b_is_sequence .nil pass0 (pa_cons (pv 1) pa_nil)))) (pw_or1 (pt_cmpR op_ne (pe_callB call_len_seq (by rfl) A.b_len (by decide +kernel) (pa_cons (pv 1) pa_nil)) pe_int (nomark _))))) (pss_one Rx.ps_dead) pss_nil) (pss_cons (ps_for PassesOwn.never rfl (pi_range1 (by rfl) A.b_range (pa_cons pe_int pa_nil)) (pg_name (i := 3) sc_check_frame.nd rfl (Or.inl rfl)) (pss_one (ps_if (pt_not (pt_val (pe_call G_is_number (hr.mono (by decide)) rfl g_is_number p_is_number b_is_number .nil pass0 (pa_cons (pe_ix ix_tup (pv 1) (pv 3) (fun _ _ => rfl)) pa_nil)))) (pss_one Rx.ps_dead) pss_nil))) (pss_cons (ps_if (pt_not (pt_val (pe_call G_are_marks (hr.mono (by decide)) rfl g_are_marks p_are_marks b_are_marks .nil pass0 (pa_cons (pv 2) (pa_cons (pe_ix ix_tup (pv 1) pe_int (fun _ _ => rfl)) pa_nil))))) (pss_one Rx.ps_dead) pss_nil) (pss_cons (ps_if (pt_not (pt_val (pe_call G_is_cargo (hr.mono (by decide)) rfl g_is_cargo p_is_cargo b_is_cargo .nil pass0 (pa_cons (pv 2) (pa_cons (pe_ix ix_tup (pv 1) pe_int (fun _ _ => rfl)) (pa_cons (pe_ix ix_tup (pv 1) pe_int (fun _ _ => rfl)) pa_nil)))))) (pss_one Rx.ps_dead) pss_nil) (pss_cons (ps_set (i := 4) sc_check_frame.nd rfl (Or.inl rfl) (pe_callTy call_tuple_of (by rfl) A.b_tuple (by decide +kernel) (pa_cons (pe_lc (own := [("mark", 5)]) (g := (gName 5)) (tt := tYes) rfl sc_check_frame.nd (pi_tup (pe_ix ix_tup (pv 1) pe_int (fun _ _ => rfl))) (blkOk_by (N := ["setup", "value", "told", "at", "marks", "mark", "kind", "span"]) (sc := defScope s_check_frame) (by decide +kernel)) (fun _ _ _ _ _ => (pg_name (i := 5) sc_check_frame.nd rfl (Or.inl rfl))) (fun _ _ _ _ _ => pts_nil) (fun _ _ _ _ _ => (pe_callTy (Rx.call_tupleK (K := K) rfl) (by rfl) A.b_tuple (by decide +kernel) (pa_cons (pv 5) pa_nil)))) pa_nil))) (pss_one (ps_ret (pe_op op_catA (pe_callTy call_tuple_of (by rfl) A.b_tuple (by decide +kernel) (pa_cons (pe_slice sl_tupA (pv 1) po_none (po_some pe_int)) pa_nil)) (pe_tup (pa_cons (pv 4) (pa_cons (pe_callTy call_tuple_of (by rfl) A.b_tuple (by decide +kernel) (pa_cons (pe_lc (own := [("kind", 6), ("span", 7)]) (g := (gTup K 2 (gCons (gName 6) (gCons (gName 7) gNil)))) (tt := tYes) rfl sc_check_frame.nd (pi_tup (pe_ix ix_tup (pv 1) pe_int (fun _ _ => rfl))) (blkOk_by (N := ["setup", "value", "told", "at", "marks", "mark", "kind", "span"]) (sc := defScope s_check_frame) (by decide +kernel)) (fun _ _ _ _ _ => (pg_tup (n := 2) rfl (pgs_cons (pg_name (i := 6) sc_check_frame.nd rfl (Or.inl rfl)) (pgs_cons (pg_name (i := 7) sc_check_frame.nd rfl (Or.inl rfl)) pgs_nil)))) (fun _ _ _ _ _ => pts_nil) (fun _ _ _ _ _ => (pe_tup (pa_cons (pv 6) (pa_cons (pe_callTy (Rx.call_tupleK (K := K) rfl) (by rfl) A.b_tuple (by decide +kernel) (pa_cons (pv 7) pa_nil)) pa_nil))))) pa_nil)) pa_nil))))))))))))), to_body h fun W xs rs P hf => ?_⟩), F.kp, F.bindsN fun _ _ _ _ _ _ us hl => match us, hl with | [_, _], _ => rfl⟩
  obtain ⟨s, f, rfl, hs, hf, hP⟩ := hf
  have hff := hf
  obtain ⟨o1, o2, o3, o4, o5, o6⟩ := hf
  obtain ⟨a, b, c, hn⟩ : ∃ a b c, f.nums = [a, b, c] := by
    match hq : f.nums, o1 with
    | [a, b, c], _ => exact ⟨a, b, c, rfl⟩
  have hs6 := hs.2.1
  unfold frD at hP ⊢
  rw [hn] at hP ⊢
  change WS W _ [some (.d (suD s)), some (.d (.tuple [nD a, nD b, nD c, marksD f.marks, .tuple (f.cargo.map itD)])), none, none, none, none, none, none] rs _
  rfl'
  refine .inl ⟨s, rfl, hs, ?_⟩
  rfl'
  refine ite_F rfl ?_
  rfl'
  refine ite_F rfl ?_
  rfl'
  refine ws_for (Iv := fun i sl rs1 => ∃ q, sl = [some (.d (suD s)), some (.d (.tuple [nD a, nD b, nD c, marksD f.marks, .tuple (f.cargo.map itD)])), some (.d (suD s)), q, none, none, none, none] ∧ rs1 = rs) (xs := rgD 0 3) ?_ ?_ ?_
  · rfl'
    exact ⟨by omega, by omega, rfl, none, rfl, rfl⟩
  · rintro i d sl rs1 hd ⟨q, rfl, rfl⟩
    obtain ⟨hi, rfl⟩ := rgD_at hd
    have : i = 0 ∨ i = 1 ∨ i = 2 := by omega
    rcases this with rfl | rfl | rfl
    · rfl'
      refine ite_F (by simp [isNum]) ?_
      rfl'
      rfl
    · rfl'
      refine ite_F (by simp [isNum]) ?_
      rfl'
      rfl
    · rfl'
      refine ite_F (by simp [isNum]) ?_
      rfl'
      rfl
  · rintro sl rs1 ⟨q, rfl, rfl⟩
    rfl'
    refine ⟨hs, o3, o4, ?_⟩
    rfl'
    refine ite_F rfl ?_
    rfl'
    refine ⟨s, f.marks, f.cargo, rfl, hs, o3, o4, o5, o6, ?_⟩
    rfl'
    refine ite_F rfl ?_
    rfl'
    refine we_map (ds := f.marks.map mkD) (es := f.marks.map mkD) (own1 (by decide)) rfl (by simp; omega) ?_ ?_ ?_
    · rfl'
      rfl
    · intro i d e hd he
      rw [hd] at he
      cases he
      obtain ⟨k, hk, rfl⟩ := mapAt hd
      rfl'
      rfl
    · rfl'
      refine we_map (ds := f.cargo.map itD) (es := f.cargo.map itD) (own2 (by decide) (by decide)) rfl (by simp; omega) ?_ ?_ ?_
      · rfl'
        rfl
      · intro i d e hd he
        rw [hd] at he
        cases he
        obtain ⟨k, hk, rfl⟩ := mapAt hd
        rfl'
        rfl
      · rfl'
        exact ⟨(by decide : 5 ≤ 100000), hP⟩
theorem cal_frame_octets (A : Fs P K mg) : CalX P w K mg base CX0 11 (fF K ("frame_octets", none)) ["setup", "frame"] (toSp K (d_frame_octets)) := by
  obtain ⟨fd, F⟩ := A.f_frame_octets
  obtain ⟨t_COUNT_OCTETS, k_COUNT_OCTETS⟩ := A.k_COUNT_OCTETS
  obtain ⟨fd_values_octets, G_values_octets, p_values_octets, b_values_octets⟩ := cal_values_octets (P := P) (w := w) (base := base) A
  have g_values_octets := A.g_values_octets
  obtain ⟨fd_shapes_of, G_shapes_of, p_shapes_of, b_shapes_of⟩ := cal_shapes_of (P := P) (w := w) (base := base) A
  have g_shapes_of := A.g_shapes_of
  obtain ⟨fd_mark_octets, G_mark_octets, p_mark_octets, b_mark_octets⟩ := cal_mark_octets (P := P) (w := w) (base := base) A
  have g_mark_octets := A.g_mark_octets
  obtain ⟨fd_number_octets, G_number_octets, p_number_octets, b_number_octets⟩ := cal_number_octets (P := P) (w := w) (base := base) A
  have g_number_octets := A.g_number_octets
  obtain ⟨fd_look_numbers, G_look_numbers, p_look_numbers, b_look_numbers⟩ := cal_look_numbers (P := P) (w := w) (base := base) A
  have g_look_numbers := A.g_look_numbers
  obtain ⟨fd_check_frame, G_check_frame, p_check_frame, b_check_frame⟩ := cal_check_frame (P := P) (w := w) (base := base) A
  have g_check_frame := A.g_check_frame
  obtain ⟨fd_check_setup, G_check_setup, p_check_setup, b_check_setup⟩ := cal_check_setup (P := P) (w := w) (base := base) A
  have g_check_setup := A.g_check_setup
  refine ⟨fd, F.ok sc_frame_octets (toSp_len (len_frame_octets)) (fun cdv A0 outer s H vs Q E hr h => ⟨_, PSs.nox ((pss_cons (ps_set (i := 2) sc_frame_octets.nd rfl (Or.inl rfl) (pe_call G_check_setup (hr.mono (by decide)) rfl g_check_setup p_check_setup b_check_setup .nil passL (pa_cons (pv 0) pa_nil))) (pss_cons (ps_set (i := 3) sc_frame_octets.nd rfl (Or.inl rfl) (pe_call G_check_frame (hr.mono (by decide)) rfl g_check_frame p_check_frame b_check_frame .nil pass0 (pa_cons (pv 2) (pa_cons (pv 1) pa_nil)))) (pss_cons (ps_expr (pe_call G_look_numbers (hr.mono (by decide)) rfl g_look_numbers p_look_numbers b_look_numbers .nil pass0 (pa_cons (pv 3) pa_nil))) (pss_cons (ps_set (i := 4) sc_frame_octets.nd rfl (Or.inl rfl) (pe_lst pa_nil)) (pss_cons (ps_for PassesOwn.never rfl (pi_range1 (by rfl) A.b_range (pa_cons pe_int pa_nil)) (pg_name (i := 5) sc_frame_octets.nd rfl (Or.inl rfl)) (pss_one (ps_expr (pe_bm PySem.F.plainAttrs_list PySem.F.slot_list_extend PySem.F.type_list_extend mt_extend (pv 4) (pa_cons (pe_call G_number_octets (hr.mono (by decide)) rfl g_number_octets p_number_octets b_number_octets .nil pass0 (pa_cons (pe_ix ix_tup (pv 3) (pv 5) (fun _ _ => rfl)) (pa_cons (pe_glob (v := .int 4) rfl k_COUNT_OCTETS ⟨_, rfl⟩) pa_nil))) pa_nil))))) (pss_cons (ps_for PassesOwn.never rfl (pi_tup (pe_ix ix_tup (pv 3) pe_int (fun _ _ => rfl))) (pg_name (i := 6) sc_frame_octets.nd rfl (Or.inl rfl)) (pss_one (ps_expr (pe_bm PySem.F.plainAttrs_list PySem.F.slot_list_extend PySem.F.type_list_extend mt_extend (pv 4) (pa_cons (pe_call G_mark_octets (hr.mono (by decide)) rfl g_mark_octets p_mark_octets b_mark_octets .nil pass0 (pa_cons (pv 6) pa_nil)) pa_nil))))) (pss_cons (ps_expr (pe_bm PySem.F.plainAttrs_list PySem.F.slot_list_append PySem.F.type_list_append mt_append (pv 4) (pa_cons (pe_callB call_len_seq (by rfl) A.b_len (by decide +kernel) (pa_cons (pe_ix ix_tup (pv 3) pe_int (fun _ _ => rfl)) pa_nil)) pa_nil))) (pss_cons (ps_set (i := 7) sc_frame_octets.nd rfl (Or.inl rfl) (pe_call G_shapes_of (hr.mono (by decide)) rfl g_shapes_of p_shapes_of b_shapes_of .nil pass0 (pa_cons (pv 2) (pa_cons (pe_ix ix_tup (pv 3) pe_int (fun _ _ => rfl)) pa_nil)))) (pss_cons (ps_for PassesOwn.never rfl (pi_tup (pe_ix ix_tup (pv 3) pe_int (fun _ _ => rfl))) (pg_tup (n := 2) rfl (pgs_cons (pg_name (i := 8) sc_frame_octets.nd rfl (Or.inl rfl)) (pgs_cons (pg_name (i := 9) sc_frame_octets.nd rfl (Or.inl rfl)) pgs_nil))) (pss_one (ps_expr (pe_bm PySem.F.plainAttrs_list PySem.F.slot_list_extend PySem.F.type_list_extend mt_extend (pv 4) (pa_cons (pe_op op_cat (pe_lst (pa_cons (pv 8) (pa_cons (Rx.pe_bmZ PySem.F.plainAttrs_tuple PySem.F.slot_tuple_index PySem.F.type_tuple_index (Rx.mt_indexTD (hu65 hr)) (pe_ix ix_tup (pv 7) (pv 8) (fun _ _ => rfl)) (pa_cons (pe_slice sl_tupA (pv 9) po_none (po_some pe_int)) pa_nil)) pa_nil))) (pe_call G_values_octets (hr.mono (by decide)) rfl g_values_octets p_values_octets b_values_octets .nil pass0 (pa_cons (pv 9) pa_nil))) pa_nil))))) (pss_one (ps_ret (pe_callTy call_tuple_of (by rfl) A.b_tuple (by decide +kernel) (pa_cons (pv 4) pa_nil)))))))))))))), to_body h fun W xs rs P hf => ?_⟩), F.kp, F.bindsN fun _ _ _ _ _ _ us hl => match us, hl with | [_, _], _ => rfl⟩
  obtain ⟨s, f, rfl, hs, hf, hP⟩ := hf
  have hff := hf
  obtain ⟨o1, o2, o3, o4, o5, o6⟩ := hf
  obtain ⟨a, b, c, hn⟩ : ∃ a b c, f.nums = [a, b, c] := by
    match hq : f.nums, o1 with
    | [a, b, c], _ => exact ⟨a, b, c, rfl⟩
  have hs6 := hs.2.1
  have hfr : frD f = .tuple [nD a, nD b, nD c, marksD f.marks, .tuple (f.cargo.map itD)] := by
    unfold frD
    rw [hn]
    rfl
  change WS W _ [some (.d (suD s)), some (.d (frD f)), none, none, none, none, none, none, none, none] rs _
  rfl'
  refine .inl ⟨s, rfl, hs, ?_⟩
  rfl'
  refine ⟨hs, hff, ?_⟩
  rfl'
  refine ⟨s, f, rfl, hs, hff, ?_⟩
  rw [hfr]
  rfl'
  refine we_lstR (wa_nil ⟨[], rfl, Nat.zero_le _, fun p => ?_⟩)
  rfl'
  refine ws_for (Iv := fun i sl rs1 => ∃ (q : Option DV) (acc : List Nat), sl = [some (.d (suD s)), some (.d (frD f)), some (.d (suD s)), some (.d (.tuple [nD a, nD b, nD c, marksD f.marks, .tuple (f.cargo.map itD)])), some (.p p), q, none, none, none, none] ∧ rs1 = (p, .lst (acc.map nD)) :: rs ∧ acc.length = 4 * i ∧ acc = ((f.nums.take i).map (digs 4)).flatten) (xs := rgD 0 3) ?_ ?_ ?_
  · rfl'
    exact ⟨by omega, by omega, rfl, none, [], by rw [hfr]; rfl, rfl, rfl, rfl⟩
  · rintro i d sl rs1 hd ⟨q, acc, rfl, rfl, hl, he⟩
    obtain ⟨hi, rfl⟩ := rgD_at hd
    rw [hn] at he ⊢
    have : i = 0 ∨ i = 1 ∨ i = 2 := by omega
    rcases this with rfl | rfl | rfl
    · rfl'
      refine ⟨by decide, .inr ?_⟩
      rfl'
      refine ⟨_, _, 0, rfl, rfl, by rw [List.length_map, List.length_map, digs_len, hl]; decide, ?_⟩
      refine ⟨some (.d (.int (0 + (0 : Nat)))), acc ++ digs 4 a, rfl, by rw [List.map_append]; rfl, by rw [List.length_append, digs_len, hl], ?_⟩
      rw [he]
      simp
    · rfl'
      refine ⟨by decide, .inr ?_⟩
      rfl'
      refine ⟨_, _, 0, rfl, rfl, by rw [List.length_map, List.length_map, digs_len, hl]; decide, ?_⟩
      refine ⟨some (.d (.int (0 + (1 : Nat)))), acc ++ digs 4 b, rfl, by rw [List.map_append]; rfl, by rw [List.length_append, digs_len, hl], ?_⟩
      rw [he]
      simp
    · rfl'
      refine ⟨by decide, .inr ?_⟩
      rfl'
      refine ⟨_, _, 0, rfl, rfl, by rw [List.length_map, List.length_map, digs_len, hl]; decide, ?_⟩
      refine ⟨some (.d (.int (0 + (2 : Nat)))), acc ++ digs 4 c, rfl, by rw [List.map_append]; rfl, by rw [List.length_append, digs_len, hl], ?_⟩
      rw [he]
      simp
  · rintro sl rs1 ⟨q, acc, rfl, rfl, hl, he⟩
    have hl : acc.length = 12 := hl
    have he : acc = (f.nums.map (digs 4)).flatten := by
      rw [hn] at he ⊢
      exact he
    rfl'
    refine ws_for (Iv := fun i sl rs1 => ∃ (q q6 : Option DV) (acc : List Nat), sl = [some (.d (suD s)), some (.d (frD f)), some (.d (suD s)), some (.d (.tuple [nD a, nD b, nD c, marksD f.marks, .tuple (f.cargo.map itD)])), some (.p p), q, q6, none, none, none] ∧ rs1 = (p, .lst (acc.map nD)) :: rs ∧ acc.length ≤ 12 + 10 * i ∧ acc = (f.nums.map (digs 4)).flatten ++ ((f.marks.take i).map wrMark).flatten) (xs := f.marks.map mkD) ?_ ?_ ?_
    · rfl'
      refine ⟨q, none, acc, rfl, rfl, by omega, by rw [he]; simp⟩
    · rintro i d sl rs1 hd ⟨q, q6, acc, rfl, rfl, hl, he⟩
      obtain ⟨m, hm, rfl⟩ := mapAt hd
      have mo := o4 m (List.mem_of_getElem? hm)
      have hi : i < f.marks.length := (List.getElem?_eq_some_iff.mp hm).1
      have wl := wrMark_len m mo.1
      rfl'
      refine ⟨mo.1, ?_⟩
      rfl'
      refine ⟨_, _, 0, rfl, rfl, by rw [List.length_map, List.length_map]; omega, ?_⟩
      refine ⟨q, some (.d (mkD m)), acc ++ wrMark m, rfl, by rw [List.map_append]; rfl, by rw [List.length_append]; omega, ?_⟩
      rw [he, List.take_succ, hm]
      simp
    · rintro sl rs1 ⟨q, q6, acc, rfl, rfl, hl, he⟩
      rw [List.length_map] at hl he
      rw [List.take_length] at he
      rfl'
      refine ⟨_, _, 0, rfl, rfl, by rw [List.length_map]; omega, ?_⟩
      rfl'
      refine ⟨hs, o3, o4, ?_⟩
      rfl'
      refine ws_for (Iv := fun i sl rs1 => ∃ (q8 q9 : Option DV) (acc : List Nat), sl = [some (.d (suD s)), some (.d (frD f)), some (.d (suD s)), some (.d (.tuple [nD a, nD b, nD c, marksD f.marks, .tuple (f.cargo.map itD)])), some (.p p), q, q6, some (.d (abD (shapes s.kinds f.marks))), q8, q9] ∧ rs1 = (p, .lst (acc.map nD)) :: rs ∧ acc.length ≤ 73 + 12 * i ∧ acc = (f.nums.map (digs 4)).flatten ++ (f.marks.map wrMark).flatten ++ [f.cargo.length] ++ ((f.cargo.take i).map (wrItem (shapes s.kinds f.marks))).flatten) (xs := f.cargo.map itD) ?_ ?_ ?_
      · rfl'
        refine ⟨none, none, acc ++ [f.cargo.length], rfl, ?_, by rw [List.length_append]; simp; omega, by rw [he]; simp⟩
        rw [List.map_append]
        simp
      · rintro i d sl rs1 hd ⟨q8, q9, acc, rfl, rfl, hl, he⟩
        obtain ⟨c, hc, rfl⟩ := mapAt hd
        have hi : i < f.cargo.length := (List.getElem?_eq_some_iff.mp hc).1
        obtain ⟨c1, c2, c3⟩ := o6 c (List.mem_of_getElem? hc)
        have wl := wrSpan_len c.2 c3
        rfl'
        refine we_lst ?_
        rfl'
        refine we_indexZ ?_
        rfl'
        have hsl := shapes_len o3
        refine ⟨_, _, shD ((shapes s.kinds f.marks).getD c.1 []), rfl, rfl, atI_nat ?_, ?_⟩
        · rw [List.getElem?_map, List.getElem?_eq_getElem c1, List.getD_eq_getElem?_getD, List.getElem?_eq_getElem c1]
          rfl
        refine ⟨_, rfl, (sh_rows _).s, ?_⟩
        rfl'
        refine ⟨rowD (c.2.first, c.2.many), ((shapes s.kinds f.marks).getD c.1 []).idxOf (c.2.first, c.2.many), rowD (c.2.first, c.2.many), rfl, (sh_row _).s, ?_, ?_, ?_, ?_⟩
        · rw [List.getElem?_map, idx_at c2]
          rfl
        · rw [eqv_row, decide_eq_true rfl]
        · intro m z hm hz
          obtain ⟨r, hr1, rfl⟩ := mapAt hz
          rw [eqv_row, decide_eq_false (idx_before hm hr1)]
        rfl'
        refine ⟨c3, ?_⟩
        rfl'
        refine ⟨_, _, .d _, .d _, by rw [List.length_map]; show 2 + _ ≤ _; omega, ?_⟩
        rfl'
        refine ⟨_, _, 0, rfl, rfl, by rw [List.length_append, List.length_map, List.length_map]; show _ + (2 + _) ≤ _; omega, ?_⟩
        refine ⟨some (.d (nD c.1)), some (.d (spD c.2)), acc ++ wrItem (shapes s.kinds f.marks) c, rfl, ?_, ?_, ?_⟩
        · unfold wrItem
          rw [List.map_append, List.map_append]
          rfl
        · unfold wrItem
          rw [List.length_append, List.length_append]
          show _ + (2 + _) ≤ _
          omega
        · rw [he, List.take_succ, hc]
          simp
      · rintro sl rs1 ⟨q8, q9, acc, rfl, rfl, hl, he⟩
        rw [List.length_map] at hl he
        rw [List.take_length] at he
        refine ws_ret (we_drop (rs2 := rs) ?_)
        rfl'
        refine ⟨_, _, rfl, .l (.p ⟨0, rfl⟩), List.sublist_cons_self _ _, ?_⟩
        rw [he]
        exact hP
end
end Fw
end
section
set_option Elab.async false
set_option autoImplicit false
set_option linter.all false
set_option maxRecDepth 100000
set_option maxHeartbeats 1000000
/-! P8: the reader. -/
namespace Fw
open PySem PySem.Spec PyProof.Rows L2 Dl Mx
local macro_rules
  | `(tactic| fail) => `(tactic| first
    | with_reducible refine ws_seq ?_
    | with_reducible refine ws_set ?_
    | with_reducible refine ws_ret ?_
    | with_reducible refine ws_if ?_
    | with_reducible refine ws_next ?_
    | with_reducible refine ws_break ?_
    | with_reducible refine ws_cont ?_
    | with_reducible refine ws_drop ?_
    | with_reducible refine ws_retN ?_
    | with_reducible refine ws_par ?_
    | ((with_reducible refine ws_id ?_); (with_reducible apply ws_aug); rfl)
    | ((with_reducible refine ws_id ?_); (with_reducible apply ws_augR); rfl)
    | with_reducible refine ws_asg ?_
    | ((with_reducible refine we_id ?_); (with_reducible apply we_var); rfl)
    | with_reducible refine we_int ?_
    | with_reducible refine we_non ?_
    | with_reducible refine we_bl ?_
    | with_reducible refine we_str ?_
    | with_reducible refine we_ty ?_
    | with_reducible refine we_opI ?_
    | with_reducible refine we_opB ?_
    | with_reducible refine we_opIC ?_
    | with_reducible refine we_eq ?_
    | with_reducible refine we_ne ?_
    | with_reducible refine we_isN ?_
    | with_reducible refine we_notN ?_
    | with_reducible refine we_chainI ?_
    | with_reducible refine we_chainE ?_
    | with_reducible refine we_chain3 ?_
    | with_reducible refine we_neg ?_
    | with_reducible refine we_andV ?_
    | with_reducible refine we_orV ?_
    | with_reducible refine we_notV ?_
    | with_reducible refine we_if ?_
    | with_reducible refine wt_test ?_
    | with_reducible refine wt_B ?_
    | with_reducible refine wt_not ?_
    | with_reducible refine wt_and ?_
    | with_reducible refine wt_or ?_
    | with_reducible refine wt_yes ?_
    | with_reducible refine wa_nil ?_
    | with_reducible refine wa_cons ?_
    | with_reducible refine we_tup ?_
    | with_reducible refine we_ixT ?_
    | with_reducible refine we_ixL ?_
    | with_reducible refine we_len ?_
    | with_reducible refine we_isi ?_
    | with_reducible refine we_isiSq ?_
    | with_reducible refine wg_name ?_
    | with_reducible refine we_slT ?_
    | with_reducible refine we_tuple ?_
    | with_reducible refine we_slL ?_
    | with_reducible refine wo_none ?_
    | with_reducible refine wo_some ?_
    | with_reducible refine we_callP ?_
    | with_reducible refine we_min2 ?_
    | with_reducible refine we_max2 ?_
    | with_reducible refine we_abs ?_
    | with_reducible refine we_all ?_
    | with_reducible refine we_any ?_
    | with_reducible refine we_append ?_
    | with_reducible refine we_extend ?_
    | with_reducible refine we_catL ?_
    | with_reducible refine ws_raise ?_
    | with_reducible refine we_inZ ?_
    | with_reducible refine we_catT ?_
    | with_reducible refine we_in ?_
    | with_reducible refine we_notIn ?_
    | with_reducible refine wg_tup ?_
    | with_reducible refine wgs_cons ?_
    | with_reducible refine wgs_nil ?_
    | with_reducible refine wi_rng1 ?_
    | with_reducible refine wi_rng2 ?_
    | with_reducible refine wi_lst ?_
    | with_reducible refine wi_tup ?_
    | with_reducible refine wi_enT ?_
    | with_reducible refine wi_enL ?_
    | with_reducible refine wi_zpTT ?_
    | with_reducible refine wi_zpTL ?_
    | with_reducible refine we_toInt ?_
    | with_reducible refine we_callPX ?_
    | ((with_reducible refine Rx.ex_id ?_); first
      | with_reducible refine ⟨_, _, rfl, rfl, ?_⟩
      | with_reducible refine ⟨_, _, rfl, .t _, ?_⟩
      | with_reducible refine ⟨_, _, rfl, .l (.d _), ?_⟩
      | with_reducible refine ⟨_, rfl, ?_⟩
      | with_reducible refine ⟨_, _, rfl, ?_⟩
      | refine ⟨_, _, _, rfl, rfl, rfl, ?_⟩
      | refine ⟨[_], rfl, Nat.le_of_ble_eq_true rfl, ?_⟩
      | refine ⟨[_, _], rfl, Nat.le_of_ble_eq_true rfl, ?_⟩
      | refine ⟨[_, _, _], rfl, Nat.le_of_ble_eq_true rfl, ?_⟩
      | refine ⟨[_, _, _, _], rfl, Nat.le_of_ble_eq_true rfl, ?_⟩
      | refine ⟨[_, _, _, _, _], rfl, Nat.le_of_ble_eq_true rfl, ?_⟩
      | refine ⟨[_, _, _, _, _, _], rfl, Nat.le_of_ble_eq_true rfl, ?_⟩
      | refine ⟨[_, _, _, _, _, _, _], rfl, Nat.le_of_ble_eq_true rfl, ?_⟩)
    | ((with_reducible refine Rx.and_id ?_); first
      | refine ⟨⟨_, 0, rfl⟩, ?_⟩
      | refine ⟨rfl, ?_⟩))
  | `(tactic| rfl') => `(tactic| repeat fail)
local macro_rules
  | `(tactic| fail) => `(tactic| first
    | with_reducible refine we_fld ?_
    | with_reducible refine we_methX ?_
    | with_reducible refine ws_fld ?_
    | with_reducible refine ws_fldaug ?_
    | ((with_reducible refine Rx.ex_id ?_); first
      | refine ⟨_, _, _, 0, rfl, rfl, by assumption, by assumption, Nat.le_of_ble_eq_true rfl, ?_⟩
      | refine ⟨_, _, _, _, rfl, ⟨0, rfl⟩, by assumption, by assumption, rfl, Nat.le_of_ble_eq_true rfl, ?_⟩
      | refine ⟨_, _, _, _, rfl, ⟨0, rfl⟩, by assumption, by assumption, rfl, ?_⟩
      | refine ⟨_, 0, rfl, rfl, ?_⟩
      | refine ⟨_, _, rfl, ⟨0, rfl⟩, rfl, ?_⟩))
def rF (os : List Nat) (p : Nat) : List (Str × PyData) := [("octets", octD os), ("at", nD p)]
theorem rF_o (os : List Nat) (p : Nat) : (rF os p).lookup ("octets" : Str) = some (octD os) := rfl
theorem rF_a (os : List Nat) (p : Nat) : (rF os p).lookup ("at" : Str) = some (nD p) := rfl
theorem rF_put (os : List Nat) (p : Nat) : putD "at" (.int ((p : Int) + 1)) (rF os p) = rF os (p + 1) := rfl
abbrev rO (K : PySem.W.Frag) (r : Addr) (os : List Nat) (p : Nat) : Addr × Res := (r, .obj (He.ga K "Octets") (rF os p))
def Out {α : Type} (K : PySem.W.Frag) (r : Addr) (os : List Nat) (enc : α → PyData) (P : DV → Rs → Prop) (X : Addr → PyData → Rs → Prop) : Rd α → Prop
  | .err f => ∀ rs', X (He.ga K "Broken") (nD f) rs'
  | .ok v q => P (.d (enc v)) [rO K r os q]
def rdT (os : List Nat) (p hi : Nat) : Rd Nat := match os[p]? with
  | none => .err os.length
  | some o => if o ≤ hi then .ok o (p + 1) else .err p
def rdO (os : List Nat) (p : Nat) (ks : List Nat) : Rd Nat := match os[p]? with
  | none => .err os.length
  | some o => if o ∈ ks then .ok o (p + 1) else .err p
theorem Out.step {α β : Type} {K : PySem.W.Frag} {r : Addr} {os : List Nat} {enc : α → PyData} {enc' : β → PyData} {P P' : DV → Rs → Prop} {X X' : Addr → PyData → Rs → Prop} {x : Rd β} {f : β → Nat → Rd α} (h : Out K r os enc P X (x.bind f)) (hX : ∀ n, (∀ rs', X (He.ga K "Broken") (nD n) rs') → ∀ rs', X' (He.ga K "Broken") (nD n) rs') (hx : ∀ v q, x = .ok v q → Out K r os enc P X (f v q) → P' (.d (enc' v)) [rO K r os q]) : Out K r os enc' P' X' x := by
  cases x with
  | err n => exact hX n h
  | ok v q => exact hx v q rfl h
theorem rdL_step {os ds : List Nat} {q i g found : Nat} {full : Bool} (h : ds[i]? = some g) : rdL os q (ds.drop i) full found = (rdT os q (if full = true then g else 255)).bind fun o q2 => rdL os q2 (ds.drop (i + 1)) (full && decide (o = g)) (found * 256 + o) := by
  obtain ⟨hi, e⟩ := List.getElem?_eq_some_iff.mp h
  rw [List.drop_eq_getElem_cons hi, e]
  rw [rdL]
  unfold rdT
  cases os[q]? with
  | none => rfl
  | some o =>
    dsimp only
    by_cases hc : o ≤ (if full = true then g else 255)
    · rw [if_pos hc, if_pos hc]
      rfl
    · rw [if_neg hc, if_neg hc]
      rfl
abbrev d_Octets___init__ (K : PySem.W.Frag) : Dsp := fun xs rs P X => ∃ (os : List Nat) (p : Nat) (a : Addr), xs = [.p a, .d (octD os), .d (nD p)] ∧ rs = [(a, .obj (He.ga K "Octets") [])] ∧ P (.d .none) [rO K a os p]
theorem len_Octets___init__ (K : PySem.W.Frag) : Len (d_Octets___init__ K) 3 := fun _ _ _ _ ⟨_, _, _, e, _⟩ => by rw [e]; rfl
abbrev d_Octets_take_of (K : PySem.W.Frag) : Dsp := fun xs rs P X => ∃ (os : List Nat) (p : Nat) (r : Addr) (ks : List Nat), xs = [.p r, .d (.list (ks.map nD))] ∧ rs = [rO K r os p] ∧ Out K r os nD P X (rdO os p ks)
theorem len_Octets_take_of (K : PySem.W.Frag) : Len (d_Octets_take_of K) 2 := fun _ _ _ _ ⟨_, _, _, _, e, _⟩ => by rw [e]; rfl
abbrev d_Octets_take (K : PySem.W.Frag) : Dsp := fun xs rs P X => ∃ (os : List Nat) (p : Nat) (r : Addr) (hi : Nat), xs = [.p r, .d (.int 0), .d (nD hi)] ∧ rs = [rO K r os p] ∧ Out K r os nD P X (rdT os p hi)
theorem len_Octets_take (K : PySem.W.Frag) : Len (d_Octets_take K) 3 := fun _ _ _ _ ⟨_, _, _, _, e, _⟩ => by rw [e]; rfl
abbrev d_Octets_take_number (K : PySem.W.Frag) : Dsp := fun xs rs P X => ∃ (os : List Nat) (p : Nat) (r : Addr) (many most : Nat), xs = [.p r, .d (nD many), .d (nD most)] ∧ rs = [rO K r os p] ∧ many ≤ 1000 ∧ Out K r os nD P X (rdN os p many most)
theorem len_Octets_take_number (K : PySem.W.Frag) : Len (d_Octets_take_number K) 3 := fun _ _ _ _ ⟨_, _, _, _, _, e, _⟩ => by rw [e]; rfl
section
variable {P : Program} {w : World} {K : PySem.W.Frag} {mg : Str → Option Value} {base : Heap}
theorem cal_Octets___init__ (A : Fs P K mg) : CalX P w K mg base CX0 1 (fF K ("Octets", some "__init__")) ["self", "octets", "at"] (toSp K (d_Octets___init__ K)) := by
  obtain ⟨fd, F⟩ := A.f_Octets___init__
  have cl1 := A.cl_Octets
  have na1 := A.na_octets
  have na2 := A.na_at
  refine ⟨fd, F.ok sc_Octets___init__ (toSp_len (len_Octets___init__ K)) (fun cdv A0 outer s H vs Q E hr h => ⟨_, PSs.nox ((pss_cons (ps_fld (pv 0) (pv 1) rfl) (pss_one (ps_fld (pv 0) (pv 2) rfl)))), to_body h fun W xs rs P hf => ?_⟩), F.kp, F.bindsN fun _ _ _ _ _ _ us hl => match us, hl with | [_, _, _], _ => rfl⟩
  obtain ⟨os, p, a, rfl, rfl, hP⟩ := hf
  change WS W _ [some (.p a), some (.d (octD os)), some (.d (nD p))] _ _
  rfl'
  exact hP
theorem cal_Octets_take_of (A : Fs P K mg) : CalX P w K mg base (L2.CX P w) 9 (fF K ("Octets", some "take_of")) ["self", "some"] (toSp K (d_Octets_take_of K)) := by
  obtain ⟨fd, F⟩ := A.f_Octets_take_of
  have cl1 := A.cl_Octets
  have na1 := A.na_octets
  have na2 := A.na_at
  refine ⟨fd, F.ok sc_Octets_take_of (toSp_len (len_Octets_take_of K)) (fun cdv A0 outer s H vs Q E hr h => ⟨_, (pss_cons (ps_if (pt_cmpR op_ge (pe_fld (pv 0) rfl) (pe_callB call_len_seq (by rfl) A.b_len (by decide +kernel) (pa_cons (pe_fld (pv 0) rfl) pa_nil)) (nomark _)) (pss_one (Rx.ps_raiseErr rfl A.x_Broken hr (takes_of rfl rfl rfl rfl) (pa_cons (pe_callB call_len_seq (by rfl) A.b_len (by decide +kernel) (pa_cons (pe_fld (pv 0) rfl) pa_nil)) pa_nil))) pss_nil) (pss_cons (ps_if (pt_cmpR op_notIn_seq (pe_ix ix_tup (pe_fld (pv 0) rfl) (pe_fld (pv 0) rfl) (fun _ _ => rfl)) (pv 1) rfl) (pss_one (Rx.ps_raiseErr rfl A.x_Broken hr (takes_of rfl rfl rfl rfl) (pa_cons (pe_fld (pv 0) rfl) pa_nil))) pss_nil) (pss_cons (ps_fldaug (pv 0) pe_int in_add) (pss_one (ps_ret (pe_ix ix_tup (pe_fld (pv 0) rfl) (pe_op op_sub (pe_fld (pv 0) rfl) pe_int) (fun _ _ => rfl))))))), to_body h fun W xs rs P hf => ?_⟩), F.kp, F.bindsN fun _ _ _ _ _ _ us hl => match us, hl with | [_, _], _ => rfl⟩
  obtain ⟨os, p, r, ks, rfl, rfl, hP⟩ := hf
  change WS W _ [some (.p r), some (.d (.list (ks.map nD)))] _ _
  unfold rdO at hP
  rfl'
  cases ho : os[p]? with
  | none =>
    rw [ho] at hP
    dsimp only at hP
    have hl : os.length ≤ p := List.getElem?_eq_none_iff.mp ho
    refine ite_T (by simp; omega) ?_
    rfl'
    rw [List.length_map]
    exact hP _
  | some o =>
    rw [ho] at hP
    dsimp only at hP
    have hl : p < os.length := (List.getElem?_eq_some_iff.mp ho).1
    refine ite_F (by simp; omega) ?_
    rfl'
    have hat : atI (os.map nD) (p : Int) = some (nD o) := atI_nat (by rw [List.getElem?_map, ho]; rfl)
    have hat2 : atI (os.map nD) ((p : Int) + 1 - 1) = some (nD o) := by
      rw [show (p : Int) + 1 - 1 = p by omega]
      exact hat
    refine ⟨_, _, nD o, rfl, rfl, hat, ?_⟩
    rfl'
    refine ⟨_, List.map (fun k : Nat => (k : Int)) ks, rfl, by rw [List.map_map]; rfl, ?_⟩
    rfl'
    have hb : (decide ((o : Int) ∈ List.map (fun k : Nat => (k : Int)) ks)) = decide (o ∈ ks) := by
      rw [Bool.eq_iff_iff]
      simp only [decide_eq_true_eq, List.mem_map]
      constructor
      · rintro ⟨a, ha, e⟩
        have : a = o := by omega
        exact this ▸ ha
      · exact fun h => ⟨o, h, rfl⟩
    rw [hb]
    by_cases hk : o ∈ ks
    · rw [if_pos hk] at hP
      refine ite_F (by simp [hk]) ?_
      rfl'
      refine ⟨_, _, nD o, rfl, rfl, hat2, ?_⟩
      exact hP
    · rw [if_neg hk] at hP
      refine ite_T (by simp [hk]) ?_
      rfl'
      exact hP _
theorem cal_Octets_take (A : Fs P K mg) : CalX P w K mg base (L2.CX P w) 9 (fF K ("Octets", some "take")) ["self", "least", "most"] (toSp K (d_Octets_take K)) := by
  obtain ⟨fd, F⟩ := A.f_Octets_take
  have cl1 := A.cl_Octets
  have na1 := A.na_octets
  have na2 := A.na_at
  refine ⟨fd, F.ok sc_Octets_take (toSp_len (len_Octets_take K)) (fun cdv A0 outer s H vs Q E hr h => ⟨_, (pss_cons (ps_if (pt_cmpR op_ge (pe_fld (pv 0) rfl) (pe_callB call_len_seq (by rfl) A.b_len (by decide +kernel) (pa_cons (pe_fld (pv 0) rfl) pa_nil)) (nomark _)) (pss_one (Rx.ps_raiseErr rfl A.x_Broken hr (takes_of rfl rfl rfl rfl) (pa_cons (pe_callB call_len_seq (by rfl) A.b_len (by decide +kernel) (pa_cons (pe_fld (pv 0) rfl) pa_nil)) pa_nil))) pss_nil) (pss_cons (ps_if (pt_not (pt_chain op_le op_le (pv 1) (pe_ix ix_tup (pe_fld (pv 0) rfl) (pe_fld (pv 0) rfl) (fun _ _ => rfl)) (pv 2))) (pss_one (Rx.ps_raiseErr rfl A.x_Broken hr (takes_of rfl rfl rfl rfl) (pa_cons (pe_fld (pv 0) rfl) pa_nil))) pss_nil) (pss_cons (ps_fldaug (pv 0) pe_int in_add) (pss_one (ps_ret (pe_ix ix_tup (pe_fld (pv 0) rfl) (pe_op op_sub (pe_fld (pv 0) rfl) pe_int) (fun _ _ => rfl))))))), to_body h fun W xs rs P hf => ?_⟩), F.kp, F.bindsN fun _ _ _ _ _ _ us hl => match us, hl with | [_, _, _], _ => rfl⟩
  obtain ⟨os, p, r, hi, rfl, rfl, hP⟩ := hf
  change WS W _ [some (.p r), some (.d (.int 0)), some (.d (nD hi))] _ _
  unfold rdT at hP
  rfl'
  cases ho : os[p]? with
  | none =>
    rw [ho] at hP
    dsimp only at hP
    have hl : os.length ≤ p := List.getElem?_eq_none_iff.mp ho
    refine ite_T (by simp; omega) ?_
    rfl'
    rw [List.length_map]
    exact hP _
  | some o =>
    rw [ho] at hP
    dsimp only at hP
    have hl : p < os.length := (List.getElem?_eq_some_iff.mp ho).1
    refine ite_F (by simp; omega) ?_
    rfl'
    have hat : atI (os.map nD) (p : Int) = some (nD o) := atI_nat (by rw [List.getElem?_map, ho]; rfl)
    have hat2 : atI (os.map nD) ((p : Int) + 1 - 1) = some (nD o) := by
      rw [show (p : Int) + 1 - 1 = p by omega]
      exact hat
    refine ⟨_, _, nD o, rfl, rfl, hat, ?_⟩
    rfl'
    refine ite_T (by simp) ?_
    rfl'
    by_cases hk : o ≤ hi
    · rw [if_pos hk] at hP
      refine ite_F (by simp [hk]) ?_
      rfl'
      refine ⟨_, _, nD o, rfl, rfl, hat2, ?_⟩
      exact hP
    · rw [if_neg hk] at hP
      refine ite_T (by simp; omega) ?_
      rfl'
      exact hP _
theorem cal_Octets_take_number (A : Fs P K mg) : CalX P w K mg base (L2.CX P w) 10 (fF K ("Octets", some "take_number")) ["self", "many", "most"] (toSp K (d_Octets_take_number K)) := by
  obtain ⟨fd, F⟩ := A.f_Octets_take_number
  obtain ⟨t_MOST_OCTET, k_MOST_OCTET⟩ := A.k_MOST_OCTET
  have cl1 := A.cl_Octets
  have na1 := A.na_octets
  have na2 := A.na_at
  obtain ⟨fd_Octets_take, G_Octets_take, p_Octets_take, b_Octets_take⟩ := cal_Octets_take (P := P) (w := w) (base := base) A
  obtain ⟨fd_number_octets, G_number_octets, p_number_octets, b_number_octets⟩ := cal_number_octets (P := P) (w := w) (base := base) A
  have g_number_octets := A.g_number_octets
  refine ⟨fd, F.ok sc_Octets_take_number (toSp_len (len_Octets_take_number K)) (fun cdv A0 outer s H vs Q E hr h => ⟨_, (pss_cons (ps_set (i := 3) sc_Octets_take_number.nd rfl (Or.inl rfl) (pe_call G_number_octets (hr.mono (by decide)) rfl g_number_octets p_number_octets b_number_octets .nil pass0 (pa_cons (pv 2) (pa_cons (pv 1) pa_nil)))) (pss_cons (ps_asg (pe_tup (pa_cons pe_int (pa_cons pe_bl pa_nil))) (pg_tup (n := 2) rfl (pgs_cons (pg_name (i := 4) sc_Octets_take_number.nd rfl (Or.inl rfl)) (pgs_cons (pg_name (i := 5) sc_Octets_take_number.nd rfl (Or.inl rfl)) pgs_nil)))) (pss_cons (ps_for (passes_of rfl) rfl (pi_list (pv 3)) (pg_name (i := 6) sc_Octets_take_number.nd rfl (Or.inl rfl)) (pss_cons (ps_set (i := 7) sc_Octets_take_number.nd rfl (Or.inl rfl) (pe_meth (pv 0) A.cl_Octets A.m_Octets_take G_Octets_take (hr.mono (by decide)) b_Octets_take .nil (passes_call (takes_of rfl rfl rfl rfl) (fun _ _ _ _ h => h)) (pa_cons pe_int (pa_cons (pe_ifExp (pt_val (pv 5)) (pv 6) (pe_op op_sub (pe_glob (v := .int 256) rfl k_MOST_OCTET ⟨_, rfl⟩) pe_int)) pa_nil)))) (pss_cons (ps_set (i := 5) sc_Octets_take_number.nd rfl (Or.inl rfl) (pe_and (pv 5) (pe_one (pe_cmpR op_eq (pv 7) (pv 6) (nomark _))))) (pss_one (ps_set (i := 4) sc_Octets_take_number.nd rfl (Or.inl rfl) (pe_op op_add (pe_op op_mul (pv 4) (pe_glob (v := .int 256) rfl k_MOST_OCTET ⟨_, rfl⟩)) (pv 7))))))) (pss_one (ps_ret (pv 4)))))), to_body h fun W xs rs P hf => ?_⟩), F.kp, F.bindsN fun _ _ _ _ _ _ us hl => match us, hl with | [_, _, _], _ => rfl⟩
  obtain ⟨os, p, r, many, most, rfl, rfl, hm, hP⟩ := hf
  change WS W _ [some (.p r), some (.d (nD many)), some (.d (nD most)), none, none, none, none, none] _ _
  unfold rdN at hP
  have hdl := digs_len many most
  rfl'
  refine ⟨hm, .inr ?_⟩
  rfl'
  refine ws_for (Iv := fun i sl rs1 => ∃ (q : Nat) (found : Nat) (full : Bool) (q6 q7 : Option DV), sl = [some (.p r), some (.d (nD many)), some (.d (nD most)), some (.d (.list ((digs many most).map nD))), some (.d (nD found)), some (.d (.bool full)), q6, q7] ∧ rs1 = [rO K r os q] ∧ Out K r os nD P W.X (rdL os q ((digs many most).drop i) full found)) (xs := (digs many most).map nD) ?_ ?_ ?_
  · rfl'
    exact ⟨p, 0, true, none, none, rfl, rfl, hP⟩
  · rintro i d sl rs1 hd ⟨q, found, full, q6, q7, rfl, rfl, hO⟩
    obtain ⟨g, hg, rfl⟩ := mapAt hd
    rw [rdL_step hg] at hO
    rfl'
    cases full with
    | true =>
      refine ite_T rfl ?_
      rfl'
      refine ⟨[rO K r os q], [], .refl _, os, q, r, g, rfl, rfl, hO.step (fun _ h rs' => h _) fun o q2 _ hO => ?_⟩
      rfl'
      refine ite_T rfl ?_
      rfl'
      refine ⟨.inr ⟨by decide, by decide⟩, ?_⟩
      rfl'
      refine ⟨q2, found * 256 + o, decide (o = g), some (.d (nD g)), some (.d (nD o)), ?_, rfl, hO⟩
      have e1 : deq (nD o) (nD g) = decide (o = g) := by
        rw [Bool.eq_iff_iff]
        simp [deq]
        omega
      have e2 : (found : Int) * 256 + (o : Int) = ((found * 256 + o : Nat) : Int) := by omega
      rw [e1, e2]
      rfl
    | false =>
      refine ite_F rfl ?_
      rfl'
      refine ⟨[rO K r os q], [], .refl _, os, q, r, 255, rfl, rfl, hO.step (fun _ h rs' => h _) fun o q2 _ hO => ?_⟩
      rfl'
      refine ite_F rfl ?_
      rfl'
      refine ⟨.inr ⟨by decide, by decide⟩, ?_⟩
      rfl'
      refine ⟨q2, found * 256 + o, false, some (.d (nD g)), some (.d (nD o)), ?_, rfl, hO⟩
      have e2 : (found : Int) * 256 + (o : Int) = ((found * 256 + o : Nat) : Int) := by omega
      rw [e2]
      rfl
  · rintro sl rs1 ⟨q, found, full, q6, q7, rfl, rfl, hO⟩
    rfl'
    rw [List.length_map, List.drop_length] at hO
    exact hO
end
end Fw
end
section
set_option Elab.async false
set_option autoImplicit false
set_option linter.all false
set_option maxRecDepth 100000
set_option maxHeartbeats 1000000
/-! M3: numbers read. -/
namespace Mx
open PySem Dl
theorem Rd.bind_assoc {α β γ : Type} (x : Rd α) (f : α → Nat → Rd β) (g : β → Nat → Rd γ) : (x.bind f).bind g = x.bind fun v q => (f v q).bind g := by cases x <;> rfl
theorem val_go (ds : List Nat) (a : Nat) : ds.foldl (fun a d => a * 256 + d) a = a * 256 ^ ds.length + val ds := by
  induction ds generalizing a with
  | nil => simp [val]
  | cons d ds ih =>
    unfold val
    rw [List.foldl_cons, List.foldl_cons, ih, ih (0 * 256 + d), List.length_cons, Nat.pow_succ]
    have : a * 256 * 256 ^ ds.length = a * (256 ^ ds.length * 256) := by rw [Nat.mul_assoc, Nat.mul_comm 256]
    rw [Nat.add_mul, this, Nat.zero_mul, Nat.zero_add]
    omega
theorem val_cons (d : Nat) (ds : List Nat) : val (d :: ds) = d * 256 ^ ds.length + val ds := by
  show ds.foldl (fun a d => a * 256 + d) (0 * 256 + d) = _
  rw [val_go, Nat.zero_mul, Nat.zero_add]
theorem val_app (ds : List Nat) (d : Nat) : val (ds ++ [d]) = val ds * 256 + d := by
  unfold val
  rw [List.foldl_append]
  rfl
theorem digs_lt {m n d : Nat} (h : d ∈ digs m n) : d < 256 := by
  induction m generalizing n with
  | zero => cases h
  | succ m ih =>
    unfold digs at h
    rcases List.mem_append.mp h with h | h
    · exact ih h
    · rw [List.mem_singleton.mp h]
      exact Nat.mod_lt _ (by decide)
theorem len_digs (m n : Nat) : (digs m n).length = m := by
  induction m generalizing n with
  | zero => rfl
  | succ m ih => simp [digs, ih]
theorem val_digs {m n : Nat} (h : n < 256 ^ m) : val (digs m n) = n := by
  induction m generalizing n with
  | zero =>
    have : n = 0 := by simpa using h
    rw [this]
    rfl
  | succ m ih =>
    unfold digs
    rw [val_app, ih (by rw [Nat.pow_succ] at h; omega)]
    omega
theorem val_lt {ds : List Nat} (h : ∀ d ∈ ds, d < 256) : val ds < 256 ^ ds.length := by
  induction ds with
  | nil => decide
  | cons d ds ih =>
    rw [val_cons, List.length_cons, Nat.pow_succ]
    have h1 := ih fun x hx => h x (List.mem_cons_of_mem _ hx)
    have h2 : d + 1 ≤ 256 := h d List.mem_cons_self
    have h3 := Nat.mul_le_mul_right (256 ^ ds.length) h2
    rw [Nat.add_mul] at h3
    omega
theorem rdL_free {os ds : List Nat} {p found v q : Nat} (h : rdL os p ds false found = .ok v q) : v < (found + 1) * 256 ^ ds.length := by
  induction ds generalizing p found with
  | nil =>
    cases h
    simp
  | cons g ds ih =>
    rw [rdL] at h
    cases ho : os[p]? with
    | none => rw [ho] at h; cases h
    | some o =>
      rw [ho] at h
      dsimp only at h
      by_cases hc : o ≤ 255
      · rw [if_neg Bool.false_ne_true, if_pos hc] at h
        have h1 := ih h
        rw [List.length_cons, Nat.pow_succ]
        have h2 : found * 256 + o + 1 ≤ (found + 1) * 256 := by omega
        have h3 := Nat.mul_le_mul_right (256 ^ ds.length) h2
        have h4 : (found + 1) * 256 * 256 ^ ds.length = (found + 1) * (256 ^ ds.length * 256) := by rw [Nat.mul_assoc, Nat.mul_comm 256]
        omega
      · rw [if_neg Bool.false_ne_true, if_neg hc] at h
        cases h
theorem rdL_full {os ds : List Nat} {p found v q : Nat} (h : rdL os p ds true found = .ok v q) : v ≤ found * 256 ^ ds.length + val ds := by
  induction ds generalizing p found with
  | nil =>
    cases h
    simp [val]
  | cons g ds ih =>
    rw [rdL] at h
    cases ho : os[p]? with
    | none => rw [ho] at h; cases h
    | some o =>
      rw [ho] at h
      dsimp only at h
      rw [if_pos rfl] at h
      by_cases hc : o ≤ g
      · rw [if_pos hc, Bool.true_and] at h
        rw [val_cons, List.length_cons, Nat.pow_succ]
        have h4 : found * 256 * 256 ^ ds.length = found * (256 ^ ds.length * 256) := by rw [Nat.mul_assoc, Nat.mul_comm 256]
        by_cases he : o = g
        · rw [decide_eq_true he] at h
          have h1 := ih h
          rw [Nat.add_mul] at h1
          rw [he] at h1
          omega
        · rw [decide_eq_false he] at h
          have h1 := rdL_free h
          have h2 : found * 256 + o + 1 ≤ found * 256 + g := by omega
          have h3 := Nat.mul_le_mul_right (256 ^ ds.length) h2
          rw [Nat.add_mul (found * 256) g] at h3
          omega
      · rw [if_neg hc] at h
        cases h
theorem rdN_le {os : List Nat} {p many most v q : Nat} (hm : most < 256 ^ many) (h : rdN os p many most = .ok v q) : v ≤ most := by
  have := rdL_full h
  rw [val_digs hm] at this
  omega
theorem octF_posM {n : Nat} (h : 0 < n) : octF n = 1 + octF (n / 256) := by
  rw [octF, dif_neg (by omega)]
theorem octF_zeroM : octF 0 = 0 := by rw [octF, dif_pos rfl]
theorem octF_leM : ∀ (k n : Nat), n < 256 ^ k → octF n ≤ k
  | 0, n, h => by
    have : n = 0 := by simpa using h
    rw [this, octF_zeroM]
    exact Nat.le_refl _
  | k + 1, n, h => by
    by_cases h0 : n = 0
    · rw [h0, octF_zeroM]
      omega
    · rw [octF_posM (by omega)]
      have := octF_leM k (n / 256) (by rw [Nat.pow_succ] at h; omega)
      omega
theorem octF_lt (n : Nat) : n < 256 ^ octF n := by
  induction n using Nat.strongRecOn with
  | _ n ih =>
    by_cases h : n = 0
    · subst h
      rw [octF_zeroM]
      decide
    · rw [octF_posM (by omega), Nat.add_comm, Nat.pow_succ]
      have := ih (n / 256) (by omega)
      omega
theorem rdRep_all {α : Type} {f : Nat → Rd α} {S : α → Prop} (hf : ∀ p v q, f p = .ok v q → S v) : ∀ (n : Nat) (acc : List α) (p : Nat) (vs : List α) (q : Nat), rdRep f n acc p = .ok vs q → (∀ v ∈ acc, S v) → (∀ v ∈ vs, S v) ∧ vs.length = acc.length + n
  | 0, acc, p, vs, q, h, ha => by
    cases h
    exact ⟨ha, rfl⟩
  | n + 1, acc, p, vs, q, h, ha => by
    have h : (f p).bind (fun v q => rdRep f n (acc ++ [v]) q) = .ok vs q := h
    cases hv : f p with
    | err e => rw [hv] at h; cases h
    | ok v q2 =>
      rw [hv] at h
      have h : rdRep f n (acc ++ [v]) q2 = .ok vs q := h
      have := rdRep_all hf n _ _ _ _ h (fun x hx => by
        rcases List.mem_append.mp hx with hx | hx
        · exact ha x hx
        · rw [List.mem_singleton.mp hx]
          exact hf _ _ _ hv)
      rw [List.length_append] at this
      exact ⟨this.1, by rw [this.2]; show acc.length + 1 + n = acc.length + (n + 1); omega⟩
theorem bind_ok {α β : Type} {x : Rd α} {f : α → Nat → Rd β} {v : β} {q : Nat} (h : x.bind f = .ok v q) : ∃ u p, x = .ok u p ∧ f u p = .ok v q := by
  cases x with
  | err e => cases h
  | ok u p => exact ⟨u, p, rfl, h⟩
def Mark.pre (m : Mark) : Prop := m.laid ≤ 100000 ∧ m.first ≤ m.laid ∧ (m.laid = 0 ↔ m.last = none) ∧ ∀ l, m.last = some l → l ≤ M4
theorem rdMark_pre {os : List Nat} {p : Nat} {m : Mark} {q : Nat} (h : rdMark os p = .ok m q) : m.pre := by
  unfold rdMark at h
  obtain ⟨laid, p1, h1, h⟩ := bind_ok h
  obtain ⟨first, p2, h2, h⟩ := bind_ok h
  have l1 := rdN_le (by decide) h1
  have l2 := rdN_le (octF_lt laid) h2
  by_cases hc : 0 < laid
  · rw [if_pos hc] at h
    obtain ⟨last, p3, h3, h⟩ := bind_ok h
    have l3 := rdN_le (by decide) h3
    cases h
    exact ⟨l1, l2, ⟨fun e => by simp at e; omega, fun e => by cases e⟩, fun l e => by cases e; exact l3⟩
  · rw [if_neg hc] at h
    cases h
    exact ⟨l1, l2, ⟨fun _ => rfl, fun _ => by show laid = 0; omega⟩, fun l e => by cases e⟩
theorem rdHead_ok {su : Setup} {os : List Nat} {p q : Nat} {h : List Nat × List Mark} (e : rdHead su os p = .ok h q) (hf : fits h.2) : h.1.length = 3 ∧ (∀ n ∈ h.1, n ≤ M4) ∧ h.2.length = su.kinds.length ∧ ∀ m ∈ h.2, m.ok := by
  unfold rdHead at e
  obtain ⟨ns, p1, h1, e⟩ := bind_ok e
  obtain ⟨ms, p2, h2, e⟩ := bind_ok e
  cases e
  obtain ⟨a1, a2⟩ := rdRep_all (S := fun n => n ≤ M4) (fun p v q h => rdN_le (by decide) h) _ _ _ _ _ h1 (fun _ h => by cases h)
  obtain ⟨b1, b2⟩ := rdRep_all (S := Mark.pre) (fun p v q h => rdMark_pre h) _ _ _ _ _ h2 (fun _ h => by cases h)
  refine ⟨by simpa using a2, a1, by simpa using b2, fun m hm => ?_⟩
  obtain ⟨c1, c2, c3, c4⟩ := b1 m hm
  exact ⟨c1, c2, hf m hm, c3, c4⟩
theorem rowsOf_snd (xs : List Nat) (f : Nat) : (rowsOf f xs).map (·.2) = xs := by
  induction xs generalizing f with
  | nil => rfl
  | cons x xs ih => simp [rowsOf, ih]
theorem sizes_pws : ∀ k ∈ [2, 3, 4, 8], ∀ n ∈ List.range 41, ∀ s ∈ sizesOf k n, s ∈ pws := by decide +kernel
theorem shp_pws {k f l : Nat} (hk : k ∈ [2, 3, 4, 8]) (hw : l - f ≤ 40) : ∀ x ∈ shp k f l, x.2 ∈ pws := by
  intro x hx
  refine sizes_pws k hk (l - f) (List.mem_range.mpr (by omega)) x.2 ?_
  rw [← rowsOf_snd (sizesOf k (l - f)) f]
  exact List.mem_map.mpr ⟨x, hx, rfl⟩
theorem shapes_pws {su : Setup} {ms : List Mark} (hs : su.ok) (hm : ∀ m ∈ ms, m.ok) : ∀ rows ∈ shapes su.kinds ms, ∀ x ∈ rows, x.2 ∈ pws := by
  intro rows hr
  unfold shapes at hr
  obtain ⟨i, hi⟩ := List.mem_iff_getElem?.mp hr
  rw [List.getElem?_zipWith] at hi
  cases hk : su.kinds[i]? with
  | none => rw [hk] at hi; cases hi
  | some k =>
    cases hm1 : ms[i]? with
    | none => rw [hk, hm1] at hi; cases hi
    | some m =>
      rw [hk, hm1] at hi
      rw [← Option.some.inj hi]
      exact shp_pws (hs.2.2.1 k (List.mem_of_getElem? hk)).2.2.2 (hm m (List.mem_of_getElem? hm1)).2.2.1
end Mx
end
section
set_option Elab.async false
set_option autoImplicit false
set_option linter.all false
set_option maxRecDepth 100000
set_option maxHeartbeats 1000000
/-! P9: marks, spans, cargo read. -/
namespace Fw
open PySem PySem.Spec PyProof.Rows L2 Dl Mx
local macro_rules
  | `(tactic| fail) => `(tactic| first
    | with_reducible refine ws_seq ?_
    | with_reducible refine ws_set ?_
    | with_reducible refine ws_ret ?_
    | with_reducible refine ws_if ?_
    | with_reducible refine ws_next ?_
    | with_reducible refine ws_break ?_
    | with_reducible refine ws_cont ?_
    | with_reducible refine ws_drop ?_
    | with_reducible refine ws_retN ?_
    | with_reducible refine ws_par ?_
    | ((with_reducible refine ws_id ?_); (with_reducible apply ws_aug); rfl)
    | ((with_reducible refine ws_id ?_); (with_reducible apply ws_augR); rfl)
    | with_reducible refine ws_asg ?_
    | ((with_reducible refine we_id ?_); (with_reducible apply we_var); rfl)
    | with_reducible refine we_int ?_
    | with_reducible refine we_non ?_
    | with_reducible refine we_bl ?_
    | with_reducible refine we_str ?_
    | with_reducible refine we_ty ?_
    | with_reducible refine we_opI ?_
    | with_reducible refine we_opB ?_
    | with_reducible refine we_opIC ?_
    | with_reducible refine we_eq ?_
    | with_reducible refine we_ne ?_
    | with_reducible refine we_isN ?_
    | with_reducible refine we_notN ?_
    | with_reducible refine we_chainI ?_
    | with_reducible refine we_chainE ?_
    | with_reducible refine we_chain3 ?_
    | with_reducible refine we_neg ?_
    | with_reducible refine we_andV ?_
    | with_reducible refine we_orV ?_
    | with_reducible refine we_notV ?_
    | with_reducible refine we_if ?_
    | with_reducible refine wt_test ?_
    | with_reducible refine wt_B ?_
    | with_reducible refine wt_not ?_
    | with_reducible refine wt_and ?_
    | with_reducible refine wt_or ?_
    | with_reducible refine wt_yes ?_
    | with_reducible refine wa_nil ?_
    | with_reducible refine wa_cons ?_
    | with_reducible refine we_tup ?_
    | with_reducible refine we_ixT ?_
    | with_reducible refine we_ixL ?_
    | with_reducible refine we_len ?_
    | with_reducible refine we_isi ?_
    | with_reducible refine we_isiSq ?_
    | with_reducible refine wg_name ?_
    | with_reducible refine we_slT ?_
    | with_reducible refine we_tuple ?_
    | with_reducible refine we_slL ?_
    | with_reducible refine wo_none ?_
    | with_reducible refine wo_some ?_
    | with_reducible refine we_callP ?_
    | with_reducible refine we_min2 ?_
    | with_reducible refine we_max2 ?_
    | with_reducible refine we_abs ?_
    | with_reducible refine we_all ?_
    | with_reducible refine we_any ?_
    | with_reducible refine we_append ?_
    | with_reducible refine we_extend ?_
    | with_reducible refine we_catL ?_
    | with_reducible refine ws_raise ?_
    | with_reducible refine we_inZ ?_
    | with_reducible refine we_catT ?_
    | with_reducible refine we_in ?_
    | with_reducible refine we_notIn ?_
    | with_reducible refine wg_tup ?_
    | with_reducible refine wgs_cons ?_
    | with_reducible refine wgs_nil ?_
    | with_reducible refine wi_rng1 ?_
    | with_reducible refine wi_rng2 ?_
    | with_reducible refine wi_lst ?_
    | with_reducible refine wi_tup ?_
    | with_reducible refine wi_enT ?_
    | with_reducible refine wi_enL ?_
    | with_reducible refine wi_zpTT ?_
    | with_reducible refine wi_zpTL ?_
    | with_reducible refine we_toInt ?_
    | with_reducible refine we_callPX ?_
    | ((with_reducible refine Rx.ex_id ?_); first
      | with_reducible refine ⟨_, _, rfl, rfl, ?_⟩
      | with_reducible refine ⟨_, _, rfl, .t _, ?_⟩
      | with_reducible refine ⟨_, _, rfl, .l (.d _), ?_⟩
      | with_reducible refine ⟨_, rfl, ?_⟩
      | with_reducible refine ⟨_, _, rfl, ?_⟩
      | refine ⟨_, _, _, rfl, rfl, rfl, ?_⟩
      | refine ⟨[_], rfl, Nat.le_of_ble_eq_true rfl, ?_⟩
      | refine ⟨[_, _], rfl, Nat.le_of_ble_eq_true rfl, ?_⟩
      | refine ⟨[_, _, _], rfl, Nat.le_of_ble_eq_true rfl, ?_⟩
      | refine ⟨[_, _, _, _], rfl, Nat.le_of_ble_eq_true rfl, ?_⟩
      | refine ⟨[_, _, _, _, _], rfl, Nat.le_of_ble_eq_true rfl, ?_⟩
      | refine ⟨[_, _, _, _, _, _], rfl, Nat.le_of_ble_eq_true rfl, ?_⟩
      | refine ⟨[_, _, _, _, _, _, _], rfl, Nat.le_of_ble_eq_true rfl, ?_⟩)
    | ((with_reducible refine Rx.and_id ?_); first
      | refine ⟨⟨_, 0, rfl⟩, ?_⟩
      | refine ⟨rfl, ?_⟩))
  | `(tactic| rfl') => `(tactic| repeat fail)
local macro_rules
  | `(tactic| fail) => `(tactic| first
    | with_reducible refine we_fld ?_
    | with_reducible refine we_methX ?_
    | with_reducible refine ws_fld ?_
    | with_reducible refine ws_fldaug ?_
    | ((with_reducible refine Rx.ex_id ?_); first
      | refine ⟨_, _, _, 0, rfl, rfl, by assumption, by assumption, Nat.le_of_ble_eq_true rfl, ?_⟩
      | refine ⟨_, _, _, _, rfl, ⟨0, rfl⟩, by assumption, by assumption, rfl, Nat.le_of_ble_eq_true rfl, ?_⟩
      | refine ⟨_, _, _, _, rfl, ⟨0, rfl⟩, by assumption, by assumption, rfl, ?_⟩
      | refine ⟨_, 0, rfl, rfl, ?_⟩
      | refine ⟨_, _, rfl, ⟨0, rfl⟩, rfl, ?_⟩))
local macro_rules
  | `(tactic| fail) => `(tactic| first
    | with_reducible refine we_ixZ (ta := tOp (rIxT _) _ _) ?_
    | ((with_reducible refine we_lenZ ?_); refine wa_cons (we_var rfl (wa_nil ⟨_, rfl, ?_⟩)))
    | with_reducible refine we_lenZ (tr := tCons (tOp (rIxT _) _ _) tNil) ?_)
theorem Out.mk {α : Type} {K : PySem.W.Frag} {r : Addr} {os : List Nat} {enc : α → PyData} {P : DV → Rs → Prop} {X : Addr → PyData → Rs → Prop} {v : α} {q : Nat} (h : P (.d (enc v)) [rO K r os q]) : Out K r os enc P X (.ok v q) := h
theorem keepO_if {n : Nat} {p : Nat → Bool} : keepO ((List.range n).map fun k => if p k = true then some (nD k) else none) = ((List.range n).filter p).map nD := by
  generalize List.range n = l
  induction l with
  | nil => rfl
  | cons k l ih =>
    rw [List.map_cons, List.filter_cons]
    by_cases h : p k = true
    · rw [if_pos h, if_pos h]
      simp only [keepO, ih, List.map_cons]
    · rw [if_neg h, if_neg h]
      simp only [keepO, ih]
theorem rdItem_eq {os : List Nat} {ab : List Rows} {p : Nat} : rdItem os ab (kindsOf ab) p = (rdO os p (kindsOf ab)).bind fun k q => (rdT os q ((ab.getD k []).length - 1)).bind fun j q2 => (rdSpan os ((ab.getD k []).getD j (0, 0)).1 ((ab.getD k []).getD j (0, 0)).2 q2).bind fun s q3 => .ok (k, s) q3 := by
  unfold rdItem rdO
  cases os[p]? with
  | none => rfl
  | some k =>
    dsimp only
    by_cases hk : k ∈ kindsOf ab
    · rw [if_pos hk, if_pos hk]
      have h0 : 0 < (ab.getD k []).length := by
        have := (List.mem_filter.mp hk).2
        simpa using this
      unfold rdT
      dsimp only [Rd.bind]
      cases os[p + 1]? with
      | none => rfl
      | some j =>
        dsimp only
        by_cases hj : j ≤ (ab.getD k []).length - 1
        · have hg : (ab.getD k [])[j]? = some ((ab.getD k []).getD j (0, 0)) := by
            rw [List.getD_eq_getElem?_getD (l := ab.getD k []), List.getElem?_eq_getElem (show j < (ab.getD k []).length by omega)]
            rfl
          rw [if_pos hj, hg]
        · rw [if_neg hj, List.getElem?_eq_none (show (ab.getD k []).length ≤ j by omega)]
    · rw [if_neg hk, if_neg hk]
      rfl
theorem rdCargo_eq {os : List Nat} {ab : List Rows} {p : Nat} : rdCargo os ab p = (rdT os p (if 0 < (kindsOf ab).length then 100 else 0)).bind fun n q => rdRep (rdItem os ab (kindsOf ab)) n [] q := by
  unfold rdCargo rdT
  cases os[p]? with
  | none => rfl
  | some n =>
    dsimp only
    by_cases h : n ≤ (if 0 < (kindsOf ab).length then 100 else 0)
    · rw [if_pos h, if_pos h]
      rfl
    · rw [if_neg h, if_neg h]
      rfl
theorem rdT_le {os : List Nat} {p hi n q : Nat} (h : rdT os p hi = .ok n q) : n ≤ hi := by
  unfold rdT at h
  cases ho : os[p]? with
  | none => rw [ho] at h; cases h
  | some o =>
    rw [ho] at h
    dsimp only at h
    by_cases hc : o ≤ hi
    · rw [if_pos hc] at h
      cases h
      exact hc
    · rw [if_neg hc] at h
      cases h
theorem rdO_mem {os ks : List Nat} {p n q : Nat} (h : rdO os p ks = .ok n q) : n ∈ ks := by
  unfold rdO at h
  cases ho : os[p]? with
  | none => rw [ho] at h; cases h
  | some o =>
    rw [ho] at h
    dsimp only at h
    by_cases hc : o ∈ ks
    · rw [if_pos hc] at h
      cases h
      exact hc
    · rw [if_neg hc] at h
      cases h
abbrev d_Octets_take_mark (K : PySem.W.Frag) : Dsp := fun xs rs P X => ∃ (os : List Nat) (p : Nat) (r : Addr), xs = [.p r] ∧ rs = [rO K r os p] ∧ Out K r os mkD P X (rdMark os p)
theorem len_Octets_take_mark (K : PySem.W.Frag) : Len (d_Octets_take_mark K) 1 := fun _ _ _ _ ⟨_, _, _, e, _⟩ => by rw [e]; rfl
abbrev d_Octets_take_span (K : PySem.W.Frag) : Dsp := fun xs rs P X => ∃ (os : List Nat) (p : Nat) (r : Addr) (first many : Nat), xs = [.p r, .d (nD first), .d (nD many)] ∧ rs = [rO K r os p] ∧ many ∈ pws ∧ Out K r os spD P X (rdSpan os first many p)
theorem len_Octets_take_span (K : PySem.W.Frag) : Len (d_Octets_take_span K) 3 := fun _ _ _ _ ⟨_, _, _, _, _, e, _⟩ => by rw [e]; rfl
def itsD (cs : List (Nat × Span)) : PyData := .tuple (cs.map itD)
abbrev d_Octets_take_cargo (K : PySem.W.Frag) : Dsp := fun xs rs P X => ∃ (os : List Nat) (p : Nat) (r : Addr) (ab : List Rows), xs = [.p r, .d (abD ab)] ∧ rs = [rO K r os p] ∧ ab.length ≤ 6 ∧ (∀ rows ∈ ab, ∀ x ∈ rows, x.2 ∈ pws) ∧ Out K r os itsD P X (rdCargo os ab p)
theorem len_Octets_take_cargo (K : PySem.W.Frag) : Len (d_Octets_take_cargo K) 2 := fun _ _ _ _ ⟨_, _, _, _, e, _⟩ => by rw [e]; rfl
section
variable {P : Program} {w : World} {K : PySem.W.Frag} {mg : Str → Option Value} {base : Heap}
theorem cal_Octets_take_mark (A : Fs P K mg) : CalX P w K mg base (L2.CX P w) 11 (fF K ("Octets", some "take_mark")) ["self"] (toSp K (d_Octets_take_mark K)) := by
  obtain ⟨fd, F⟩ := A.f_Octets_take_mark
  obtain ⟨t_MOST_NUMBER, k_MOST_NUMBER⟩ := A.k_MOST_NUMBER
  obtain ⟨t_COUNT_OCTETS, k_COUNT_OCTETS⟩ := A.k_COUNT_OCTETS
  obtain ⟨t_MOST_LAID, k_MOST_LAID⟩ := A.k_MOST_LAID
  obtain ⟨t_LAID_OCTETS, k_LAID_OCTETS⟩ := A.k_LAID_OCTETS
  have cl1 := A.cl_Octets
  have na1 := A.na_octets
  have na2 := A.na_at
  obtain ⟨fd_Octets_take_number, G_Octets_take_number, p_Octets_take_number, b_Octets_take_number⟩ := cal_Octets_take_number (P := P) (w := w) (base := base) A
  obtain ⟨fd_octets_for, G_octets_for, p_octets_for, b_octets_for⟩ := cal_octets_for (P := P) (w := w) (base := base) A
  have g_octets_for := A.g_octets_for
  refine ⟨fd, F.ok sc_Octets_take_mark (toSp_len (len_Octets_take_mark K)) (fun cdv A0 outer s H vs Q E hr h => ⟨_, (pss_cons (ps_set (i := 1) sc_Octets_take_mark.nd rfl (Or.inl rfl) (pe_meth (pv 0) A.cl_Octets A.m_Octets_take_number G_Octets_take_number (hr.mono (by decide)) b_Octets_take_number .nil (passes_call (takes_of rfl rfl rfl rfl) (fun _ _ _ _ h => h)) (pa_cons (pe_glob (v := .int 3) rfl k_LAID_OCTETS ⟨_, rfl⟩) (pa_cons (pe_glob (v := .int 100000) rfl k_MOST_LAID ⟨_, rfl⟩) pa_nil)))) (pss_cons (ps_set (i := 2) sc_Octets_take_mark.nd rfl (Or.inl rfl) (pe_meth (pv 0) A.cl_Octets A.m_Octets_take_number G_Octets_take_number (hr.mono (by decide)) b_Octets_take_number .nil (passes_call (takes_of rfl rfl rfl rfl) (fun _ _ _ _ h => h)) (pa_cons (pe_call G_octets_for (hr.mono (by decide)) rfl g_octets_for p_octets_for b_octets_for .nil pass0 (pa_cons (pv 1) pa_nil)) (pa_cons (pv 1) pa_nil)))) (pss_one (ps_ret (pe_tup (pa_cons (pv 1) (pa_cons (pv 2) (pa_cons (pe_ifExp (pt_cmpR op_gt (pv 1) pe_int (nomark _)) (pe_meth (pv 0) A.cl_Octets A.m_Octets_take_number G_Octets_take_number (hr.mono (by decide)) b_Octets_take_number .nil (passes_call (takes_of rfl rfl rfl rfl) (fun _ _ _ _ h => h)) (pa_cons (pe_glob (v := .int 4) rfl k_COUNT_OCTETS ⟨_, rfl⟩) (pa_cons (pe_op op_sub (pe_glob (v := .int 4294967296) rfl k_MOST_NUMBER ⟨_, rfl⟩) pe_int) pa_nil))) pe_non) pa_nil)))))))), to_body h fun W xs rs P hf => ?_⟩), F.kp, F.bindsN fun _ _ _ _ _ _ us hl => match us, hl with | [_], _ => rfl⟩
  obtain ⟨os, p, r, rfl, rfl, hP⟩ := hf
  change WS W _ [some (.p r), none, none] _ _
  unfold rdMark at hP
  rfl'
  refine ⟨[rO K r os p], [], .refl _, os, p, r, 3, 100000, rfl, rfl, by decide, hP.step (fun _ h rs' => h _) fun laid q hq hP => ?_⟩
  have hl := rdN_le (by decide) hq
  have h3 := octF_le 3 laid (by omega)
  rfl'
  refine ⟨[rO K r os q], [], .refl _, os, q, r, octF laid, laid, rfl, rfl, Nat.le_trans h3 (by decide), hP.step (fun _ h rs' => h _) fun first q2 hq2 hP => ?_⟩
  rfl'
  refine ite_both (fun hc => ?_) (fun hc => ?_)
  · have hc : 0 < laid := by simpa using hc
    rw [if_pos hc] at hP
    rfl'
    refine ⟨[rO K r os q2], [], .refl _, os, q2, r, 4, M4, rfl, rfl, by decide, hP.step (fun _ h rs' => h _) fun last q3 hq3 hP => ?_⟩
    rfl'
    exact hP
  · have hc : ¬ 0 < laid := by simpa using hc
    rw [if_neg hc] at hP
    rfl'
    exact hP
theorem cal_Octets_take_span (A : Fs P K mg) : CalX P w K mg base (L2.CX P w) 11 (fF K ("Octets", some "take_span")) ["self", "first", "many"] (toSp K (d_Octets_take_span K)) := by
  obtain ⟨fd, F⟩ := A.f_Octets_take_span
  obtain ⟨t_MOST_VALUE, k_MOST_VALUE⟩ := A.k_MOST_VALUE
  obtain ⟨t_VALUE_OCTETS, k_VALUE_OCTETS⟩ := A.k_VALUE_OCTETS
  have cl1 := A.cl_Octets
  have na1 := A.na_octets
  have na2 := A.na_at
  obtain ⟨fd_Octets_take_number, G_Octets_take_number, p_Octets_take_number, b_Octets_take_number⟩ := cal_Octets_take_number (P := P) (w := w) (base := base) A
  obtain ⟨fd_octets_for, G_octets_for, p_octets_for, b_octets_for⟩ := cal_octets_for (P := P) (w := w) (base := base) A
  have g_octets_for := A.g_octets_for
  obtain ⟨fd_most_rest, G_most_rest, p_most_rest, b_most_rest⟩ := cal_most_rest (P := P) (w := w) (base := base) A
  have g_most_rest := A.g_most_rest
  refine ⟨fd, F.ok sc_Octets_take_span (toSp_len (len_Octets_take_span K)) (fun cdv A0 outer s H vs Q E hr h => ⟨_, (pss_cons (ps_set (i := 3) sc_Octets_take_span.nd rfl (Or.inl rfl) (pe_op op_sub (pe_meth (pv 0) A.cl_Octets A.m_Octets_take_number G_Octets_take_number (hr.mono (by decide)) b_Octets_take_number .nil (passes_call (takes_of rfl rfl rfl rfl) (fun _ _ _ _ h => h)) (pa_cons (pe_glob (v := .int 3) rfl k_VALUE_OCTETS ⟨_, rfl⟩) (pa_cons (pe_op op_mul pe_int (pe_glob (v := .int 1000000) rfl k_MOST_VALUE ⟨_, rfl⟩)) pa_nil))) (pe_glob (v := .int 1000000) rfl k_MOST_VALUE ⟨_, rfl⟩))) (pss_cons (ps_if (pt_cmpR op_eq (pv 2) pe_int (nomark _)) (pss_one (ps_ret (pe_tup (pa_cons (pv 1) (pa_cons (pv 2) (pa_cons (pv 3) (pa_cons (pv 3) (pa_cons (pv 3) pa_nil)))))))) pss_nil) (pss_cons (ps_set (i := 4) sc_Octets_take_span.nd rfl (Or.inl rfl) (pe_meth (pv 0) A.cl_Octets A.m_Octets_take_number G_Octets_take_number (hr.mono (by decide)) b_Octets_take_number .nil (passes_call (takes_of rfl rfl rfl rfl) (fun _ _ _ _ h => h)) (pa_cons (pe_glob (v := .int 3) rfl k_VALUE_OCTETS ⟨_, rfl⟩) (pa_cons (pe_op op_sub (pe_glob (v := .int 1000000) rfl k_MOST_VALUE ⟨_, rfl⟩) (pv 3)) pa_nil)))) (pss_cons (ps_set (i := 5) sc_Octets_take_span.nd rfl (Or.inl rfl) (pe_call G_most_rest (hr.mono (by decide)) rfl g_most_rest p_most_rest b_most_rest .nil pass0 (pa_cons (pv 2) (pa_cons (pv 4) pa_nil)))) (pss_cons (ps_set (i := 6) sc_Octets_take_span.nd rfl (Or.inl rfl) (pe_meth (pv 0) A.cl_Octets A.m_Octets_take_number G_Octets_take_number (hr.mono (by decide)) b_Octets_take_number .nil (passes_call (takes_of rfl rfl rfl rfl) (fun _ _ _ _ h => h)) (pa_cons (pe_call G_octets_for (hr.mono (by decide)) rfl g_octets_for p_octets_for b_octets_for .nil pass0 (pa_cons (pv 5) pa_nil)) (pa_cons (pv 5) pa_nil)))) (pss_one (ps_ret (pe_tup (pa_cons (pv 1) (pa_cons (pv 2) (pa_cons (pe_op op_add (pe_op op_add (pe_op op_add (pe_op op_mul (pv 3) (pe_op op_sub (pv 2) pe_int)) (pv 3)) (pv 4)) (pv 6)) (pa_cons (pv 3) (pa_cons (pe_op op_add (pv 3) (pv 4)) pa_nil))))))))))))), to_body h fun W xs rs P hf => ?_⟩), F.kp, F.bindsN fun _ _ _ _ _ _ us hl => match us, hl with | [_, _, _], _ => rfl⟩
  obtain ⟨os, p, r, first, many, rfl, rfl, hm, hP⟩ := hf
  change WS W _ [some (.p r), some (.d (nD first)), some (.d (nD many)), none, none, none, none] _ _
  unfold rdSpan at hP
  have hm2 : 1 ≤ many ∧ many ≤ 32 := by
    generalize many = z at hm
    revert z
    decide
  rfl'
  refine ⟨.inr ⟨by decide, by decide⟩, ?_⟩
  rfl'
  refine ⟨[rO K r os p], [], .refl _, os, p, r, 3, 2000000, rfl, rfl, by decide, hP.step (fun _ h rs' => h _) fun lw q hq hP => ?_⟩
  have hl := rdN_le (by decide) hq
  rfl'
  refine ite_both (fun hc => ?_) (fun hc => ?_)
  · have hc : (many : Int) = 1 := by simpa [deq] using hc
    have hc : many = 1 := by omega
    rw [if_pos hc] at hP
    rfl'
    exact hP
  · have hc : ¬ (many : Int) = 1 := by simpa [deq] using hc
    have hc : ¬ many = 1 := by omega
    rw [if_neg hc] at hP
    rfl'
    have e1 : (1000000 : Int) - ((lw : Int) - 1000000) = ((2000000 - lw : Nat) : Int) := by omega
    refine ⟨[rO K r os q], [], .refl _, os, q, r, 3, 2000000 - lw, by rw [e1]; rfl, rfl, by decide, hP.step (fun _ h rs' => h _) fun h q2 hq2 hP => ?_⟩
    have hh := rdN_le (show 2000000 - lw < 256 ^ 3 by omega) hq2
    rfl'
    refine ⟨by omega, by omega, ?_⟩
    rfl'
    have hb : (many - 2) * h ≤ 30 * 2000000 := Nat.mul_le_mul (by omega) (by omega)
    have h4 := octF_le 4 ((many - 2) * h) (by omega)
    refine ⟨[rO K r os q2], [], .refl _, os, q2, r, octF ((many - 2) * h), (many - 2) * h, rfl, rfl, Nat.le_trans h4 (by decide), hP.step (fun _ h rs' => h _) fun rest q3 hq3 hP => ?_⟩
    rfl'
    have e1 : (many : Int) - 1 = ((many - 1 : Nat) : Int) := by omega
    refine ⟨.inr ⟨by omega, by omega⟩, ?_⟩
    rfl'
    exact hP
theorem cal_Octets_take_cargo (A : Fs P K mg) : CalX P w K mg base (L2.CX P w) 12 (fF K ("Octets", some "take_cargo")) ["self", "aboard"] (toSp K (d_Octets_take_cargo K)) := by
  obtain ⟨fd, F⟩ := A.f_Octets_take_cargo
  obtain ⟨t_MOST_CARGO, k_MOST_CARGO⟩ := A.k_MOST_CARGO
  have cl1 := A.cl_Octets
  have na1 := A.na_octets
  have na2 := A.na_at
  obtain ⟨fd_Octets_take, G_Octets_take, p_Octets_take, b_Octets_take⟩ := cal_Octets_take (P := P) (w := w) (base := base) A
  obtain ⟨fd_Octets_take_span, G_Octets_take_span, p_Octets_take_span, b_Octets_take_span⟩ := cal_Octets_take_span (P := P) (w := w) (base := base) A
  obtain ⟨fd_Octets_take_of, G_Octets_take_of, p_Octets_take_of, b_Octets_take_of⟩ := cal_Octets_take_of (P := P) (w := w) (base := base) A
  refine ⟨fd, F.ok sc_Octets_take_cargo (toSp_len (len_Octets_take_cargo K)) (fun cdv A0 outer s H vs Q E hr h => ⟨_, (pss_cons (ps_setLc (i := 3) (own := [("kind", 2), ("some", 8)]) (g := (gTup K 2 (gCons (gName 2) (gCons (gName 8) gNil)))) rfl sc_Octets_take_cargo.nd rfl rfl (sw_true rfl rfl rfl (by decide +kernel)) (Rx.pi_enumT (by rfl) A.b_enumerate (pa_cons (pv 1) pa_nil)) (blkOk_by (N := ["self", "aboard", "kind", "kinds", "found", "turn", "first", "many", "some"]) (sc := defScope s_Octets_take_cargo) (by decide +kernel)) (fun _ _ _ _ _ => (pg_tup (n := 2) rfl (pgs_cons (pg_name (i := 2) sc_Octets_take_cargo.nd rfl (Or.inl rfl)) (pgs_cons (pg_name (i := 8) sc_Octets_take_cargo.nd rfl (Or.inl rfl)) pgs_nil)))) (fun _ _ _ _ _ => (pts_one (pt_cmpR op_gt (pe_callB (Rx.call_lenK (K := K) rfl) (by rfl) A.b_len (by decide +kernel) (pa_cons (pv 8) pa_nil)) pe_int (nomark _)))) (fun _ _ _ _ _ => (pv 2))) (pss_cons (ps_set (i := 4) sc_Octets_take_cargo.nd rfl (Or.inl rfl) (pe_lst pa_nil)) (pss_cons (ps_for (passes_of rfl) rfl (pi_range1 (by rfl) A.b_range (pa_cons (pe_meth (pv 0) A.cl_Octets A.m_Octets_take G_Octets_take (hr.mono (by decide)) b_Octets_take .nil (passes_call (takes_of rfl rfl rfl rfl) (fun _ _ _ _ h => h)) (pa_cons pe_int (pa_cons (pe_ifExp (pt_cmpR op_gt (pe_callB call_len_seq (by rfl) A.b_len (by decide +kernel) (pa_cons (pv 3) pa_nil)) pe_int (nomark _)) (pe_glob (v := .int 100) rfl k_MOST_CARGO ⟨_, rfl⟩) pe_int) pa_nil))) pa_nil)) (pg_name (i := 5) sc_Octets_take_cargo.nd rfl (Or.inl rfl)) (pss_cons (ps_set (i := 2) sc_Octets_take_cargo.nd rfl (Or.inl rfl) (pe_meth (pv 0) A.cl_Octets A.m_Octets_take_of G_Octets_take_of (hr.mono (by decide)) b_Octets_take_of .nil (passes_call (takes_of rfl rfl rfl rfl) (fun _ _ _ _ h => h)) (pa_cons (pv 3) pa_nil))) (pss_cons (ps_asg (pe_ix ix_tup (pe_ix ix_tup (pv 1) (pv 2) (fun _ _ => rfl)) (pe_meth (pv 0) A.cl_Octets A.m_Octets_take G_Octets_take (hr.mono (by decide)) b_Octets_take .nil (passes_call (takes_of rfl rfl rfl rfl) (fun _ _ _ _ h => h)) (pa_cons pe_int (pa_cons (pe_op op_sub (pe_callB call_len_seq (by rfl) A.b_len (by decide +kernel) (pa_cons (pe_ix ix_tup (pv 1) (pv 2) (fun _ _ => rfl)) pa_nil)) pe_int) pa_nil))) (fun _ _ => rfl)) (pg_tup (n := 2) rfl (pgs_cons (pg_name (i := 6) sc_Octets_take_cargo.nd rfl (Or.inl rfl)) (pgs_cons (pg_name (i := 7) sc_Octets_take_cargo.nd rfl (Or.inl rfl)) pgs_nil)))) (pss_one (ps_expr (pe_bm PySem.F.plainAttrs_list PySem.F.slot_list_append PySem.F.type_list_append mt_append (pv 4) (pa_cons (pe_tup (pa_cons (pv 2) (pa_cons (pe_meth (pv 0) A.cl_Octets A.m_Octets_take_span G_Octets_take_span (hr.mono (by decide)) b_Octets_take_span .nil (passes_call (takes_of rfl rfl rfl rfl) (fun _ _ _ _ h => h)) (pa_cons (pv 6) (pa_cons (pv 7) pa_nil))) pa_nil))) pa_nil))))))) (pss_one (ps_ret (pe_callTy call_tuple_of (by rfl) A.b_tuple (by decide +kernel) (pa_cons (pv 4) pa_nil))))))), to_body h fun W xs rs P hf => ?_⟩), F.kp, F.bindsN fun _ _ _ _ _ _ us hl => match us, hl with | [_, _], _ => rfl⟩
  obtain ⟨os, p, r, ab, rfl, rfl, hl, hp, hP⟩ := hf
  change WS W _ [some (.p r), some (.d (abD ab)), none, none, none, none, none, none, none] _ _
  rfl'
  refine we_fm (ds := enD (ab.map shD)) (es := (List.range ab.length).map fun k => if 0 < (ab.getD k []).length then some (nD k) else none) (own2 (by decide) (by decide)) (by simp [enD_len]) (by rw [enD_len, List.length_map]; omega) ?_ ?_ ?_
  · rfl'
    rfl
  · rintro i d o hd ho
    obtain ⟨x, hx, rfl⟩ := enD_at hd
    obtain ⟨rows, hr1, rfl⟩ := mapAt hx
    have hi : i < ab.length := (List.getElem?_eq_some_iff.mp hr1).1
    rfl'
    have ho : o = if 0 < rows.length then some (nD i) else none := by
      rw [List.getElem?_map, List.getElem?_range hi] at ho
      rw [← Option.some.inj ho]
      show (if 0 < (ab.getD i []).length then some (nD i) else none) = _
      rw [List.getD_eq_getElem?_getD, hr1]
      rfl
    by_cases hc : 0 < rows.length
    · rw [if_pos hc] at ho
      subst ho
      refine ⟨by rw [List.length_map, decide_eq_true_eq]; omega, ?_⟩
      rfl'
      rfl
    · rw [if_neg hc] at ho
      subst ho
      exact ⟨by rw [List.length_map, decide_eq_false_iff_not]; omega, rfl⟩
  · have hk : keepO ((List.range ab.length).map fun k => if 0 < (ab.getD k []).length then some (nD k) else none) = (kindsOf ab).map nD := by
      rw [kindsOf, ← keepO_if]
      simp only [decide_eq_true_eq]
    rw [hk]
    have hkl : (kindsOf ab).length ≤ 6 := Nat.le_trans (List.length_filter_le _ _) (by rw [List.length_range]; exact hl)
    rfl'
    refine we_lstR (wa_nil ⟨[], rfl, Nat.zero_le _, fun a => ?_⟩)
    rfl'
    rw [rdCargo_eq] at hP
    have hkc : ∀ {T : Nat}, T = (if 0 < (kindsOf ab).length then 100 else 0) → T ≤ 100 := by
      intro T h
      split at h <;> omega
    cases hr : rdT os p (if 0 < (kindsOf ab).length then 100 else 0) with
    | err f =>
      rw [hr] at hP
      refine ws_for (Iv := fun _ _ _ => False) (xs := []) ?_ (fun _ _ _ _ _ h => h.elim) (fun _ _ h => h.elim)
      rfl'
      refine ⟨r, _, rfl, ⟨1, rfl⟩, rfl, ?_⟩
      rfl'
      refine ite_both (fun hc => ?_) (fun hc => ?_)
      · have hk : 0 < (kindsOf ab).length := by
          have := of_decide_eq_true hc
          rw [List.length_map] at this
          omega
        rw [if_pos hk] at hr
        rfl'
        refine ⟨[rO K r os p], [(a, .lst [])], List.Perm.swap _ _ _, os, p, r, 100, rfl, rfl, ?_⟩
        rw [hr]
        exact fun _ => hP _
      · have hk : ¬ 0 < (kindsOf ab).length := by
          have := of_decide_eq_false hc
          rw [List.length_map] at this
          omega
        rw [if_neg hk] at hr
        rfl'
        refine ⟨[rO K r os p], [(a, .lst [])], List.Perm.swap _ _ _, os, p, r, 0, rfl, rfl, ?_⟩
        rw [hr]
        exact fun _ => hP _
    | ok n q =>
      have hn := rdT_le hr
      have hn := hkc rfl |> Nat.le_trans hn
      rw [hr] at hP
      refine ws_for (Iv := fun i sl rs1 => ∃ (q : Nat) (acc : List (Nat × Span)) (q2 q5 q6 q7 q8 : Option DV), sl = [some (.p r), some (.d (abD ab)), q2, some (.d (.list ((kindsOf ab).map nD))), some (.p a), q5, q6, q7, q8] ∧ rs1 = [rO K r os q, (a, .lst (acc.map itD))] ∧ acc.length = i ∧ Out K r os itsD P W.X (rdRep (rdItem os ab (kindsOf ab)) (n - i) acc q)) (xs := rgD 0 n) ?_ ?_ ?_
      · rfl'
        refine ⟨r, _, rfl, ⟨1, rfl⟩, rfl, ?_⟩
        rfl'
        refine ite_both (fun hc => ?_) (fun hc => ?_)
        · have hk : 0 < (kindsOf ab).length := by
            have := of_decide_eq_true hc
            rw [List.length_map] at this
            omega
          rw [if_pos hk] at hr
          rfl'
          refine ⟨[rO K r os p], [(a, .lst [])], List.Perm.swap _ _ _, os, p, r, 100, rfl, rfl, ?_⟩
          rw [hr]
          refine Out.mk ?_
          rfl'
          refine ⟨by omega, by omega, rfl, q, [], none, none, none, none, none, rfl, rfl, rfl, hP⟩
        · have hk : ¬ 0 < (kindsOf ab).length := by
            have := of_decide_eq_false hc
            rw [List.length_map] at this
            omega
          rw [if_neg hk] at hr
          rfl'
          refine ⟨[rO K r os p], [(a, .lst [])], List.Perm.swap _ _ _, os, p, r, 0, rfl, rfl, ?_⟩
          rw [hr]
          refine Out.mk ?_
          rfl'
          refine ⟨by omega, by omega, rfl, q, [], none, none, none, none, none, rfl, rfl, rfl, hP⟩
      · rintro i d sl rs1 hd ⟨q, acc, q2, q5, q6, q7, q8, rfl, rfl, hl, hO⟩
        obtain ⟨hi, rfl⟩ := rgD_at hd
        have e1 : n - i = (n - (i + 1)) + 1 := by omega
        rw [e1] at hO
        have hO : Out K r os itsD P W.X ((rdItem os ab (kindsOf ab) q).bind fun v q2 => rdRep (rdItem os ab (kindsOf ab)) (n - (i + 1)) (acc ++ [v]) q2) := hO
        rw [rdItem_eq, Rd.bind_assoc] at hO
        rfl'
        refine ⟨[rO K r os q], _, .refl _, os, q, r, kindsOf ab, rfl, rfl, hO.step (fun _ h rs' => h _) fun k p1 hk hO => ?_⟩
        have hk := rdO_mem hk
        obtain ⟨hk1, hk2⟩ := List.mem_filter.mp hk
        have hk1 : k < ab.length := List.mem_range.mp hk1
        have hk2 : 0 < (ab.getD k []).length := of_decide_eq_true hk2
        have hat : atI (ab.map shD) (k : Int) = some (shD (ab.getD k [])) := atI_nat (by
          rw [List.getElem?_map, List.getD_eq_getElem?_getD, List.getElem?_eq_getElem hk1]
          rfl)
        rw [Rd.bind_assoc] at hO
        rfl'
        refine ⟨_, _, shD (ab.getD k []), rfl, rfl, hat, ?_⟩
        rfl'
        refine ⟨_, _, shD (ab.getD k []), rfl, rfl, hat, ?_⟩
        rfl'
        have e2 : (((ab.getD k []).map rowD).length : Int) - 1 = (((ab.getD k []).length - 1 : Nat) : Int) := by
          rw [List.length_map]
          omega
        refine ⟨[rO K r os p1], _, .refl _, os, p1, r, (ab.getD k []).length - 1, by rw [e2], rfl, hO.step (fun _ h rs' => h _) fun j p2 hj hO => ?_⟩
        have hj := rdT_le hj
        have hj2 : j < (ab.getD k []).length := by omega
        have hg : (ab.getD k [])[j]? = some ((ab.getD k []).getD j (0, 0)) := by
          rw [List.getD_eq_getElem?_getD (l := ab.getD k []), List.getElem?_eq_getElem hj2]
          rfl
        have hp2 := hp (ab.getD k []) (by
          rw [List.getD_eq_getElem?_getD, List.getElem?_eq_getElem hk1]
          exact List.getElem_mem hk1) _ (List.mem_of_getElem? hg)
        generalize (ab.getD k []).getD j (0, 0) = w1 at hg hp2 hO
        rw [Rd.bind_assoc] at hO
        rfl'
        refine ⟨_, _, rowD w1, rfl, rfl, atI_nat (by rw [List.getElem?_map, hg]; rfl), ?_⟩
        rfl'
        refine ⟨⟨_, 1, rfl⟩, ?_⟩
        rfl'
        refine ⟨[rO K r os p2], _, .refl _, os, p2, r, w1.1, w1.2, rfl, rfl, hp2, hO.step (fun _ h rs' => h _) fun s q hs hO => ?_⟩
        rfl'
        refine ⟨_, _, 1, rfl, rfl, by rw [List.length_map]; omega, ?_⟩
        refine ⟨q, acc ++ [(k, s)], some (.d (nD k)), some (.d (.int (0 + (i : Nat)))), some (.d (nD w1.1)), some (.d (nD w1.2)), q8, rfl, ?_, by rw [List.length_append, hl]; rfl, hO⟩
        rw [List.map_append]
        rfl
      · rintro sl rs1 ⟨q, acc, q2, q5, q6, q7, q8, rfl, rfl, hl, hO⟩
        rw [rgD_len] at hl hO
        rw [Nat.sub_self] at hO
        refine ws_ret (we_drop (rs2 := [rO K r os q]) ?_)
        rfl'
        refine ⟨_, _, rfl, .l (.p ⟨1, rfl⟩), List.Sublist.cons_cons _ (List.nil_sublist _), hO⟩
end
end Fw
end
section
set_option Elab.async false
set_option autoImplicit false
set_option linter.all false
set_option maxRecDepth 100000
set_option maxHeartbeats 1000000
/-! P10: octets told, frames read. -/
namespace Fw
open PySem PySem.Spec PyProof.Rows L2 Dl Mx
local macro_rules
  | `(tactic| fail) => `(tactic| first
    | with_reducible refine ws_seq ?_
    | with_reducible refine ws_set ?_
    | with_reducible refine ws_ret ?_
    | with_reducible refine ws_if ?_
    | with_reducible refine ws_next ?_
    | with_reducible refine ws_break ?_
    | with_reducible refine ws_cont ?_
    | with_reducible refine ws_drop ?_
    | with_reducible refine ws_retN ?_
    | with_reducible refine ws_par ?_
    | ((with_reducible refine ws_id ?_); (with_reducible apply ws_aug); rfl)
    | ((with_reducible refine ws_id ?_); (with_reducible apply ws_augR); rfl)
    | with_reducible refine ws_asg ?_
    | ((with_reducible refine we_id ?_); (with_reducible apply we_var); rfl)
    | with_reducible refine we_int ?_
    | with_reducible refine we_non ?_
    | with_reducible refine we_bl ?_
    | with_reducible refine we_str ?_
    | with_reducible refine we_ty ?_
    | with_reducible refine we_opI ?_
    | with_reducible refine we_opB ?_
    | with_reducible refine we_opIC ?_
    | with_reducible refine we_eq ?_
    | with_reducible refine we_ne ?_
    | with_reducible refine we_isN ?_
    | with_reducible refine we_notN ?_
    | with_reducible refine we_chainI ?_
    | with_reducible refine we_chainE ?_
    | with_reducible refine we_chain3 ?_
    | with_reducible refine we_neg ?_
    | with_reducible refine we_andV ?_
    | with_reducible refine we_orV ?_
    | with_reducible refine we_notV ?_
    | with_reducible refine we_if ?_
    | with_reducible refine wt_test ?_
    | with_reducible refine wt_B ?_
    | with_reducible refine wt_not ?_
    | with_reducible refine wt_and ?_
    | with_reducible refine wt_or ?_
    | with_reducible refine wt_yes ?_
    | with_reducible refine wa_nil ?_
    | with_reducible refine wa_cons ?_
    | with_reducible refine we_tup ?_
    | with_reducible refine we_ixT ?_
    | with_reducible refine we_ixL ?_
    | with_reducible refine we_len ?_
    | with_reducible refine we_isi ?_
    | with_reducible refine we_isiSq ?_
    | with_reducible refine wg_name ?_
    | with_reducible refine we_slT ?_
    | with_reducible refine we_tuple ?_
    | with_reducible refine we_slL ?_
    | with_reducible refine wo_none ?_
    | with_reducible refine wo_some ?_
    | with_reducible refine we_callP ?_
    | with_reducible refine we_min2 ?_
    | with_reducible refine we_max2 ?_
    | with_reducible refine we_abs ?_
    | with_reducible refine we_all ?_
    | with_reducible refine we_any ?_
    | with_reducible refine we_append ?_
    | with_reducible refine we_extend ?_
    | with_reducible refine we_catL ?_
    | with_reducible refine ws_raise ?_
    | with_reducible refine we_inZ ?_
    | with_reducible refine we_catT ?_
    | with_reducible refine we_in ?_
    | with_reducible refine we_notIn ?_
    | with_reducible refine wg_tup ?_
    | with_reducible refine wgs_cons ?_
    | with_reducible refine wgs_nil ?_
    | with_reducible refine wi_rng1 ?_
    | with_reducible refine wi_rng2 ?_
    | with_reducible refine wi_lst ?_
    | with_reducible refine wi_tup ?_
    | with_reducible refine wi_enT ?_
    | with_reducible refine wi_enL ?_
    | with_reducible refine wi_zpTT ?_
    | with_reducible refine wi_zpTL ?_
    | with_reducible refine we_toInt ?_
    | with_reducible refine we_callPX ?_
    | ((with_reducible refine Rx.ex_id ?_); first
      | with_reducible refine ⟨_, _, rfl, rfl, ?_⟩
      | with_reducible refine ⟨_, _, rfl, .t _, ?_⟩
      | with_reducible refine ⟨_, _, rfl, .l (.d _), ?_⟩
      | with_reducible refine ⟨_, rfl, ?_⟩
      | with_reducible refine ⟨_, _, rfl, ?_⟩
      | refine ⟨_, _, _, rfl, rfl, rfl, ?_⟩
      | refine ⟨[_], rfl, Nat.le_of_ble_eq_true rfl, ?_⟩
      | refine ⟨[_, _], rfl, Nat.le_of_ble_eq_true rfl, ?_⟩
      | refine ⟨[_, _, _], rfl, Nat.le_of_ble_eq_true rfl, ?_⟩
      | refine ⟨[_, _, _, _], rfl, Nat.le_of_ble_eq_true rfl, ?_⟩
      | refine ⟨[_, _, _, _, _], rfl, Nat.le_of_ble_eq_true rfl, ?_⟩
      | refine ⟨[_, _, _, _, _, _], rfl, Nat.le_of_ble_eq_true rfl, ?_⟩
      | refine ⟨[_, _, _, _, _, _, _], rfl, Nat.le_of_ble_eq_true rfl, ?_⟩)
    | ((with_reducible refine Rx.and_id ?_); first
      | refine ⟨⟨_, 0, rfl⟩, ?_⟩
      | refine ⟨rfl, ?_⟩))
  | `(tactic| rfl') => `(tactic| repeat fail)
local macro_rules
  | `(tactic| fail) => `(tactic| first
    | with_reducible refine we_fld ?_
    | with_reducible refine we_methX ?_
    | with_reducible refine ws_fld ?_
    | with_reducible refine ws_fldaug ?_
    | ((with_reducible refine Rx.ex_id ?_); first
      | refine ⟨_, _, _, 0, rfl, rfl, by assumption, by assumption, Nat.le_of_ble_eq_true rfl, ?_⟩
      | refine ⟨_, _, _, _, rfl, ⟨0, rfl⟩, by assumption, by assumption, rfl, Nat.le_of_ble_eq_true rfl, ?_⟩
      | refine ⟨_, _, _, _, rfl, ⟨0, rfl⟩, by assumption, by assumption, rfl, ?_⟩
      | refine ⟨_, 0, rfl, rfl, ?_⟩
      | refine ⟨_, _, rfl, ⟨0, rfl⟩, rfl, ?_⟩))
def OutG {α : Type} (K : PySem.W.Frag) (X : Addr → PyData → Rs → Prop) (c : α → Nat → Prop) : Rd α → Prop
  | .err f => ∀ rs', X (He.ga K "Broken") (nD f) rs'
  | .ok v q => c v q
theorem OutG.step {α β : Type} {K : PySem.W.Frag} {r : Addr} {os : List Nat} {c : α → Nat → Prop} {enc' : β → PyData} {P' : DV → Rs → Prop} {X X' : Addr → PyData → Rs → Prop} {x : Rd β} {f : β → Nat → Rd α} (h : OutG K X c (x.bind f)) (hX : ∀ n, (∀ rs', X (He.ga K "Broken") (nD n) rs') → ∀ rs', X' (He.ga K "Broken") (nD n) rs') (hx : ∀ v q, x = .ok v q → OutG K X c (f v q) → P' (.d (enc' v)) [rO K r os q]) : Out K r os enc' P' X' x := by
  cases x with
  | err n => exact hX n h
  | ok v q => exact hx v q rfl h
def octs (os : List Nat) : Prop := ∀ o ∈ os, o < 256
abbrev badD (os : List Nat) (bad : PyData) : PyData := .tuple (os.map nD ++ [bad])
abbrev d_need_octets (K : PySem.W.Frag) : Dsp := fun xs rs P X => (∃ os : List Nat, xs = [.d (octD os)] ∧ octs os ∧ P (.d (octD os)) rs) ∨ (∃ (os : List Nat) (bad : PyData), xs = [.d (badD os bad)] ∧ octs os ∧ isBelow bad 256 = false ∧ ∀ rs', X (He.ga K "BadOctets") (nD os.length) rs')
theorem len_need_octets (K : PySem.W.Frag) : Len (d_need_octets K) 1 := fun _ _ _ _ h => by
  rcases h with ⟨_, e, _⟩ | ⟨_, _, e, _⟩ <;> rw [e] <;> rfl
abbrev d_octets_from (K : PySem.W.Frag) : Dsp := fun xs rs P X => (∃ (os : List Nat) (p : Nat), xs = [.d (octD os), .d (nD p)] ∧ octs os ∧ ∀ a, P (.p a) (rO K a os p :: rs)) ∨ (∃ (os : List Nat) (bad d : PyData), xs = [.d (badD os bad), .d d] ∧ octs os ∧ isBelow bad 256 = false ∧ ∀ rs', X (He.ga K "BadOctets") (nD os.length) rs') ∨ (∃ (os : List Nat) (odd : PyData), xs = [.d (octD os), .d odd] ∧ octs os ∧ isNum odd = false ∧ ∀ rs', X (He.ga K "Refused") odd rs')
theorem len_octets_from (K : PySem.W.Frag) : Len (d_octets_from K) 2 := fun _ _ _ _ h => by
  rcases h with ⟨_, _, e, _⟩ | ⟨_, _, _, e, _⟩ | ⟨_, _, e, _⟩ <;> rw [e] <;> rfl
abbrev d_frame_at (K : PySem.W.Frag) : Dsp := fun xs rs P X => (∃ (su : Setup) (os : List Nat) (p : Nat), xs = [.d (suD su), .d (octD os), .d (nD p)] ∧ su.ok ∧ octs os ∧ (∀ h q, rdHead su os p = .ok h q → fits h.2) ∧ OutG K X (fun f q => P (.d (.tuple [frD f, nD q])) rs) (rdFrame su os p))
  ∨ (∃ d e : PyData, xs = [.d .none, .d d, .d e] ∧ ∀ rs', X (He.ga K "BadSetup") (.int (-1)) rs')
  ∨ (∃ (su : Setup) (os : List Nat) (bad d : PyData), xs = [.d (suD su), .d (badD os bad), .d d] ∧ su.ok ∧ octs os ∧ isBelow bad 256 = false ∧ ∀ rs', X (He.ga K "BadOctets") (nD os.length) rs')
  ∨ (∃ (su : Setup) (os : List Nat) (odd : PyData), xs = [.d (suD su), .d (octD os), .d odd] ∧ su.ok ∧ octs os ∧ isNum odd = false ∧ ∀ rs', X (He.ga K "Refused") odd rs')
theorem len_frame_at (K : PySem.W.Frag) : Len (d_frame_at K) 3 := fun _ _ _ _ h => by
  rcases h with ⟨_, _, _, e, _⟩ | ⟨_, _, e, _⟩ | ⟨_, _, _, _, e, _⟩ | ⟨_, _, _, e, _⟩ <;> rw [e] <;> rfl
section
variable {P : Program} {w : World} {K : PySem.W.Frag} {mg : Str → Option Value} {base : Heap}
theorem cal_need_octets (A : Fs P K mg) : CalX P w K mg base (L2.CX P w) 9 (fF K ("need_octets", none)) ["value"] (toSp K (d_need_octets K)) := by
  obtain ⟨fd, F⟩ := A.f_need_octets
  obtain ⟨t_MOST_OCTET, k_MOST_OCTET⟩ := A.k_MOST_OCTET
  obtain ⟨fd_is_below, G_is_below, p_is_below, b_is_below⟩ := cal_is_below (P := P) (w := w) (base := base) A
  have g_is_below := A.g_is_below
  obtain ⟨fd_is_sequence, G_is_sequence, p_is_sequence, b_is_sequence⟩ := cal_is_sequence (P := P) (w := w) (base := base) A
  have g_is_sequence := A.g_is_sequence
  refine ⟨fd, F.ok sc_need_octets (toSp_len (len_need_octets K)) (fun cdv A0 outer s H vs Q E hr h => ⟨_, (pss_cons (ps_if (pt_not (pt_val (pe_call G_is_sequence (hr.mono (by decide)) rfl g_is_sequence p_is_sequence b_is_sequence .nil pass0 (pa_cons (pv 0) pa_nil)))) (pss_one (Rx.ps_raiseErr rfl A.x_BadOctets hr (takes_of rfl rfl rfl rfl) (pa_cons (pe_un un_neg pe_int) pa_nil))) pss_nil) (pss_cons (ps_for (passes_of rfl) rfl (Rx.pi_enumT (by rfl) A.b_enumerate (pa_cons (pv 0) pa_nil)) (pg_tup (n := 2) rfl (pgs_cons (pg_name (i := 1) sc_need_octets.nd rfl (Or.inl rfl)) (pgs_cons (pg_name (i := 2) sc_need_octets.nd rfl (Or.inl rfl)) pgs_nil))) (pss_one (ps_if (pt_not (pt_val (pe_call G_is_below (hr.mono (by decide)) rfl g_is_below p_is_below b_is_below .nil pass0 (pa_cons (pv 2) (pa_cons (pe_glob (v := .int 256) rfl k_MOST_OCTET ⟨_, rfl⟩) pa_nil))))) (pss_one (Rx.ps_raiseErr rfl A.x_BadOctets hr (takes_of rfl rfl rfl rfl) (pa_cons (pv 1) pa_nil))) pss_nil))) (pss_one (ps_ret (pe_callTy call_tuple_of (by rfl) A.b_tuple (by decide +kernel) (pa_cons (pv 0) pa_nil)))))), to_body h fun W xs rs P hf => ?_⟩), F.kp, F.bindsN fun _ _ _ _ _ _ us hl => match us, hl with | [_], _ => rfl⟩
  rcases hf with ⟨os, rfl, ho, hP⟩ | ⟨os, bad, rfl, ho, hb, hX⟩
  · change WS W _ [some (.d (octD os)), none, none] rs _
    rfl'
    refine ite_F rfl ?_
    rfl'
    refine ws_for (Iv := fun i sl rs1 => ∃ q1 q2 : Option DV, sl = [some (.d (octD os)), q1, q2] ∧ rs1 = rs) (xs := enD (os.map nD)) ?_ ?_ ?_
    · rfl'
      rfl
    · rintro i d sl rs1 hd ⟨q1, q2, rfl, rfl⟩
      obtain ⟨x, hx, rfl⟩ := enD_at hd
      obtain ⟨o, hi, rfl⟩ := mapAt hx
      have := ho o (List.mem_of_getElem? hi)
      rfl'
      have eb : isBelow (nD o) 256 = true := by simp [isBelow]; omega
      refine ite_F (by rw [eb]; rfl) ?_
      rfl'
      rfl
    · rintro sl rs1 ⟨q1, q2, rfl, rfl⟩
      rfl'
      exact hP
  · change WS W _ [some (.d (badD os bad)), none, none] rs _
    rfl'
    refine ite_F rfl ?_
    rfl'
    refine ws_for (Iv := fun i sl rs1 => i ≤ os.length ∧ ∃ q1 q2 : Option DV, sl = [some (.d (badD os bad)), q1, q2] ∧ rs1 = rs) (xs := enD (os.map nD ++ [bad])) ?_ ?_ ?_
    · rfl'
      exact ⟨Nat.zero_le _, none, none, rfl, rfl⟩
    · rintro i d sl rs1 hd ⟨hi, q1, q2, rfl, rfl⟩
      obtain ⟨x, hx, rfl⟩ := enD_at hd
      rfl'
      by_cases hc : i < os.length
      · rw [List.getElem?_append_left (by rw [List.length_map]; exact hc)] at hx
        obtain ⟨o, hi2, rfl⟩ := mapAt hx
        have := ho o (List.mem_of_getElem? hi2)
        have eb : isBelow (nD o) 256 = true := by simp [isBelow]; omega
        refine ite_F (by rw [eb]; rfl) ?_
        rfl'
        exact ⟨hc, _, _, rfl, rfl⟩
      · have hi : i = os.length := by omega
        subst hi
        rw [List.getElem?_append_right (by rw [List.length_map]; exact Nat.le_refl _), List.length_map, Nat.sub_self] at hx
        cases hx
        refine ite_T (by rw [hb]; rfl) ?_
        rfl'
        exact hX _
    · rintro sl rs1 ⟨hi, _⟩
      rw [enD_len, List.length_append, List.length_map] at hi
      exact absurd hi (by show ¬ os.length + 1 ≤ os.length; omega)
theorem cal_octets_from (A : Fs P K mg) : CalX P w K mg base (L2.CX P w) 10 (fF K ("octets_from", none)) ["octets", "at"] (toSp K (d_octets_from K)) := by
  obtain ⟨fd, F⟩ := A.f_octets_from
  obtain ⟨fd_Octets___init__, G_Octets___init__, p_Octets___init__, b_Octets___init__⟩ := cal_Octets___init__ (P := P) (w := w) (base := base) A
  obtain ⟨fd_is_number, G_is_number, p_is_number, b_is_number⟩ := cal_is_number (P := P) (w := w) (base := base) A
  have g_is_number := A.g_is_number
  obtain ⟨fd_need_octets, G_need_octets, p_need_octets, b_need_octets⟩ := cal_need_octets (P := P) (w := w) (base := base) A
  have g_need_octets := A.g_need_octets
  refine ⟨fd, F.ok sc_octets_from (toSp_len (len_octets_from K)) (fun cdv A0 outer s H vs Q E hr h => ⟨_, (pss_cons (ps_set (i := 2) sc_octets_from.nd rfl (Or.inl rfl) (pe_call G_need_octets (hr.mono (by decide)) rfl g_need_octets p_need_octets b_need_octets .nil (passes_call (takes_of rfl rfl rfl rfl) (fun _ _ _ _ h => h)) (pa_cons (pv 0) pa_nil))) (pss_cons (ps_if (pt_not (pt_val (pe_call G_is_number (hr.mono (by decide)) rfl g_is_number p_is_number b_is_number .nil pass0 (pa_cons (pv 1) pa_nil)))) (pss_one (Rx.ps_raiseErr rfl A.x_Refused hr (takes_of rfl rfl rfl rfl) (pa_cons (pv 1) pa_nil))) pss_nil) (pss_one (ps_ret (pe_make A.mk_Octets G_Octets___init__ (hr.mono (by decide)) rfl A.g_Octets b_Octets___init__ .nil pass0 (pa_cons (pv 2) (pa_cons (pv 1) pa_nil))))))), to_body h fun W xs rs P hf => ?_⟩), F.kp, F.bindsN fun _ _ _ _ _ _ us hl => match us, hl with | [_, _], _ => rfl⟩
  rcases hf with ⟨os, p, rfl, ho, hP⟩ | ⟨os, bad, d, rfl, ho, hb, hX⟩ | ⟨os, odd, rfl, ho, hb, hX⟩
  · change WS W _ [some (.d (octD os)), some (.d (nD p)), none] rs _
    rfl'
    refine .inl ⟨os, rfl, ho, ?_⟩
    rfl'
    refine ite_F (by simp [isNum]) ?_
    rfl'
    refine we_make ?_
    rfl'
    intro a
    exact ⟨os, p, a, rfl, rfl, rfl, hP a⟩
  · change WS W _ [some (.d (badD os bad)), some (.d d), none] rs _
    rfl'
    refine .inr ⟨os, bad, rfl, ho, hb, fun _ => hX _⟩
  · change WS W _ [some (.d (octD os)), some (.d odd), none] rs _
    rfl'
    refine .inl ⟨os, rfl, ho, ?_⟩
    rfl'
    refine ite_T (by rw [hb]; rfl) ?_
    rfl'
    exact hX _
theorem cal_frame_at (A : Fs P K mg) : CalX P w K mg base (L2.CX P w) 13 (fF K ("frame_at", none)) ["setup", "octets", "at"] (toSp K (d_frame_at K)) := by
  obtain ⟨fd, F⟩ := A.f_frame_at
  obtain ⟨t_MOST_NUMBER, k_MOST_NUMBER⟩ := A.k_MOST_NUMBER
  obtain ⟨t_COUNT_OCTETS, k_COUNT_OCTETS⟩ := A.k_COUNT_OCTETS
  obtain ⟨fd_Octets_take_cargo, G_Octets_take_cargo, p_Octets_take_cargo, b_Octets_take_cargo⟩ := cal_Octets_take_cargo (P := P) (w := w) (base := base) A
  obtain ⟨fd_shapes_of, G_shapes_of, p_shapes_of, b_shapes_of⟩ := cal_shapes_of (P := P) (w := w) (base := base) A
  have g_shapes_of := A.g_shapes_of
  obtain ⟨fd_Octets_take_mark, G_Octets_take_mark, p_Octets_take_mark, b_Octets_take_mark⟩ := cal_Octets_take_mark (P := P) (w := w) (base := base) A
  obtain ⟨fd_Octets_take_number, G_Octets_take_number, p_Octets_take_number, b_Octets_take_number⟩ := cal_Octets_take_number (P := P) (w := w) (base := base) A
  obtain ⟨fd_octets_from, G_octets_from, p_octets_from, b_octets_from⟩ := cal_octets_from (P := P) (w := w) (base := base) A
  have g_octets_from := A.g_octets_from
  obtain ⟨fd_check_setup, G_check_setup, p_check_setup, b_check_setup⟩ := cal_check_setup (P := P) (w := w) (base := base) A
  have g_check_setup := A.g_check_setup
  refine ⟨fd, F.ok sc_frame_at (toSp_len (len_frame_at K)) (fun cdv A0 outer s H vs Q E hr h => ⟨_, (pss_cons (ps_set (i := 3) sc_frame_at.nd rfl (Or.inl rfl) (pe_call G_check_setup (hr.mono (by decide)) rfl g_check_setup p_check_setup b_check_setup .nil (passes_call (takes_of rfl rfl rfl rfl) (fun _ _ _ _ h => h)) (pa_cons (pv 0) pa_nil))) (pss_cons (ps_set (i := 4) sc_frame_at.nd rfl (Or.inr rfl) (pe_call G_octets_from (hr.mono (by decide)) rfl g_octets_from p_octets_from b_octets_from .nil (passes_call (takes_of rfl rfl rfl rfl) (fun _ _ _ _ h => h)) (pa_cons (pv 1) (pa_cons (pv 2) pa_nil)))) (pss_cons (Rx.ps_setLcX (i := 5) (own := [("turn", 8)]) (g := (gName 8)) (tt := tYes) rfl sc_frame_at.nd rfl rfl (sw_true rfl rfl rfl (by decide +kernel)) (pi_range1 (by rfl) A.b_range (pa_cons pe_int pa_nil)) (blkOk_by (N := ["setup", "octets", "at", "told", "reading", "numbers", "marks", "cargo", "turn", "kind"]) (sc := defScope s_frame_at) (by decide +kernel)) (fun _ _ _ _ _ => (pg_name (i := 8) sc_frame_at.nd rfl (Or.inl rfl))) (fun _ _ _ _ _ => pts_nil) rfl rfl (takes_of rfl rfl rfl rfl) (fun _ _ _ _ h => h) (fun _ _ _ _ _ _ hp => (pe_meth (pv 4) A.cl_Octets A.m_Octets_take_number G_Octets_take_number (hr.mono (by decide)) b_Octets_take_number .nil hp (pa_cons (pe_glob (v := .int 4) rfl k_COUNT_OCTETS ⟨_, rfl⟩) (pa_cons (pe_op op_sub (pe_glob (v := .int 4294967296) rfl k_MOST_NUMBER ⟨_, rfl⟩) pe_int) pa_nil))))) (pss_cons (ps_set (i := 6) sc_frame_at.nd rfl (Or.inl rfl) (pe_callTy call_tuple_of (by rfl) A.b_tuple (by decide +kernel) (pa_cons (Rx.pe_lcX (own := [("kind", 9)]) (g := (gName 9)) (tt := tYes) rfl sc_frame_at.nd (pi_tup (pe_ix ix_tup (pv 3) pe_int (fun _ _ => rfl))) (blkOk_by (N := ["setup", "octets", "at", "told", "reading", "numbers", "marks", "cargo", "turn", "kind"]) (sc := defScope s_frame_at) (by decide +kernel)) (fun _ _ _ _ _ => (pg_name (i := 9) sc_frame_at.nd rfl (Or.inl rfl))) (fun _ _ _ _ _ => pts_nil) rfl rfl (takes_of rfl rfl rfl rfl) (fun _ _ _ _ h => h) (fun _ _ _ _ _ _ hp => (pe_meth0 (pv 4) A.cl_Octets A.m_Octets_take_mark G_Octets_take_mark (hr.mono (by decide)) b_Octets_take_mark .nil hp))) pa_nil))) (pss_cons (ps_set (i := 7) sc_frame_at.nd rfl (Or.inl rfl) (pe_meth (pv 4) A.cl_Octets A.m_Octets_take_cargo G_Octets_take_cargo (hr.mono (by decide)) b_Octets_take_cargo .nil (passes_call (takes_of rfl rfl rfl rfl) (fun _ _ _ _ h => h)) (pa_cons (pe_call G_shapes_of (hr.mono (by decide)) rfl g_shapes_of p_shapes_of b_shapes_of .nil pass0 (pa_cons (pv 3) (pa_cons (pv 6) pa_nil))) pa_nil))) (pss_one (ps_ret (pe_tup (pa_cons (pe_op op_catA (pe_callTy call_tuple_of (by rfl) A.b_tuple (by decide +kernel) (pa_cons (pv 5) pa_nil)) (pe_tup (pa_cons (pv 6) (pa_cons (pv 7) pa_nil)))) (pa_cons (pe_fld (pv 4) rfl) pa_nil)))))))))), to_body h fun W xs rs P hf => ?_⟩), F.kp, F.bindsN fun _ _ _ _ _ _ us hl => match us, hl with | [_, _, _], _ => rfl⟩
  rcases hf with ⟨su, os, p, rfl, hs, ho, hft, hP⟩ | ⟨d, e, rfl, hX⟩ | ⟨su, os, bad, d, rfl, hs, ho, hb, hX⟩ | ⟨su, os, odd, rfl, hs, ho, hb, hX⟩
  · change WS W _ [some (.d (suD su)), some (.d (octD os)), some (.d (nD p)), none, none, none, none, none, none, none] rs _
    rfl'
    refine .inl ⟨su, rfl, hs, ?_⟩
    rfl'
    refine .inl ⟨os, p, rfl, ho, fun r => ?_⟩
    rfl'
    unfold rdFrame at hP
    unfold rdHead at hP
    rw [Rd.bind_assoc] at hP
    refine we_lc (fun i acc rs1 => ∃ (q : Nat) (ns : List Nat), acc = ns.map nD ∧ rs1 = rO K r os q :: rs ∧ ns.length = i ∧ (rdRep (fun q => rdN os q 4 M4) (3 - i) ns q = rdRep (fun q => rdN os q 4 M4) 3 [] p)) (rgD 0 3) (own1 (by decide)) ?_ ?_ ?_
    · rfl'
      exact ⟨by omega, by omega, rfl, p, [], rfl, rfl, rfl, rfl⟩
    · rintro i d acc rs1 hd ⟨q, ns, rfl, rfl, hl, hr⟩
      obtain ⟨hi, rfl⟩ := rgD_at hd
      have e1 : 3 - i = (3 - (i + 1)) + 1 := by omega
      rw [← hr, e1] at hP
      have hP : OutG K W.X _ ((Rd.bind (rdN os q 4 M4) fun v q2 => rdRep (fun q => rdN os q 4 M4) (3 - (i + 1)) (ns ++ [v]) q2).bind _) := hP
      rw [Rd.bind_assoc] at hP
      rfl'
      refine ite_T rfl ?_
      rfl'
      refine ⟨[rO K r os q], rs, .refl _, os, q, r, 4, M4, rfl, rfl, by decide, hP.step (fun _ h rs' => h _) fun v q2 hv hP => ?_⟩
      refine ⟨_, rfl, by rw [List.length_map]; omega, q2, ns ++ [v], by simp, rfl, by rw [List.length_append, hl]; rfl, ?_⟩
      rw [← hr, e1]
      show _ = Rd.bind (rdN os q 4 M4) _
      rw [hv]
      rfl
    · rintro acc rs1 ⟨q, ns, rfl, rfl, hl, hr⟩
      rw [rgD_len] at hl hr
      have hr : Rd.ok ns q = rdRep (fun q => rdN os q 4 M4) 3 [] p := hr
      rw [← hr] at hP
      have hP : OutG K W.X _ (((rdRep (rdMark os) su.kinds.length [] q).bind fun ms r => .ok (ns, ms) r).bind _) := hP
      rw [Rd.bind_assoc] at hP
      have hk6 := hs.2.1
      rfl'
      refine we_lc (fun i acc rs1 => ∃ (q2 : Nat) (ms : List Mark), acc = ms.map mkD ∧ rs1 = rO K r os q2 :: rs ∧ ms.length = i ∧ (rdRep (rdMark os) (su.kinds.length - i) ms q2 = rdRep (rdMark os) su.kinds.length [] q)) (su.kinds.map kdD) (own1 (by decide)) ?_ ?_ ?_
      · rfl'
        exact ⟨q, [], rfl, rfl, rfl, rfl⟩
      · rintro i d acc rs1 hd ⟨q2, ms, rfl, rfl, hl, hr2⟩
        obtain ⟨kd, hkd, rfl⟩ := mapAt hd
        have hi : i < su.kinds.length := (List.getElem?_eq_some_iff.mp hkd).1
        have e1 : su.kinds.length - i = (su.kinds.length - (i + 1)) + 1 := by omega
        rw [← hr2, e1] at hP
        have hP : OutG K W.X _ ((Rd.bind (rdMark os q2) fun v q3 => rdRep (rdMark os) (su.kinds.length - (i + 1)) (ms ++ [v]) q3).bind _) := hP
        rw [Rd.bind_assoc] at hP
        rfl'
        refine ite_T rfl ?_
        rfl'
        refine ⟨[rO K r os q2], rs, .refl _, os, q2, r, rfl, rfl, hP.step (fun _ h rs' => h _) fun v q3 hv hP => ?_⟩
        refine ⟨_, rfl, by rw [List.length_map]; omega, q3, ms ++ [v], by simp, rfl, by rw [List.length_append, hl]; rfl, ?_⟩
        rw [← hr2, e1]
        show _ = Rd.bind (rdMark os q2) _
        rw [hv]
        rfl
      · rintro acc rs1 ⟨q2, ms, rfl, rfl, hl2, hr2⟩
        rw [List.length_map] at hl2 hr2
        rw [Nat.sub_self] at hr2
        have hr2 : Rd.ok ms q2 = rdRep (rdMark os) su.kinds.length [] q := hr2
        rw [← hr2] at hP
        have hP : OutG K W.X _ ((rdCargo os (shapes su.kinds ms) q2).bind _) := hP
        have hhd : rdHead su os p = .ok (ns, ms) q2 := by
          unfold rdHead
          rw [← hr]
          show (rdRep (rdMark os) su.kinds.length [] q).bind _ = _
          rw [← hr2]
          rfl
        obtain ⟨k1, k2, k3, k4⟩ := rdHead_ok hhd (hft _ _ hhd)
        have hsl := shapes_len k3
        rfl'
        refine ⟨hs, k3, k4, ?_⟩
        rfl'
        refine ⟨[rO K r os q2], rs, .refl _, os, q2, r, shapes su.kinds ms, rfl, rfl, by rw [hsl]; exact hk6, shapes_pws hs k4, hP.step (fun _ h rs' => h _) fun c q3 hc hP => ?_⟩
        have hP : P (.d (.tuple [frD ⟨ns, ms, c⟩, nD q3])) rs := hP
        refine ws_ret (we_drop (rs2 := rs) ?_)
        rfl'
        refine ⟨by rw [List.length_map, k1]; exact (by decide : 3 + 2 ≤ 100000), ?_⟩
        have cl1 := A.cl_Octets
        have na2 := A.na_at
        rfl'
        exact ⟨List.sublist_cons_self _ _, hP⟩
  · change WS W _ [some (.d .none), some (.d d), some (.d e), none, none, none, none, none, none, none] rs _
    rfl'
    exact .inr ⟨rfl, fun _ => hX _⟩
  · change WS W _ [some (.d (suD su)), some (.d (badD os bad)), some (.d d), none, none, none, none, none, none, none] rs _
    rfl'
    refine .inl ⟨su, rfl, hs, ?_⟩
    rfl'
    exact .inr (.inl ⟨os, bad, d, rfl, ho, hb, fun _ => hX _⟩)
  · change WS W _ [some (.d (suD su)), some (.d (octD os)), some (.d odd), none, none, none, none, none, none, none] rs _
    rfl'
    refine .inl ⟨su, rfl, hs, ?_⟩
    rfl'
    exact .inr (.inr ⟨os, odd, rfl, ho, hb, fun _ => hX _⟩)
end
end Fw
end
section
set_option Elab.async false
set_option autoImplicit false
set_option linter.all false
set_option maxRecDepth 100000
set_option maxHeartbeats 1000000
/-! D9: loops over what was drawn. -/
namespace Dl
open PySem PySem.Spec PyProof.Rows L2 Evl
section
variable {K : Fg} {E : XK} {W : Wd K E} {sl : Sl} {rs : Rs} {P P' : DV → Rs → Prop} {ta tb tc td te : TE} {i j : Nat} {dv : DV} {N N' : Po} {ts tu : TS} {tt : TT} {g : TG} {gs : TGs} {wi : TI} {tr : TA} {K2 : Fg} {f : Dsp} {R : List PyData → Rs → Prop}
/-- for target in ys, the values told by what was drawn -/
theorem ws_forF (Iv : List PyData → Nat → Sl → Rs → Prop) (h : WI W wi sl rs fun ys rs1 => Iv ys 0 sl rs1)
    (hs : ∀ xs i d sl rs, xs[i]? = some d → Iv xs i sl rs → WG W g (.d d) sl rs fun sl2 rs2 => WS W ts sl2 rs2 ⟨Iv xs (i + 1), N.rt, N.nx, Iv xs (i + 1)⟩) (hd : ∀ xs sl rs, Iv xs xs.length sl rs → N.nx sl rs) : WS W (tFor wi g ts) sl rs N := fun F H σ D k e =>
  h F H σ k _ fun F1 H1 J ys rs1 s1 k1 it w0 => by
    refine ⟨fun i m σ' H' => m = ys.length - i ∧ i ≤ ys.length ∧ ∃ F' sl' rs', Stp F1 H1 rs1 F' H' rs' ∧ KnL K F' H' σ' sl' rs' ∧ (Iv ys) i sl' rs', ⟨_, rfl, Nat.zero_le _, F1, sl, rs1, .refl, k1, w0⟩, ?_⟩
    rintro i m σ2 H2 ⟨rfl, hi, F2, sl2, rs2, s2, k2, w2⟩
    obtain ⟨t1, t2⟩ := it F2 H2 s2.up k2.ex i
    by_cases hlt : i < ys.length
    · have hx : ys[i]? = some ys[i] := List.getElem?_eq_getElem hlt
      obtain ⟨go, yl⟩ := t1 _ hx
      refine .inr ⟨go, fun σ' H' => ∃ F' sl' rs', Stp F1 H1 rs1 F' H' rs' ∧ KnL K F' H' σ' sl' rs' ∧ (Iv ys) (i + 1) sl' rs', fun σ' H' ⟨F', sl', rs', a, b, c⟩ => ⟨ys.length - (i + 1), by omega, rfl, hlt, F', sl', rs', a, b, c⟩, fun x H3 y3 => ?_⟩
      obtain ⟨F3, g3, d3⟩ := yl x H3 y3
      obtain ⟨k3, s3⟩ := g3.kn k2
      refine hs ys i _ sl2 rs2 hx w2 F3 H3 σ2 x (k.go ((s1.trans s2).trans s3) k3) (isD d3) _ fun F4 H4 σ4 sl4 rs4 s4 k4 p4 => ?_
      have s14 := (s2.trans s3).trans s4
      have en := e.go (s1.trans s14)
      exact p4 F4 H4 σ4 _ (k.go (s1.trans s14) k4) ⟨fun F5 H5 σ5 sl5 rs5 s5 k5 w5 => ⟨F5, sl5, rs5, s14.trans s5, k5, w5⟩, en.rt, en.nx, fun F5 H5 σ5 sl5 rs5 s5 k5 w5 => ⟨F5, sl5, rs5, s14.trans s5, k5, w5⟩⟩
    · have hie : i = ys.length := by omega
      exact .inl ⟨t2 hie, e.nx F2 H2 σ2 sl2 rs2 (s1.trans s2) k2 (hd ys sl2 rs2 (hie ▸ w2))⟩
/-- [e for target in ys if t], the values told by what was drawn -/
theorem we_lcF {vs : List Nat} (Iv : List PyData → Nat → List PyData → Rs → Prop) (own : Own vs g) (h : WI W wi sl rs fun xs rs1 => Iv xs 0 [] rs1)
    (hs : ∀ ys i d acc rs', ys[i]? = some d → Iv ys i acc rs' → WG W g (.d d) (wipeS sl vs) rs' fun sl2 rs2 => WT W tt sl2 rs2 fun b rs3 => if b = true then WE W te sl2 rs3 fun y rs4 => ∃ yd, y = .d yd ∧ acc.length < 100000 ∧ Iv ys (i + 1) (acc ++ [yd]) rs4 else Iv ys (i + 1) acc rs3)
    (hd : ∀ ys acc rs', Iv ys ys.length acc rs' → P (.d (.list acc)) rs') : WE W (tLc wi g tt te vs) sl rs P := fun F H σ k Q q =>
  h F H σ k _ fun F1 H1 J xs rs1 s1 k1 it w0 => by
    intro D hD
    have start : LcIn K F1 H1 rs1 σ sl D (Iv xs) 0 (upd H1 D (.lst [])) := by
      have p : ((D, Res.lst []) :: rs1).Perm (rs1 ++ [(D, .lst [])]) := List.perm_append_singleton _ _ |>.symm
      exact ⟨F1, [], rs1, (Stp.newR (F := F1) (rs := rs1) (o := .lst []) (r := .lst []) hD).drop fun z hz => (p.map (·.1)).mem_iff.mpr hz, (k1.newR (r := .lst []) hD ⟨[], upd_same, .nil⟩).perm p, w0⟩
    refine ⟨fun i m H' => m = xs.length - i ∧ i ≤ xs.length ∧ LcIn K F1 H1 rs1 σ sl D (Iv xs) i H', ⟨_, rfl, Nat.zero_le _, start⟩, ?_⟩
    rintro i m H2 ⟨rfl, hi, F2, acc, rs2, s2, k2, w2⟩
    obtain ⟨t1, t2⟩ := it F2 H2 s2.up k2.ex i
    have dropD : ∀ {F' H' : Hp} {acc : List PyData} {rs' : Rs}, Stp F1 H1 rs1 F' H' (rs' ++ [(D, .lst acc)]) → Stp F H rs F' H' rs' := fun {F' H' acc rs'} a => s1.trans (a.drop fun z hz => by rw [List.map_append]; exact List.mem_append_left _ hz)
    have kd : KnL K F2 H2 σ sl rs2 := k2.sub (k2.nd.sublist (by rw [List.map_append]; exact List.sublist_append_left _ _)) fun z hz => List.mem_append_left _ hz
    by_cases hlt : i < xs.length
    · have hx : xs[i]? = some xs[i] := List.getElem?_eq_getElem hlt
      obtain ⟨go, yl⟩ := t1 _ hx
      refine .inr ⟨go, LcIn K F1 H1 rs1 σ sl D (Iv xs) (i + 1), fun H' h => ⟨xs.length - (i + 1), by omega, rfl, hlt, h⟩, fun x H3 y3 => ?_⟩
      obtain ⟨F3, g3, d3⟩ := yl x H3 y3
      obtain ⟨k3, s3⟩ := g3.kn k2
      have s13 := s2.trans s3
      have kd3 : KnL K F3 H3 (L2.wipe σ vs) (wipeS sl vs) rs2 := ((g3.kn kd).1).wipe vs
      have z := own x (L2.wipe σ vs) H3 _ (hs xs i _ acc rs2 hx w2 F3 H3 (L2.wipe σ vs) x ⟨kd3, k.2.trans (dropD s13)⟩ (isD d3) (fun σ2 H4 => tt σ2 H4 fun b H5 => if b = true then te σ2 H5 fun y H6 => ∃ acc, H6 D = some (.lst acc) ∧ acc.length < sizeLine ∧ LcIn K F1 H1 rs1 σ sl D (Iv xs) (i + 1) (upd H6 D (.lst (acc ++ [y]))) else LcIn K F1 H1 rs1 σ sl D (Iv xs) (i + 1) H5) fun F4 H4 σ4 sl4 rs4 s4 k4 p4 => ?_)
      · rw [wipe_wipe] at z
        exact z
      -- behind the target
      have k4D : KnL K F4 H4 σ sl (rs4 ++ [(D, .lst acc)]) := k3.later s4 k4.none
      have s14 := s13.trans (Stp.later k3 s4)
      refine p4 F4 H4 σ4 ⟨k4, k.2.trans (dropD s14)⟩ _ fun F5 H5 b rs5 s5 k5 p5 => ?_
      try dsimp only at p5
      have k5D : KnL K F5 H5 σ sl (rs5 ++ [(D, .lst acc)]) := k4D.later s5 k5.none
      have s15 := s14.trans (Stp.later k4D s5)
      by_cases c : b = true
      · rw [if_pos c] at p5 ⊢
        refine p5 F5 H5 σ4 ⟨k5, k.2.trans (dropD s15)⟩ _ fun F6 H6 y dy rs6 s6 k6 i6 ⟨yd, e6, hz, w6⟩ => ?_
        subst e6
        have k6D : KnL K F6 H6 σ sl (rs6 ++ [(D, .lst acc)]) := k5D.later s6 k6.none
        have s16 := s15.trans (Stp.later k5D s6)
        obtain ⟨accV, ha, hda⟩ := (k6D.gr (D, .lst acc) (by simp)).2
        refine ⟨accV, ha, sz_lt (by rw [hda.len]; exact hz), F6, acc ++ [yd], rs6, ?_, ?_, w6⟩
        · have := s16.trans (Stp.wr (o := .lst (accV ++ [y])) (r' := .lst (acc ++ [yd])) k6D (at_end (rs2 := rs6)))
          rw [set_end] at this
          exact this
        · have := k6D.wr (o := .lst (accV ++ [y])) (r' := .lst (acc ++ [yd])) (at_end (rs2 := rs6)) ⟨accV ++ [y], upd_same, hda.app (.cons i6 .nil)⟩
          rw [set_end] at this
          exact this
      · rw [if_neg c] at p5 ⊢
        exact ⟨F5, acc, rs5, s15, k5D, p5⟩
    · have hie : i = xs.length := by omega
      have p : (rs2 ++ [(D, Res.lst acc)]).Perm ((D, .lst acc) :: rs2) := List.perm_append_singleton _ _
      obtain ⟨ys, hy, k4, s4, d4⟩ := (k2.perm p).frz
      refine .inl ⟨t2 hie, q _ H2 _ _ rs2 ((s1.trans s2).trans (s4.more fun z hz => (p.map (·.1)).mem_iff.mpr hz)) k4 (isD d4) (hd xs acc rs2 (hie ▸ w2))⟩
/-- [e for target in name if t], over a list that may still change, but does not within -/
theorem we_lcR {vs : List Nat} {a : Addr} {i0 : Nat} (xs : List PyData) (Iv : Nat → List PyData → Rs → Prop) (ha : sl[i0]? = some (some (.p a))) (w0 : Iv 0 [] rs) (hIv : ∀ i acc rs', Iv i acc rs' → At rs' a (.lst xs)) (own : Own vs g)
    (hs : ∀ i d acc rs', xs[i]? = some d → Iv i acc rs' → WG W g (.d d) (wipeS sl vs) rs' fun sl2 rs2 => WT W tt sl2 rs2 fun b rs3 => if b = true then WE W te sl2 rs3 fun y rs4 => ∃ yd, y = .d yd ∧ acc.length < 100000 ∧ Iv (i + 1) (acc ++ [yd]) rs4 else Iv (i + 1) acc rs3)
    (hd : ∀ acc rs', Iv xs.length acc rs' → P (.d (.list acc)) rs') : WE W (tLc (iList K2 (tVar i0)) g tt te vs) sl rs P := fun F H σ k Q q => by
    obtain ⟨v0, e0, r0⟩ := k.1.gs i0 _ ha
    have e1 : v0 = .ref a := r0
    subst e1
    obtain ⟨j0, hj0⟩ := hIv _ _ _ w0
    obtain ⟨zs0, hz0, _⟩ := (k.1.gr _ (List.mem_of_getElem? hj0)).2
    refine ⟨.ref a, e0, a, rfl, ⟨zs0, sq_of hz0⟩, ?_⟩
    have k1 := k.1
    have s1 : Stp F H rs F H rs := .refl
    intro D hD
    have start : LcIn K F H rs σ sl D Iv 0 (upd H D (.lst [])) := by
      have p : ((D, Res.lst []) :: rs).Perm (rs ++ [(D, .lst [])]) := List.perm_append_singleton _ _ |>.symm
      exact ⟨F, [], rs, (Stp.newR (F := F) (rs := rs) (o := .lst []) (r := .lst []) hD).drop fun z hz => (p.map (·.1)).mem_iff.mpr hz, (k1.newR (r := .lst []) hD ⟨[], upd_same, .nil⟩).perm p, w0⟩
    refine ⟨fun i m H' => m = xs.length - i ∧ i ≤ xs.length ∧ LcIn K F H rs σ sl D Iv i H', ⟨_, rfl, Nat.zero_le _, start⟩, ?_⟩
    rintro i m H2 ⟨rfl, hi, F2, acc, rs2, s2, k2, w2⟩
    obtain ⟨t1, t2⟩ : (∀ d, xs[i]? = some d → (Itl K2 a).go i H2 ∧ ∀ x H3, (Itl K2 a).yld i H2 x H3 → ∃ F3, Gr F2 H2 F3 H3 ∧ Dq F3 x d) ∧ (i = xs.length → (Itl K2 a).stop i H2) := by
      obtain ⟨j, hj⟩ := hIv _ _ _ w2
      obtain ⟨zs, hz, hd2⟩ := (k2.gr _ (List.mem_append_left _ (List.mem_of_getElem? hj))).2
      have hst : SqL K2 H2 a zs := sq_of hz
      refine ⟨fun d hx => ?_, fun hi => ⟨zs, hst, by rw [hd2.len]; omega⟩⟩
      obtain ⟨z, hz1, dz⟩ := hd2.get hx
      exact ⟨⟨zs, z, hst, hz1⟩, fun y H3 ⟨e3, hy⟩ => ⟨F2, .inl ⟨rfl, e3⟩, by
        have h2 := hy zs hst
        rw [hz1] at h2
        cases h2
        exact dz⟩⟩
    have dropD : ∀ {F' H' : Hp} {acc : List PyData} {rs' : Rs}, Stp F H rs F' H' (rs' ++ [(D, .lst acc)]) → Stp F H rs F' H' rs' := fun {F' H' acc rs'} a => s1.trans (a.drop fun z hz => by rw [List.map_append]; exact List.mem_append_left _ hz)
    have kd : KnL K F2 H2 σ sl rs2 := k2.sub (k2.nd.sublist (by rw [List.map_append]; exact List.sublist_append_left _ _)) fun z hz => List.mem_append_left _ hz
    by_cases hlt : i < xs.length
    · have hx : xs[i]? = some xs[i] := List.getElem?_eq_getElem hlt
      obtain ⟨go, yl⟩ := t1 _ hx
      refine .inr ⟨go, LcIn K F H rs σ sl D Iv (i + 1), fun H' h => ⟨xs.length - (i + 1), by omega, rfl, hlt, h⟩, fun x H3 y3 => ?_⟩
      obtain ⟨F3, g3, d3⟩ := yl x H3 y3
      obtain ⟨k3, s3⟩ := g3.kn k2
      have s13 := s2.trans s3
      have kd3 : KnL K F3 H3 (L2.wipe σ vs) (wipeS sl vs) rs2 := ((g3.kn kd).1).wipe vs
      have z := own x (L2.wipe σ vs) H3 _ (hs i _ acc rs2 hx w2 F3 H3 (L2.wipe σ vs) x ⟨kd3, k.2.trans (dropD s13)⟩ (isD d3) (fun σ2 H4 => tt σ2 H4 fun b H5 => if b = true then te σ2 H5 fun y H6 => ∃ acc, H6 D = some (.lst acc) ∧ acc.length < sizeLine ∧ LcIn K F H rs σ sl D Iv (i + 1) (upd H6 D (.lst (acc ++ [y]))) else LcIn K F H rs σ sl D Iv (i + 1) H5) fun F4 H4 σ4 sl4 rs4 s4 k4 p4 => ?_)
      · rw [wipe_wipe] at z
        exact z
      -- behind the target
      have k4D : KnL K F4 H4 σ sl (rs4 ++ [(D, .lst acc)]) := k3.later s4 k4.none
      have s14 := s13.trans (Stp.later k3 s4)
      refine p4 F4 H4 σ4 ⟨k4, k.2.trans (dropD s14)⟩ _ fun F5 H5 b rs5 s5 k5 p5 => ?_
      try dsimp only at p5
      have k5D : KnL K F5 H5 σ sl (rs5 ++ [(D, .lst acc)]) := k4D.later s5 k5.none
      have s15 := s14.trans (Stp.later k4D s5)
      by_cases c : b = true
      · rw [if_pos c] at p5 ⊢
        refine p5 F5 H5 σ4 ⟨k5, k.2.trans (dropD s15)⟩ _ fun F6 H6 y dy rs6 s6 k6 i6 ⟨yd, e6, hz, w6⟩ => ?_
        subst e6
        have k6D : KnL K F6 H6 σ sl (rs6 ++ [(D, .lst acc)]) := k5D.later s6 k6.none
        have s16 := s15.trans (Stp.later k5D s6)
        obtain ⟨accV, ha, hda⟩ := (k6D.gr (D, .lst acc) (by simp)).2
        refine ⟨accV, ha, sz_lt (by rw [hda.len]; exact hz), F6, acc ++ [yd], rs6, ?_, ?_, w6⟩
        · have := s16.trans (Stp.wr (o := .lst (accV ++ [y])) (r' := .lst (acc ++ [yd])) k6D (at_end (rs2 := rs6)))
          rw [set_end] at this
          exact this
        · have := k6D.wr (o := .lst (accV ++ [y])) (r' := .lst (acc ++ [yd])) (at_end (rs2 := rs6)) ⟨accV ++ [y], upd_same, hda.app (.cons i6 .nil)⟩
          rw [set_end] at this
          exact this
      · rw [if_neg c] at p5 ⊢
        exact ⟨F5, acc, rs5, s15, k5D, p5⟩
    · have hie : i = xs.length := by omega
      have p : (rs2 ++ [(D, Res.lst acc)]).Perm ((D, .lst acc) :: rs2) := List.perm_append_singleton _ _
      obtain ⟨ys, hy, k4, s4, d4⟩ := (k2.perm p).frz
      refine .inl ⟨t2 hie, q _ H2 _ _ rs2 ((s1.trans s2).trans (s4.more fun z hz => (p.map (·.1)).mem_iff.mpr hz)) k4 (isD d4) (hd acc rs2 (hie ▸ w2))⟩
/-- [e for target in name], nothing changed within -/
theorem we_mapR {vs : List Nat} {a : Addr} {i0 : Nat} (ds es : List PyData) (ha : sl[i0]? = some (some (.p a))) (h0 : At rs a (.lst ds)) (own : Own vs g) (hl : es.length = ds.length) (hz : ds.length ≤ 100000)
    (hs : ∀ (i : Nat) (d e : PyData), ds[i]? = some d → es[i]? = some e → WG W g (.d d) (wipeS sl vs) rs fun sl2 rs2 => WE W te sl2 rs2 fun y rs4 => y = .d e ∧ rs4 = rs)
    (hp : P (.d (.list es)) rs) : WE W (tLc (iList K2 (tVar i0)) g tYes te vs) sl rs P := by
  refine we_lcR ds (fun i acc rs1 => acc = es.take i ∧ rs1 = rs) ha ⟨rfl, rfl⟩ (fun _ _ _ h => h.2 ▸ h0) own ?_ ?_
  · rintro i d acc rs1 hd ⟨rfl, rfl⟩
    have hi : i < es.length := by
      rw [hl]
      exact (List.getElem?_eq_some_iff.mp hd).1
    have he : es[i]? = some es[i] := List.getElem?_eq_getElem hi
    intro F H σ v k iv Q q
    refine hs i d es[i] hd he F H σ v k iv Q fun F' H' σ' sl' rs' s k' p => q F' H' σ' sl' rs' s k' (wt_yes ?_)
    rw [if_pos rfl]
    refine p.mono fun y rs4 ⟨ey, er⟩ => ⟨_, ey, ?_, ?_, er⟩
    · rw [List.length_take]
      omega
    · rw [List.take_add_one, he]
      rfl
  · rintro acc rs1 ⟨rfl, rfl⟩
    rw [← hl, List.take_length]
    exact hp
/-- the told objects in another order -/
theorem ws_perm {rs' : Rs} (pm : rs.Perm rs') (h : WS W ts sl rs' N) : WS W ts sl rs N := fun F H σ D k e => by
  have s : Stp F H rs F H rs' := Stp.drop .refl fun q hq => (pm.map (·.1)).mem_iff.mpr hq
  exact h F H σ D (k.go s (k.1.perm pm)) (e.go s)
theorem own12 {i j l n m : Nat} {K2 K3 : Fg} {vs : List Nat} (h1 : i ∈ vs) (h2 : j ∈ vs) (h3 : l ∈ vs) : Own vs (gTup K2 n (gCons (gName i) (gCons (gTup K3 m (gCons (gName j) (gCons (gName l) gNil))) gNil))) :=
  own_tup (owns_cons mg_name (mgs_cons (mg_tup (mgs_cons mg_name (mgs_cons mg_name mgs_nil))) mgs_nil) (own_name h1) (owns_cons (mg_tup (mgs_cons mg_name (mgs_cons mg_name mgs_nil))) mgs_nil (own2 h2 h3) owns_nil))
/-- max of a list of ints -/
theorem we_max (h : WA W tr sl rs fun xs rs1 => ∃ ns : List Int, xs = [.d (.list (ns.map PyData.int))] ∧ 0 < ns.length ∧ ∀ m, m ∈ ns → (∀ n ∈ ns, n ≤ m) → P (.d (.int m)) rs1) : WE W (tCB (rMax K2) tr) sl rs P := fun F H σ k Q q =>
  h F H σ k _ fun F1 H1 vs xs rs1 s1 k1 i1 ⟨ns, e, hne, p⟩ => by
    subst e
    cases i1 with
    | cons i1 r =>
      cases r
      obtain ⟨a, ys, e, ha, hd⟩ := is_lst i1
      have e2 := hd.ints
      subst e2
      exact ⟨a, ns, by rw [e], sq_of (k1.ex _ _ ha), hne, fun m h1 h2 => q F1 H1 _ _ rs1 s1 k1 (isI m) (p m h1 h2)⟩
end
end Dl
end
section
set_option Elab.async false
set_option autoImplicit false
set_option linter.all false
set_option maxRecDepth 100000
set_option maxHeartbeats 1000000
/-! P11: draws. -/
namespace Fw
open PySem PySem.Spec PyProof.Rows L2 Dl Mx
local macro_rules
  | `(tactic| fail) => `(tactic| first
    | with_reducible refine ws_seq ?_
    | with_reducible refine ws_set ?_
    | with_reducible refine ws_ret ?_
    | with_reducible refine ws_if ?_
    | with_reducible refine ws_next ?_
    | with_reducible refine ws_break ?_
    | with_reducible refine ws_cont ?_
    | with_reducible refine ws_drop ?_
    | with_reducible refine ws_retN ?_
    | with_reducible refine ws_par ?_
    | ((with_reducible refine ws_id ?_); (with_reducible apply ws_aug); rfl)
    | ((with_reducible refine ws_id ?_); (with_reducible apply ws_augR); rfl)
    | with_reducible refine ws_asg ?_
    | ((with_reducible refine we_id ?_); (with_reducible apply we_var); rfl)
    | with_reducible refine we_int ?_
    | with_reducible refine we_non ?_
    | with_reducible refine we_bl ?_
    | with_reducible refine we_str ?_
    | with_reducible refine we_ty ?_
    | with_reducible refine we_opI ?_
    | with_reducible refine we_opB ?_
    | with_reducible refine we_opIC ?_
    | with_reducible refine we_eq ?_
    | with_reducible refine we_ne ?_
    | with_reducible refine we_isN ?_
    | with_reducible refine we_notN ?_
    | with_reducible refine we_chainI ?_
    | with_reducible refine we_chainE ?_
    | with_reducible refine we_chain3 ?_
    | with_reducible refine we_neg ?_
    | with_reducible refine we_andV ?_
    | with_reducible refine we_orV ?_
    | with_reducible refine we_notV ?_
    | with_reducible refine we_if ?_
    | with_reducible refine wt_test ?_
    | with_reducible refine wt_B ?_
    | with_reducible refine wt_not ?_
    | with_reducible refine wt_and ?_
    | with_reducible refine wt_or ?_
    | with_reducible refine wt_yes ?_
    | with_reducible refine wa_nil ?_
    | with_reducible refine wa_cons ?_
    | with_reducible refine we_tup ?_
    | with_reducible refine we_ixT ?_
    | with_reducible refine we_ixL ?_
    | with_reducible refine we_len ?_
    | with_reducible refine we_isi ?_
    | with_reducible refine we_isiSq ?_
    | with_reducible refine wg_name ?_
    | with_reducible refine we_slT ?_
    | with_reducible refine we_tuple ?_
    | with_reducible refine we_slL ?_
    | with_reducible refine wo_none ?_
    | with_reducible refine wo_some ?_
    | with_reducible refine we_callP ?_
    | with_reducible refine we_min2 ?_
    | with_reducible refine we_max2 ?_
    | with_reducible refine we_abs ?_
    | with_reducible refine we_all ?_
    | with_reducible refine we_any ?_
    | with_reducible refine we_append ?_
    | with_reducible refine we_extend ?_
    | with_reducible refine we_catL ?_
    | with_reducible refine ws_raise ?_
    | with_reducible refine we_inZ ?_
    | with_reducible refine we_catT ?_
    | with_reducible refine we_in ?_
    | with_reducible refine we_notIn ?_
    | with_reducible refine wg_tup ?_
    | with_reducible refine wgs_cons ?_
    | with_reducible refine wgs_nil ?_
    | with_reducible refine wi_rng1 ?_
    | with_reducible refine wi_rng2 ?_
    | with_reducible refine wi_lst ?_
    | with_reducible refine wi_tup ?_
    | with_reducible refine wi_enT ?_
    | with_reducible refine wi_enL ?_
    | with_reducible refine wi_zpTT ?_
    | with_reducible refine wi_zpTL ?_
    | with_reducible refine we_toInt ?_
    | with_reducible refine we_callPX ?_
    | ((with_reducible refine Rx.ex_id ?_); first
      | with_reducible refine ⟨_, _, rfl, rfl, ?_⟩
      | with_reducible refine ⟨_, _, rfl, .t _, ?_⟩
      | with_reducible refine ⟨_, _, rfl, .l (.d _), ?_⟩
      | with_reducible refine ⟨_, rfl, ?_⟩
      | with_reducible refine ⟨_, _, rfl, ?_⟩
      | refine ⟨_, _, _, rfl, rfl, rfl, ?_⟩
      | refine ⟨[_], rfl, Nat.le_of_ble_eq_true rfl, ?_⟩
      | refine ⟨[_, _], rfl, Nat.le_of_ble_eq_true rfl, ?_⟩
      | refine ⟨[_, _, _], rfl, Nat.le_of_ble_eq_true rfl, ?_⟩
      | refine ⟨[_, _, _, _], rfl, Nat.le_of_ble_eq_true rfl, ?_⟩
      | refine ⟨[_, _, _, _, _], rfl, Nat.le_of_ble_eq_true rfl, ?_⟩
      | refine ⟨[_, _, _, _, _, _], rfl, Nat.le_of_ble_eq_true rfl, ?_⟩
      | refine ⟨[_, _, _, _, _, _, _], rfl, Nat.le_of_ble_eq_true rfl, ?_⟩)
    | ((with_reducible refine Rx.and_id ?_); first
      | refine ⟨⟨_, 0, rfl⟩, ?_⟩
      | refine ⟨rfl, ?_⟩))
  | `(tactic| rfl') => `(tactic| repeat fail)
local macro_rules
  | `(tactic| fail) => `(tactic| first
    | with_reducible refine ws_setL ?_
    | ((with_reducible refine Rx.ex_id ?_); first
      | refine ⟨_, _, _, .p ⟨0, rfl⟩, rfl, rfl, ?_⟩
      | refine ⟨0, 0, _, rfl, rfl, Nat.le_of_ble_eq_true rfl, ?_⟩
      | refine ⟨1, 0, _, rfl, rfl, Nat.le_of_ble_eq_true rfl, ?_⟩)
    | ((with_reducible refine Rx.and_id ?_); first
      | refine ⟨by decide, ?_⟩
      | refine ⟨.inr ⟨by decide, by decide⟩, ?_⟩
      | refine ⟨.inl ⟨by decide, by decide⟩, ?_⟩
      | refine ⟨⟨by decide, by decide⟩, ?_⟩
      | refine ⟨⟨by decide, by decide, by decide⟩, ?_⟩))
abbrev bx (b : Addr) (g s : Int) : Addr × Res := (b, .lst [.int g, .int s])
abbrev d_law_box : Dsp := fun xs rs P X => ∃ (ns : List Int) (k : Nat), xs = [.scr ns, .d (nD k)] ∧ k < 2 ∧ ∀ a g s, P (.p a) (bx a g s :: rs)
theorem len_law_box : Len d_law_box 2 := fun _ _ _ _ ⟨_, _, e, _⟩ => by rw [e]; rfl
abbrev d_law_take : Dsp := fun xs rs P X => ∃ (b : Addr) (g s : Int) (m : Nat), xs = [.p b, .d (nD m)] ∧ rs = [bx b g s] ∧ 0 < m ∧ m < 1073741824 ∧ ∀ (g' s' : Int) (k : Nat), k < m → P (.d (nD k)) [bx b g' s']
theorem len_law_take : Len d_law_take 2 := fun _ _ _ _ ⟨_, _, _, _, e, _⟩ => by rw [e]; rfl
abbrev d_law_pick : Dsp := fun xs rs P X => ∃ (b : Addr) (g s : Int) (ds : List PyData), xs = [.p b, .d (.list ds)] ∧ rs = [bx b g s] ∧ 0 < ds.length ∧ ds.length < 1073741824 ∧ ∀ (g' s' : Int) (d : PyData), d ∈ ds → P (.d d) [bx b g' s']
theorem len_law_pick : Len d_law_pick 2 := fun _ _ _ _ ⟨_, _, _, _, e, _⟩ => by rw [e]; rfl
abbrev d_law_setup : Dsp := fun xs rs P X => ∃ (b : Addr) (g s : Int), xs = [.p b] ∧ rs = [bx b g s] ∧ ∀ (g' s' : Int) (su : Setup), su.ok → P (.d (suD su)) [bx b g' s']
theorem len_law_setup : Len d_law_setup 1 := fun _ _ _ _ ⟨_, _, _, e, _⟩ => by rw [e]; rfl
theorem we_lenK {K K2 : PySem.W.Frag} {E : XK} {W : Wd K E} {sl : Sl} {rs : Rs} {P : DV → Rs → Prop} {tr : TA} (e : K2 = K) (h : WA W tr sl rs fun xs rs1 => ∃ ns, xs = [.scr ns] ∧ P (.d (.int (ns.length : Nat))) rs1) : WE W (tCB (fun xs H Q => ∃ p ys, xs = [.ref p] ∧ (SqL K2 H p ys ∨ SqT K2 H p ys) ∧ Q (.int ys.length) H) tr) sl rs P := by
  subst e
  exact we_lenS h
theorem we_ixK {K K2 : PySem.W.Frag} {E : XK} {W : Wd K E} {sl : Sl} {rs : Rs} {P : DV → Rs → Prop} {ta tb : TE} (e : K2 = K) (h : WE W ta sl rs fun x rs1 => WE W tb sl rs1 fun y rs2 => ∃ ns n m, x = .scr ns ∧ y = .d (.int n) ∧ atI ns n = some m ∧ P (.d (.int m)) rs2) : WE W (tOp (rIxL K2) ta tb) sl rs P := by
  subst e
  exact we_ixS h
section
variable {P : Program} {w : World} {K : PySem.W.Frag} {mg : Str → Option Value} {base : Heap}
section
local macro_rules
  | `(tactic| fail) => `(tactic| first
    | ((with_reducible refine we_lenK ?_ ?_); (focus (exact rfl)))
    | ((with_reducible refine we_ixK ?_ ?_); (focus (exact rfl))))
theorem cal_law_box (A : Fs P K mg) : CalX P w K mg base CX0 1 (fF K ("_law_box", none)) ["_law_script", "_law_k"] (toSp K (d_law_box)) := by
  obtain ⟨fd, F⟩ := A.f_law_box
  refine ⟨fd, F.ok sc_law_box (toSp_len (len_law_box)) (fun cdv A0 outer s H vs Q E hr h => ⟨_, PSs.nox ((pss_cons (ps_set (i := 2) sc_law_box.nd rfl (Or.inl rfl) (pe_op op_add (pe_op op_mul pe_int (pv 1)) pe_int)) (pss_cons (ps_if (pt_cmpR op_lt (pv 1) (pe_callB call_len_seq (by rfl) A.b_len (by decide +kernel) (pa_cons (pv 0) pa_nil)) (nomark _)) (pss_one (ps_set (i := 2) sc_law_box.nd rfl (Or.inl rfl) (pe_callB call_abs (by rfl) A.b_abs (by decide +kernel) (pa_cons (pe_callTy call_int1 (by rfl) A.b_int (by decide +kernel) (pa_cons (pe_ix ix_list (pv 0) (pv 1) (fun _ _ => rfl)) pa_nil)) pa_nil)))) (pss_one (ps_if (pt_cmpR op_gt (pe_callB call_len_seq (by rfl) A.b_len (by decide +kernel) (pa_cons (pv 0) pa_nil)) pe_int (nomark _)) (pss_one (ps_set (i := 2) sc_law_box.nd rfl (Or.inl rfl) (pe_op op_add (pv 2) (pe_op op_mul (pe_op op_mod (pe_callTy call_int1 (by rfl) A.b_int (by decide +kernel) (pa_cons (pe_callB call_abs (by rfl) A.b_abs (by decide +kernel) (pa_cons (pe_callTy call_int1 (by rfl) A.b_int (by decide +kernel) (pa_cons (pe_ix ix_list (pv 0) (pe_op op_mod (pe_callTy call_int1 (by rfl) A.b_int (by decide +kernel) (pa_cons (pv 1) pa_nil)) (pe_callB call_len_seq (by rfl) A.b_len (by decide +kernel) (pa_cons (pv 0) pa_nil))) (fun _ _ => rfl)) pa_nil)) pa_nil)) pa_nil)) pe_int) pe_int)))) pss_nil))) (pss_cons (ps_set (i := 3) sc_law_box.nd rfl (Or.inl rfl) (pe_ifExp (pt_cmpR op_ge (pv 2) (pe_op op_pow pe_int pe_int) (nomark _)) (pv 2) pe_int)) (pss_one (ps_ret (pe_lst (pa_cons (pv 3) (pa_cons (pe_op op_add (pe_op op_mod (pe_callTy call_int1 (by rfl) A.b_int (by decide +kernel) (pa_cons (pe_op op_add (pe_op op_mul (pe_op op_mod (pe_callTy call_int1 (by rfl) A.b_int (by decide +kernel) (pa_cons (pv 2) pa_nil)) pe_int) pe_int) (pe_op op_mul pe_int (pv 1))) pa_nil)) pe_int) pe_int) pa_nil))))))))), to_body h fun W xs rs P hf => ?_⟩), F.kp, F.bindsN fun _ _ _ _ _ _ us hl => match us, hl with | [_, _], _ => rfl⟩
  obtain ⟨ns, k, rfl, hk, hP⟩ := hf
  change WS W _ [some (.scr ns), some (.d (nD k)), none, none] rs _
  have hat : ∀ j : Nat, j < ns.length → ∃ n : Int, atI ns (j : Int) = some n := fun j hj => ⟨ns[j], atI_nat (List.getElem?_eq_getElem hj)⟩
  rfl'
  refine ite_both (fun hc => ?_) (fun hc => ?_)
  · have hc : k < ns.length := by
      have := of_decide_eq_true hc
      omega
    obtain ⟨n, hn⟩ := hat k hc
    rfl'
    refine ⟨_, _, _, rfl, rfl, hn, ?_⟩
    rfl'
    refine ite_both (fun _ => ?_) (fun _ => ?_)
    · rfl'
      refine we_lstR ?_
      rfl'
      exact fun a => hP _ _ _
    · rfl'
      refine we_lstR ?_
      rfl'
      exact fun a => hP _ _ _
  · rfl'
    refine ite_both (fun hc2 => ?_) (fun hc2 => ?_)
    · have hl : 0 < ns.length := by
        have := of_decide_eq_true hc2
        exact Int.natCast_pos.mp this
      obtain ⟨n, hn⟩ := hat (k % ns.length) (Nat.mod_lt _ hl)
      rfl'
      refine ⟨by omega, ?_⟩
      refine ⟨_, _, _, rfl, rfl, hn, ?_⟩
      rfl'
      refine ite_both (fun _ => ?_) (fun _ => ?_)
      · rfl'
        refine we_lstR ?_
        rfl'
        exact fun a => hP _ _ _
      · rfl'
        refine we_lstR ?_
        rfl'
        exact fun a => hP _ _ _
    · rfl'
      refine ite_both (fun _ => ?_) (fun _ => ?_)
      · rfl'
        refine we_lstR ?_
        rfl'
        exact fun a => hP _ _ _
      · rfl'
        refine we_lstR ?_
        rfl'
        exact fun a => hP _ _ _
end
theorem cal_law_take (A : Fs P K mg) : CalX P w K mg base CX0 1 (fF K ("_law_take", none)) ["_law_box_here", "_law_many"] (toSp K (d_law_take)) := by
  obtain ⟨fd, F⟩ := A.f_law_take
  refine ⟨fd, F.ok sc_law_take (toSp_len (len_law_take)) (fun cdv A0 outer s H vs Q E hr h => ⟨_, PSs.nox ((pss_cons (ps_if (pt_cmpR op_gt (pe_ix ix_list (pv 0) pe_int (fun _ _ => rfl)) pe_int (nomark _)) (pss_cons (ps_set (i := 2) sc_law_take.nd rfl (Or.inl rfl) (pe_op op_mod (pe_callTy call_int1 (by rfl) A.b_int (by decide +kernel) (pa_cons (pe_ix ix_list (pv 0) pe_int (fun _ _ => rfl)) pa_nil)) (pv 1))) (pss_cons (ps_asg (pe_op op_fdiv (pe_ix ix_list (pv 0) pe_int (fun _ _ => rfl)) (pv 1)) (pg_sub (pv 0) pe_int set_list)) (pss_one (ps_ret (pv 2))))) pss_nil) (pss_cons (ps_set (i := 3) sc_law_take.nd rfl (Or.inl rfl) (pe_op op_mod (pe_callTy call_int1 (by rfl) A.b_int (by decide +kernel) (pa_cons (pe_op op_add (pe_op op_mul (pe_ix ix_list (pv 0) pe_int (fun _ _ => rfl)) pe_int) pe_int) pa_nil)) pe_int)) (pss_cons (ps_asg (pe_op op_add (pe_op op_mod (pe_callTy call_int1 (by rfl) A.b_int (by decide +kernel) (pa_cons (pe_op op_add (pe_op op_mul (pv 3) pe_int) pe_int) pa_nil)) pe_int) pe_int) (pg_sub (pv 0) pe_int set_list)) (pss_one (ps_ret (pe_op op_mod (pe_callTy call_int1 (by rfl) A.b_int (by decide +kernel) (pa_cons (pe_op op_fdiv (pe_op op_add (pe_op op_mul (pv 3) pe_int) (pe_ix ix_list (pv 0) pe_int (fun _ _ => rfl))) pe_int) pa_nil)) (pv 1)))))))), to_body h fun W xs rs P hf => ?_⟩), F.kp, F.bindsN fun _ _ _ _ _ _ us hl => match us, hl with | [_, _], _ => rfl⟩
  obtain ⟨b, g, s, m, rfl, rfl, h0, hm, hP⟩ := hf
  change WS W _ [some (.p b), some (.d (nD m)), none, none] _ _
  have h1 : (0 : Int) < m := by omega
  have out : ∀ n : Int, ∃ k : Nat, k < m ∧ n % (m : Int) = (k : Int) := fun n => ⟨(n % (m : Int)).toNat, by
    have := Int.emod_nonneg n (show (m : Int) ≠ 0 by omega)
    have := Int.emod_lt_of_pos n h1
    omega, by
    have := Int.emod_nonneg n (show (m : Int) ≠ 0 by omega)
    omega⟩
  rfl'
  refine ite_both (fun hc => ?_) (fun hc => ?_)
  · rfl'
    refine ⟨h1, ?_⟩
    rfl'
    refine ⟨⟨h1, by omega⟩, ?_⟩
    rfl'
    obtain ⟨k, hk, e⟩ := out g
    rw [e]
    exact hP _ _ k hk
  · rfl'
    have key : ∀ n s' : Int, P (.d (.int (n % (m : Int)))) [bx b g s'] := fun n s' => by
      obtain ⟨k, hk, e⟩ := out n
      rw [e]
      exact hP _ _ k hk
    exact ⟨h1, key _ _⟩
local macro_rules
  | `(tactic| fail) => `(tactic| first
    | with_reducible refine we_lst (tr := tCons _ _) ?_
    | with_reducible refine we_call (f := d_law_take) ?_
    | with_reducible refine we_call (f := d_law_pick) ?_
    | ((with_reducible refine Rx.ex_id ?_); first
      | refine ⟨[_], _, .refl _, _, _, _, _, rfl, rfl, Nat.le_of_ble_eq_true rfl, Nat.le_of_ble_eq_true rfl, ?_⟩
      | refine ⟨[_], [_], List.Perm.swap _ _ _, _, _, _, _, rfl, rfl, Nat.le_of_ble_eq_true rfl, Nat.le_of_ble_eq_true rfl, ?_⟩)
    | ((with_reducible refine Rx.and_id ?_); first
      | refine ⟨⟨_, 1, rfl⟩, ?_⟩))
theorem cal_law_pick (A : Fs P K mg) : CalX P w K mg base CX0 2 (fF K ("_law_pick", none)) ["_law_box_here", "_law_some"] (toSp K (d_law_pick)) := by
  obtain ⟨fd, F⟩ := A.f_law_pick
  obtain ⟨fd_law_take, G_law_take, p_law_take, b_law_take⟩ := cal_law_take (P := P) (w := w) (base := base) A
  have g_law_take := A.g_law_take
  refine ⟨fd, F.ok sc_law_pick (toSp_len (len_law_pick)) (fun cdv A0 outer s H vs Q E hr h => ⟨_, PSs.nox ((pss_one (ps_ret (pe_ix ix_list (pv 1) (pe_call G_law_take (hr.mono (by decide)) rfl g_law_take p_law_take b_law_take .nil pass0 (pa_cons (pv 0) (pa_cons (pe_callB call_len_seq (by rfl) A.b_len (by decide +kernel) (pa_cons (pv 1) pa_nil)) pa_nil))) (fun _ _ => rfl))))), to_body h fun W xs rs P hf => ?_⟩), F.kp, F.bindsN fun _ _ _ _ _ _ us hl => match us, hl with | [_, _], _ => rfl⟩
  obtain ⟨b, g, s, ds, rfl, rfl, h0, hm, hP⟩ := hf
  change WS W _ [some (.p b), some (.d (.list ds))] _ _
  rfl'
  refine ⟨[_], _, .refl _, b, g, s, ds.length, rfl, rfl, h0, hm, fun g' s' k hk => ?_⟩
  refine ⟨ds, k, ds[k], .d _, rfl, atI_nat (List.getElem?_eq_getElem hk), hP _ _ _ (List.getElem_mem hk)⟩
theorem cal_law_setup (A : Fs P K mg) : CalX P w K mg base CX0 3 (fF K ("_law_setup", none)) ["_law_box_here"] (toSp K (d_law_setup)) := by
  obtain ⟨fd, F⟩ := A.f_law_setup
  obtain ⟨fd_law_take, G_law_take, p_law_take, b_law_take⟩ := cal_law_take (P := P) (w := w) (base := base) A
  have g_law_take := A.g_law_take
  obtain ⟨fd_law_pick, G_law_pick, p_law_pick, b_law_pick⟩ := cal_law_pick (P := P) (w := w) (base := base) A
  have g_law_pick := A.g_law_pick
  refine ⟨fd, F.ok sc_law_setup (toSp_len (len_law_setup)) (fun cdv A0 outer s H vs Q E hr h => ⟨_, PSs.nox ((pss_cons (ps_set (i := 1) sc_law_setup.nd rfl (Or.inl rfl) (pe_lst pa_nil)) (pss_cons (ps_for PassesOwn.never rfl (pi_range1 (by rfl) A.b_range (pa_cons (pe_op op_add pe_int (pe_call G_law_take (hr.mono (by decide)) rfl g_law_take p_law_take b_law_take .nil pass0 (pa_cons (pv 0) (pa_cons pe_int pa_nil)))) pa_nil)) (pg_name (i := 2) sc_law_setup.nd rfl (Or.inl rfl)) (pss_cons (ps_set (i := 3) sc_law_setup.nd rfl (Or.inl rfl) (pe_op op_add pe_int (pe_call G_law_take (hr.mono (by decide)) rfl g_law_take p_law_take b_law_take .nil pass0 (pa_cons (pv 0) (pa_cons pe_int pa_nil))))) (pss_one (ps_expr (pe_bm PySem.F.plainAttrs_list PySem.F.slot_list_append PySem.F.type_list_append mt_append (pv 1) (pa_cons (pe_tup (pa_cons (pv 3) (pa_cons (pe_op op_add (pv 3) (pe_call G_law_take (hr.mono (by decide)) rfl g_law_take p_law_take b_law_take .nil pass0 (pa_cons (pv 0) (pa_cons pe_int pa_nil)))) (pa_cons (pe_op op_add pe_int (pe_call G_law_pick (hr.mono (by decide)) rfl g_law_pick p_law_pick b_law_pick .nil pass0 (pa_cons (pv 0) (pa_cons (pe_lst (pa_cons pe_int (pa_cons pe_int (pa_cons pe_int (pa_cons pe_int (pa_cons pe_int pa_nil)))))) pa_nil)))) pa_nil)))) pa_nil)))))) (pss_one (ps_ret (pe_tup (pa_cons (pe_callTy call_tuple_of (by rfl) A.b_tuple (by decide +kernel) (pa_cons (pv 1) pa_nil)) (pa_cons (pe_tup (pa_cons (pe_call G_law_take (hr.mono (by decide)) rfl g_law_take p_law_take b_law_take .nil pass0 (pa_cons (pv 0) (pa_cons pe_int pa_nil))) (pa_cons (pe_op op_add pe_int (pe_call G_law_take (hr.mono (by decide)) rfl g_law_take p_law_take b_law_take .nil pass0 (pa_cons (pv 0) (pa_cons pe_int pa_nil)))) pa_nil))) (pa_cons (pe_tup (pa_cons pe_int (pa_cons pe_int pa_nil))) pa_nil))))))))), to_body h fun W xs rs P hf => ?_⟩), F.kp, F.bindsN fun _ _ _ _ _ _ us hl => match us, hl with | [_], _ => rfl⟩
  obtain ⟨b, g, s, rfl, rfl, hP⟩ := hf
  change WS W _ [some (.p b), none, none, none] _ _
  rfl'
  refine we_lstR (wa_nil ⟨[], rfl, Nat.zero_le _, fun a => ?_⟩)
  rfl'
  refine ws_forF (fun xs i sl rs1 => ∃ (n : Nat) (g s : Int) (ks : List Knd) (q2 q3 : Option DV), xs = rgD 0 n ∧ 1 ≤ n ∧ n ≤ 3 ∧ sl = [some (.p b), some (.p a), q2, q3] ∧ rs1 = [bx b g s, (a, .lst (ks.map kdD))] ∧ ks.length = i ∧ ∀ k ∈ ks, k.ok) ?_ ?_ ?_
  · rfl'
    intro g s k hk
    have hk : k < 3 := hk
    rfl'
    refine ⟨by omega, by omega, 1 + k, g, s, [], none, none, ?_, by omega, by omega, rfl, rfl, rfl, fun _ h => by cases h⟩
    rw [show ((1 : Int) + (k : Int)).toNat = 1 + k by omega]
  · rintro xs i d sl rs1 hd ⟨n, g, s, ks, q2, q3, rfl, h1, h2, rfl, rfl, hl, ho⟩
    have hi := (rgD_at hd).1
    rfl'
    intro g s j hj
    have hj : j < 5 := hj
    rfl'
    intro g s k hk
    have hk : k < 9 := hk
    rfl'
    intro g s z hz
    obtain ⟨y, hy, rfl⟩ : ∃ y : Nat, (2 + y) ∈ [2, 3, 4, 8] ∧ z = nD y := by
      simp only [List.mem_cons, List.not_mem_nil, or_false] at hz
      rcases hz with rfl | rfl | rfl | rfl | rfl
      · exact ⟨0, by decide, rfl⟩
      · exact ⟨0, by decide, rfl⟩
      · exact ⟨1, by decide, rfl⟩
      · exact ⟨2, by decide, rfl⟩
      · exact ⟨6, by decide, rfl⟩
    rfl'
    refine ⟨_, _, 1, rfl, rfl, by rw [List.length_map]; omega, ?_⟩
    refine ⟨n, g, s, ks ++ [⟨1 + j, 1 + j + k, 2 + y⟩], _, _, rfl, h1, h2, rfl, ?_, by rw [List.length_append, hl]; rfl, fun x hx => ?_⟩
    · rw [List.map_append]
      simp only [List.map, kdD, nD, Int.natCast_add]
      rfl
    · rcases List.mem_append.mp hx with hx | hx
      · exact ho x hx
      · rw [List.mem_singleton.mp hx]
        exact ⟨by show 1 ≤ 1 + j; omega, by show 1 + j ≤ 1 + j + k; omega, by show 1 + j + k ≤ 1000; omega, hy⟩
  · rintro xs sl rs1 ⟨n, g, s, ks, q2, q3, rfl, h1, h2, rfl, rfl, hl, ho⟩
    rw [rgD_len] at hl
    refine ws_ret (we_dropE ?_)
    rfl'
    refine ⟨_, _, rfl, .l (.p ⟨1, rfl⟩), ?_⟩
    rfl'
    intro g s j hj
    have hj : j < 3 := hj
    rfl'
    intro g s k hk
    have hk : k < 9 := hk
    rfl'
    refine ⟨_, List.Sublist.cons_cons _ (List.nil_sublist _), rtD (hP g s ⟨ks, j, 3 + k, 1, 1⟩ ⟨by show 1 ≤ ks.length; omega, by show ks.length ≤ 6; omega, ho, by show j ≤ 3 + k; omega, by show 3 + k ≤ 10000; omega, (Nat.le_refl 1), (by decide : 1 ≤ 10000)⟩) ?_⟩
    simp only [suD, wayD, nD, Int.natCast_add]
    rfl
end
end Fw
end
section
set_option Elab.async false
set_option autoImplicit false
set_option linter.all false
set_option maxRecDepth 100000
set_option maxHeartbeats 1000000
/-! P12: marks, spans drawn. -/
namespace Fw
open PySem PySem.Spec PyProof.Rows L2 Dl Mx
local macro_rules
  | `(tactic| fail) => `(tactic| first
    | with_reducible refine ws_seq ?_
    | with_reducible refine ws_set ?_
    | with_reducible refine ws_ret ?_
    | with_reducible refine ws_if ?_
    | with_reducible refine ws_next ?_
    | with_reducible refine ws_break ?_
    | with_reducible refine ws_cont ?_
    | with_reducible refine ws_drop ?_
    | with_reducible refine ws_retN ?_
    | with_reducible refine ws_par ?_
    | ((with_reducible refine ws_id ?_); (with_reducible apply ws_aug); rfl)
    | ((with_reducible refine ws_id ?_); (with_reducible apply ws_augR); rfl)
    | with_reducible refine ws_asg ?_
    | ((with_reducible refine we_id ?_); (with_reducible apply we_var); rfl)
    | with_reducible refine we_int ?_
    | with_reducible refine we_non ?_
    | with_reducible refine we_bl ?_
    | with_reducible refine we_str ?_
    | with_reducible refine we_ty ?_
    | with_reducible refine we_opI ?_
    | with_reducible refine we_opB ?_
    | with_reducible refine we_opIC ?_
    | with_reducible refine we_eq ?_
    | with_reducible refine we_ne ?_
    | with_reducible refine we_isN ?_
    | with_reducible refine we_notN ?_
    | with_reducible refine we_chainI ?_
    | with_reducible refine we_chainE ?_
    | with_reducible refine we_chain3 ?_
    | with_reducible refine we_neg ?_
    | with_reducible refine we_andV ?_
    | with_reducible refine we_orV ?_
    | with_reducible refine we_notV ?_
    | with_reducible refine we_if ?_
    | with_reducible refine wt_test ?_
    | with_reducible refine wt_B ?_
    | with_reducible refine wt_not ?_
    | with_reducible refine wt_and ?_
    | with_reducible refine wt_or ?_
    | with_reducible refine wt_yes ?_
    | with_reducible refine wa_nil ?_
    | with_reducible refine wa_cons ?_
    | with_reducible refine we_tup ?_
    | with_reducible refine we_ixT ?_
    | with_reducible refine we_ixL ?_
    | with_reducible refine we_len ?_
    | with_reducible refine we_isi ?_
    | with_reducible refine we_isiSq ?_
    | with_reducible refine wg_name ?_
    | with_reducible refine we_slT ?_
    | with_reducible refine we_tuple ?_
    | with_reducible refine we_slL ?_
    | with_reducible refine wo_none ?_
    | with_reducible refine wo_some ?_
    | with_reducible refine we_callP ?_
    | with_reducible refine we_min2 ?_
    | with_reducible refine we_max2 ?_
    | with_reducible refine we_abs ?_
    | with_reducible refine we_all ?_
    | with_reducible refine we_any ?_
    | with_reducible refine we_append ?_
    | with_reducible refine we_extend ?_
    | with_reducible refine we_catL ?_
    | with_reducible refine ws_raise ?_
    | with_reducible refine we_inZ ?_
    | with_reducible refine we_catT ?_
    | with_reducible refine we_in ?_
    | with_reducible refine we_notIn ?_
    | with_reducible refine wg_tup ?_
    | with_reducible refine wgs_cons ?_
    | with_reducible refine wgs_nil ?_
    | with_reducible refine wi_rng1 ?_
    | with_reducible refine wi_rng2 ?_
    | with_reducible refine wi_lst ?_
    | with_reducible refine wi_tup ?_
    | with_reducible refine wi_enT ?_
    | with_reducible refine wi_enL ?_
    | with_reducible refine wi_zpTT ?_
    | with_reducible refine wi_zpTL ?_
    | with_reducible refine we_toInt ?_
    | with_reducible refine we_callPX ?_
    | ((with_reducible refine Rx.ex_id ?_); first
      | with_reducible refine ⟨_, _, rfl, rfl, ?_⟩
      | with_reducible refine ⟨_, _, rfl, .t _, ?_⟩
      | with_reducible refine ⟨_, _, rfl, .l (.d _), ?_⟩
      | with_reducible refine ⟨_, rfl, ?_⟩
      | with_reducible refine ⟨_, _, rfl, ?_⟩
      | refine ⟨_, _, _, rfl, rfl, rfl, ?_⟩
      | refine ⟨[_], rfl, Nat.le_of_ble_eq_true rfl, ?_⟩
      | refine ⟨[_, _], rfl, Nat.le_of_ble_eq_true rfl, ?_⟩
      | refine ⟨[_, _, _], rfl, Nat.le_of_ble_eq_true rfl, ?_⟩
      | refine ⟨[_, _, _, _], rfl, Nat.le_of_ble_eq_true rfl, ?_⟩
      | refine ⟨[_, _, _, _, _], rfl, Nat.le_of_ble_eq_true rfl, ?_⟩
      | refine ⟨[_, _, _, _, _, _], rfl, Nat.le_of_ble_eq_true rfl, ?_⟩
      | refine ⟨[_, _, _, _, _, _, _], rfl, Nat.le_of_ble_eq_true rfl, ?_⟩)
    | ((with_reducible refine Rx.and_id ?_); first
      | refine ⟨⟨_, 0, rfl⟩, ?_⟩
      | refine ⟨rfl, ?_⟩))
  | `(tactic| rfl') => `(tactic| repeat fail)
local macro_rules
  | `(tactic| fail) => `(tactic| first
    | with_reducible refine ws_setL ?_
    | ((with_reducible refine Rx.ex_id ?_); first
      | refine ⟨_, _, _, .p ⟨0, rfl⟩, rfl, rfl, ?_⟩
      | refine ⟨0, 0, _, rfl, rfl, Nat.le_of_ble_eq_true rfl, ?_⟩
      | refine ⟨1, 0, _, rfl, rfl, Nat.le_of_ble_eq_true rfl, ?_⟩)
    | ((with_reducible refine Rx.and_id ?_); first
      | refine ⟨by decide, ?_⟩
      | refine ⟨.inr ⟨by decide, by decide⟩, ?_⟩
      | refine ⟨.inl ⟨by decide, by decide⟩, ?_⟩
      | refine ⟨⟨by decide, by decide⟩, ?_⟩
      | refine ⟨⟨by decide, by decide, by decide⟩, ?_⟩))
local macro_rules
  | `(tactic| fail) => `(tactic| first
    | with_reducible refine we_lst (tr := tCons _ _) ?_
    | with_reducible refine we_call (f := d_law_take) ?_
    | with_reducible refine we_call (f := d_law_pick) ?_
    | ((with_reducible refine Rx.ex_id ?_); first
      | refine ⟨[_], _, .refl _, _, _, _, _, rfl, rfl, Nat.le_of_ble_eq_true rfl, Nat.le_of_ble_eq_true rfl, ?_⟩
      | refine ⟨[_], [_], List.Perm.swap _ _ _, _, _, _, _, rfl, rfl, Nat.le_of_ble_eq_true rfl, Nat.le_of_ble_eq_true rfl, ?_⟩)
    | ((with_reducible refine Rx.and_id ?_); first
      | refine ⟨⟨_, 1, rfl⟩, ?_⟩))
abbrev d_law_mark : Dsp := fun xs rs P X => ∃ (b : Addr) (g s : Int), xs = [.p b] ∧ rs = [bx b g s] ∧ ∀ (g' s' : Int) (m : Mark), m.ok → P (.d (mkD m)) [bx b g' s']
theorem len_law_mark : Len d_law_mark 1 := fun _ _ _ _ ⟨_, _, _, e, _⟩ => by rw [e]; rfl
abbrev d_law_span : Dsp := fun xs rs P X => ∃ (b : Addr) (g s : Int) (first many : Nat), xs = [.p b, .d (nD first), .d (nD many)] ∧ rs = [bx b g s] ∧ many ∈ pws ∧ ∀ (g' s' : Int) (sp : Span), sp.ok → sp.first = first → sp.many = many → P (.d (spD sp)) [bx b g' s']
theorem len_law_span : Len d_law_span 3 := fun _ _ _ _ ⟨_, _, _, _, _, e, _⟩ => by rw [e]; rfl
section
variable {P : Program} {w : World} {K : PySem.W.Frag} {mg : Str → Option Value} {base : Heap}
theorem cal_law_mark (A : Fs P K mg) : CalX P w K mg base CX0 3 (fF K ("_law_mark", none)) ["_law_box_here"] (toSp K (d_law_mark)) := by
  obtain ⟨fd, F⟩ := A.f_law_mark
  obtain ⟨fd_law_pick, G_law_pick, p_law_pick, b_law_pick⟩ := cal_law_pick (P := P) (w := w) (base := base) A
  have g_law_pick := A.g_law_pick
  obtain ⟨fd_law_take, G_law_take, p_law_take, b_law_take⟩ := cal_law_take (P := P) (w := w) (base := base) A
  have g_law_take := A.g_law_take
  refine ⟨fd, F.ok sc_law_mark (toSp_len (len_law_mark)) (fun cdv A0 outer s H vs Q E hr h => ⟨_, PSs.nox ((pss_cons (ps_set (i := 1) sc_law_mark.nd rfl (Or.inl rfl) (pe_call G_law_pick (hr.mono (by decide)) rfl g_law_pick p_law_pick b_law_pick .nil pass0 (pa_cons (pv 0) (pa_cons (pe_lst (pa_cons pe_int (pa_cons pe_int (pa_cons (pe_call G_law_take (hr.mono (by decide)) rfl g_law_take p_law_take b_law_take .nil pass0 (pa_cons (pv 0) (pa_cons pe_int pa_nil))) (pa_cons (pe_call G_law_take (hr.mono (by decide)) rfl g_law_take p_law_take b_law_take .nil pass0 (pa_cons (pv 0) (pa_cons pe_int pa_nil))) (pa_cons (pe_op op_add pe_int (pe_call G_law_take (hr.mono (by decide)) rfl g_law_take p_law_take b_law_take .nil pass0 (pa_cons (pv 0) (pa_cons pe_int pa_nil)))) (pa_cons (pe_op op_add pe_int (pe_call G_law_take (hr.mono (by decide)) rfl g_law_take p_law_take b_law_take .nil pass0 (pa_cons (pv 0) (pa_cons pe_int pa_nil)))) (pa_cons (pe_op op_pow pe_int pe_int) pa_nil)))))))) pa_nil)))) (pss_cons (ps_set (i := 2) sc_law_mark.nd rfl (Or.inl rfl) (pe_ifExp (pt_cmpR op_eq (pv 1) pe_int (nomark _)) pe_non (pe_call G_law_pick (hr.mono (by decide)) rfl g_law_pick p_law_pick b_law_pick .nil pass0 (pa_cons (pv 0) (pa_cons (pe_lst (pa_cons pe_int (pa_cons (pe_call G_law_take (hr.mono (by decide)) rfl g_law_take p_law_take b_law_take .nil pass0 (pa_cons (pv 0) (pa_cons pe_int pa_nil))) (pa_cons pe_int (pa_cons (pe_op op_sub (pe_op op_pow pe_int pe_int) pe_int) pa_nil))))) pa_nil))))) (pss_one (ps_ret (pe_tup (pa_cons (pv 1) (pa_cons (pe_op op_sub (pv 1) (pe_callB (call_min2 rfl) (by rfl) A.b_min (by decide +kernel) (pa_cons (pv 1) (pa_cons (pe_call G_law_pick (hr.mono (by decide)) rfl g_law_pick p_law_pick b_law_pick .nil pass0 (pa_cons (pv 0) (pa_cons (pe_lst (pa_cons pe_int (pa_cons pe_int (pa_cons pe_int (pa_cons (pe_call G_law_take (hr.mono (by decide)) rfl g_law_take p_law_take b_law_take .nil pass0 (pa_cons (pv 0) (pa_cons pe_int pa_nil))) (pa_cons (pe_call G_law_take (hr.mono (by decide)) rfl g_law_take p_law_take b_law_take .nil pass0 (pa_cons (pv 0) (pa_cons pe_int pa_nil))) (pa_cons pe_int pa_nil))))))) pa_nil))) pa_nil)))) (pa_cons (pv 2) pa_nil))))))))), to_body h fun W xs rs P hf => ?_⟩), F.kp, F.bindsN fun _ _ _ _ _ _ us hl => match us, hl with | [_], _ => rfl⟩
  obtain ⟨b, g, s, rfl, rfl, hP⟩ := hf
  change WS W _ [some (.p b), none, none] _ _
  rfl'
  intro g s j1 hj1
  have hj1 : j1 < 12 := hj1
  rfl'
  intro g s j2 hj2
  have hj2 : j2 < 40 := hj2
  rfl'
  intro g s j3 hj3
  have hj3 : j3 < 20 := hj3
  rfl'
  intro g s j4 hj4
  have hj4 : j4 < 20 := hj4
  rfl'
  intro g s z hz
  obtain ⟨laid, hl, rfl⟩ : ∃ y : Nat, y ≤ 100000 ∧ z = nD y := by
    simp only [List.mem_cons, List.not_mem_nil, or_false] at hz
    rcases hz with rfl | rfl | rfl | rfl | rfl | rfl | rfl
    · exact ⟨0, by decide, rfl⟩
    · exact ⟨1, by decide, rfl⟩
    · exact ⟨j1, by omega, rfl⟩
    · exact ⟨j2, by omega, rfl⟩
    · exact ⟨250 + j3, by omega, by simp only [nD, Int.natCast_add]; rfl⟩
    · exact ⟨65530 + j4, by omega, by simp only [nD, Int.natCast_add]; rfl⟩
    · exact ⟨100000, by decide, rfl⟩
  rfl'
  refine ite_both (fun hc => ?_) (fun hc => ?_)
  · have hc : laid = 0 := by simpa [deq] using hc
    rfl'
    intro g s k1 hk1
    have hk1 : k1 < 24 := hk1
    rfl'
    intro g s k2 hk2
    have hk2 : k2 < 24 := hk2
    rfl'
    intro g s z hz
    obtain ⟨v, hv, rfl⟩ : ∃ y : Nat, y ≤ 31 ∧ z = nD y := by
      simp only [List.mem_cons, List.not_mem_nil, or_false] at hz
      rcases hz with rfl | rfl | rfl | rfl | rfl | rfl
      · exact ⟨0, by decide, rfl⟩
      · exact ⟨1, by decide, rfl⟩
      · exact ⟨5, by decide, rfl⟩
      · exact ⟨k1, by omega, rfl⟩
      · exact ⟨k2, by omega, rfl⟩
      · exact ⟨31, by decide, rfl⟩
    rfl'
    refine rtD (hP g s ⟨laid, laid - v, none⟩ ⟨hl, Nat.sub_le _ _, by show laid - (laid - v) ≤ 40; omega, ⟨fun _ => rfl, fun _ => hc⟩, fun l e => by cases e⟩) ?_
    show PyData.tuple _ = PyData.tuple _
    have e : (if (v : Int) < (laid : Int) then (v : Int) else (laid : Int)) = (laid : Int) - ((laid - v : Nat) : Int) := by
      split <;> omega
    rw [e]
    have e2 : (laid : Int) - ((laid : Int) - ((laid - v : Nat) : Int)) = ((laid - v : Nat) : Int) := by omega
    rw [e2]
    rfl
  · have hc : ¬ laid = 0 := by simpa [deq] using hc
    rfl'
    intro g s k3 hk3
    have hk3 : k3 < 300 := hk3
    rfl'
    intro g s z hz
    obtain ⟨lst, hlst, rfl⟩ : ∃ y : Nat, y ≤ M4 ∧ z = nD y := by
      simp only [List.mem_cons, List.not_mem_nil, or_false] at hz
      rcases hz with rfl | rfl | rfl | rfl
      · exact ⟨0, by decide, rfl⟩
      · exact ⟨k3, by unfold M4; omega, rfl⟩
      · exact ⟨65536, by decide, rfl⟩
      · exact ⟨4294967295, by decide, rfl⟩
    rfl'
    intro g s k1 hk1
    have hk1 : k1 < 24 := hk1
    rfl'
    intro g s k2 hk2
    have hk2 : k2 < 24 := hk2
    rfl'
    intro g s z hz
    obtain ⟨v, hv, rfl⟩ : ∃ y : Nat, y ≤ 31 ∧ z = nD y := by
      simp only [List.mem_cons, List.not_mem_nil, or_false] at hz
      rcases hz with rfl | rfl | rfl | rfl | rfl | rfl
      · exact ⟨0, by decide, rfl⟩
      · exact ⟨1, by decide, rfl⟩
      · exact ⟨5, by decide, rfl⟩
      · exact ⟨k1, by omega, rfl⟩
      · exact ⟨k2, by omega, rfl⟩
      · exact ⟨31, by decide, rfl⟩
    rfl'
    refine rtD (hP g s ⟨laid, laid - v, some lst⟩ ⟨hl, Nat.sub_le _ _, by show laid - (laid - v) ≤ 40; omega, ⟨fun e => absurd e hc, fun e => by cases e⟩, fun l e => by cases e; exact hlst⟩) ?_
    show PyData.tuple _ = PyData.tuple _
    have e : (if (v : Int) < (laid : Int) then (v : Int) else (laid : Int)) = (laid : Int) - ((laid - v : Nat) : Int) := by
      split <;> omega
    rw [e]
    have e2 : (laid : Int) - ((laid : Int) - ((laid - v : Nat) : Int)) = ((laid - v : Nat) : Int) := by omega
    rw [e2]
    rfl
theorem cal_law_span (A : Fs P K mg) : CalX P w K mg base CX0 3 (fF K ("_law_span", none)) ["_law_box_here", "_law_first", "_law_many"] (toSp K (d_law_span)) := by
  obtain ⟨fd, F⟩ := A.f_law_span
  obtain ⟨fd_law_pick, G_law_pick, p_law_pick, b_law_pick⟩ := cal_law_pick (P := P) (w := w) (base := base) A
  have g_law_pick := A.g_law_pick
  obtain ⟨fd_law_take, G_law_take, p_law_take, b_law_take⟩ := cal_law_take (P := P) (w := w) (base := base) A
  have g_law_take := A.g_law_take
  refine ⟨fd, F.ok sc_law_span (toSp_len (len_law_span)) (fun cdv A0 outer s H vs Q E hr h => ⟨_, PSs.nox ((pss_cons (ps_set (i := 3) sc_law_span.nd rfl (Or.inl rfl) (pe_call G_law_pick (hr.mono (by decide)) rfl g_law_pick p_law_pick b_law_pick .nil pass0 (pa_cons (pv 0) (pa_cons (pe_lst (pa_cons (pe_op op_sub pe_int (pe_op op_pow pe_int pe_int)) (pa_cons pe_int (pa_cons (pe_op op_sub (pe_call G_law_take (hr.mono (by decide)) rfl g_law_take p_law_take b_law_take .nil pass0 (pa_cons (pv 0) (pa_cons pe_int pa_nil))) pe_int) (pa_cons (pe_op op_pow pe_int pe_int) pa_nil))))) pa_nil)))) (pss_cons (ps_set (i := 4) sc_law_span.nd rfl (Or.inl rfl) (pe_callB (call_min2 rfl) (by rfl) A.b_min (by decide +kernel) (pa_cons (pe_op op_pow pe_int pe_int) (pa_cons (pe_op op_add (pv 3) (pe_call G_law_pick (hr.mono (by decide)) rfl g_law_pick p_law_pick b_law_pick .nil pass0 (pa_cons (pv 0) (pa_cons (pe_lst (pa_cons pe_int (pa_cons pe_int (pa_cons (pe_call G_law_take (hr.mono (by decide)) rfl g_law_take p_law_take b_law_take .nil pass0 (pa_cons (pv 0) (pa_cons pe_int pa_nil))) (pa_cons (pe_op op_mul pe_int (pe_op op_pow pe_int pe_int)) pa_nil))))) pa_nil)))) pa_nil)))) (pss_cons (ps_if (pt_cmpR op_eq (pv 2) pe_int (nomark _)) (pss_one (ps_ret (pe_tup (pa_cons (pv 1) (pa_cons pe_int (pa_cons (pv 3) (pa_cons (pv 3) (pa_cons (pv 3) pa_nil)))))))) pss_nil) (pss_cons (ps_set (i := 5) sc_law_span.nd rfl (Or.inl rfl) (pe_op op_mul (pe_op op_sub (pv 2) pe_int) (pe_op op_sub (pv 4) (pv 3)))) (pss_one (ps_ret (pe_tup (pa_cons (pv 1) (pa_cons (pv 2) (pa_cons (pe_op op_add (pe_op op_add (pe_op op_mul (pv 3) (pe_op op_sub (pv 2) pe_int)) (pv 4)) (pe_call G_law_pick (hr.mono (by decide)) rfl g_law_pick p_law_pick b_law_pick .nil pass0 (pa_cons (pv 0) (pa_cons (pe_lst (pa_cons pe_int (pa_cons (pv 5) (pa_cons (pe_call G_law_take (hr.mono (by decide)) rfl g_law_take p_law_take b_law_take .nil pass0 (pa_cons (pv 0) (pa_cons (pe_op op_add (pv 5) pe_int) pa_nil))) pa_nil)))) pa_nil)))) (pa_cons (pv 3) (pa_cons (pv 4) pa_nil))))))))))))), to_body h fun W xs rs P hf => ?_⟩), F.kp, F.bindsN fun _ _ _ _ _ _ us hl => match us, hl with | [_, _, _], _ => rfl⟩
  obtain ⟨b, g, s, first, many, rfl, rfl, hm, hP⟩ := hf
  change WS W _ [some (.p b), some (.d (nD first)), some (.d (nD many)), none, none, none] _ _
  rfl'
  intro g s j1 hj1
  have hj1 : j1 < 3000 := hj1
  rfl'
  intro g s z hz
  obtain ⟨low, hl1, hl2, rfl⟩ : ∃ y : Int, -1000000 ≤ y ∧ y ≤ 1000000 ∧ z = .int y := by
    simp only [List.mem_cons, List.not_mem_nil, or_false] at hz
    rcases hz with rfl | rfl | rfl | rfl
    · exact ⟨-1000000, by decide, by decide, rfl⟩
    · exact ⟨0, by decide, by decide, rfl⟩
    · exact ⟨(j1 : Int) - 1500, by omega, by omega, rfl⟩
    · exact ⟨1000000, by decide, by decide, rfl⟩
  rfl'
  intro g s j2 hj2
  have hj2 : j2 < 300 := hj2
  rfl'
  intro g s z hz
  obtain ⟨up, hup, rfl⟩ : ∃ y : Nat, y ≤ 2000000 ∧ z = nD y := by
    simp only [List.mem_cons, List.not_mem_nil, or_false] at hz
    rcases hz with rfl | rfl | rfl | rfl
    · exact ⟨0, by decide, rfl⟩
    · exact ⟨1, by decide, rfl⟩
    · exact ⟨j2, by omega, rfl⟩
    · exact ⟨2000000, by decide, rfl⟩
  rfl'
  generalize hg : (if low + (up : Int) < 10 ^ Int.toNat 6 then low + (up : Int) else 10 ^ Int.toNat 6) = high
  have hh : low ≤ high ∧ high ≤ 1000000 := by
    rw [← hg, show (10 : Int) ^ Int.toNat 6 = 1000000 by decide]
    split <;> omega
  have hm2 : 1 ≤ many ∧ many ≤ 32 := by
    generalize many = z at hm
    revert z
    decide
  refine ite_both (fun hc => ?_) (fun hc => ?_)
  · have hc : (many : Int) = 1 := by simpa [deq] using hc
    have hc : many = 1 := by omega
    subst hc
    rfl'
    exact hP g s ⟨first, 1, low, low, low⟩ ⟨hm, hl1, hl2, hl1, hl2, by simp [trueOf]⟩ rfl rfl
  · have hc : ¬ (many : Int) = 1 := by simpa [deq] using hc
    have hb : (many - 2) * (high - low).toNat ≤ 30 * 2000000 := Nat.mul_le_mul (by omega) (by omega)
    have es : ((many : Int) - 2) * (high - low) = (((many - 2) * (high - low).toNat : Nat) : Int) := by
      rw [Int.natCast_mul]
      congr 1 <;> omega
    have key : ∀ y : Int, 0 ≤ y → y ≤ ((many : Int) - 2) * (high - low) → trueOf (many : Int) (low * ((many : Int) - 1) + high + y) low high = true := by
      intro y h0 h1
      unfold trueOf
      rw [if_neg hc]
      simp only [Bool.and_eq_true, decide_eq_true_eq]
      simp only [pws, List.mem_cons, List.not_mem_nil, or_false] at hm
      rcases hm with rfl | rfl | rfl | rfl | rfl | rfl <;> omega
    generalize (many - 2) * (high - low).toNat = spare at hb es
    rfl'
    refine ⟨.inl ⟨by omega, by omega⟩, ?_⟩
    rw [es] at key ⊢
    rfl'
    refine ⟨.inr ⟨by omega, by omega⟩, ?_⟩
    rfl'
    refine ⟨[_], _, .refl _, b, g, s, spare + 1, rfl, rfl, by omega, by omega, fun g s j hj => ?_⟩
    rfl'
    intro g s z hz
    obtain ⟨y, hy, rfl⟩ : ∃ y : Nat, y ≤ spare ∧ z = nD y := by
      simp only [List.mem_cons, List.not_mem_nil, or_false] at hz
      rcases hz with rfl | rfl | rfl
      · exact ⟨0, Nat.zero_le _, rfl⟩
      · exact ⟨spare, Nat.le_refl _, rfl⟩
      · exact ⟨j, by omega, rfl⟩
    rfl'
    exact hP g s ⟨first, many, low * ((many : Int) - 1) + high + (y : Int), low, high⟩ ⟨hm, hl1, hl2, by show -1000000 ≤ high; omega, hh.2, key _ (by omega) (by omega)⟩ rfl rfl
end
end Fw
end
section
set_option Elab.async false
set_option autoImplicit false
set_option linter.all false
set_option maxRecDepth 100000
set_option maxHeartbeats 1000000
/-! M4: the law's own shapes are the program's. -/
namespace Mx
open PySem Dl
def good (keep : Nat) (sz : List Nat) : Bool := sz.all (fun x => decide (x ∈ pws)) && decide (sz.length ≤ 41) && (match lawOver keep sz with
  | [] => true
  | o :: _ => sz[sz.idxOf o + 1]? == some o)
def goT (keep : Nat) : Nat → List Nat → Bool
  | 0, sz => good keep sz
  | t + 1, sz => good keep sz && goT keep t (lawStep keep sz)
def goN (keep : Nat) : Nat → Nat → List Nat → Bool
  | 0, n, sz => (sz == sizesOf keep n && sz.sum == n)
  | c + 1, n, sz => (sz == sizesOf keep n && sz.sum == n) && (goT keep 20 (sz ++ [1]) && goN keep c (n + 1) (lawTurns keep 20 (sz ++ [1])))
theorem goN_ok : ∀ k ∈ [2, 3, 4, 8], goN k 40 0 [] = true := by decide +kernel
theorem lawTurns_succ (k t : Nat) (sz : List Nat) : lawTurns k (t + 1) sz = lawStep k (lawTurns k t sz) := by
  induction t generalizing sz with
  | zero => rfl
  | succ t ih =>
    show lawTurns k (t + 1) (lawStep k sz) = _
    rw [ih]
    rfl
theorem goT_at {k : Nat} : ∀ {t : Nat} {sz : List Nat}, goT k t sz = true → ∀ j, j ≤ t → good k (lawTurns k j sz) = true
  | 0, sz, h, j, hj => by
    have : j = 0 := by omega
    subst this
    exact h
  | t + 1, sz, h, j, hj => by
    have h : (good k sz && goT k t (lawStep k sz)) = true := h
    rw [Bool.and_eq_true] at h
    cases j with
    | zero => exact h.1
    | succ j => exact goT_at h.2 j (by omega)
theorem goN_at {k : Nat} : ∀ {c n : Nat}, goN k c n (lawSizes k n) = true → ∀ j, j ≤ c → (lawSizes k (n + j) = sizesOf k (n + j) ∧ (lawSizes k (n + j)).sum = n + j) ∧ (j < c → goT k 20 (lawSizes k (n + j) ++ [1]) = true)
  | 0, n, h, j, hj => by
    have : j = 0 := by omega
    subst this
    have h : (lawSizes k n == sizesOf k n && (lawSizes k n).sum == n) = true := h
    rw [Bool.and_eq_true] at h
    exact ⟨⟨eq_of_beq h.1, eq_of_beq h.2⟩, fun h => by omega⟩
  | c + 1, n, h, j, hj => by
    have h : ((lawSizes k n == sizesOf k n && (lawSizes k n).sum == n) && (goT k 20 (lawSizes k n ++ [1]) && goN k c (n + 1) (lawSizes k (n + 1)))) = true := h
    rw [Bool.and_eq_true, Bool.and_eq_true, Bool.and_eq_true] at h
    cases j with
    | zero => exact ⟨⟨eq_of_beq h.1.1, eq_of_beq h.1.2⟩, fun _ => h.2.1⟩
    | succ j =>
      have := goN_at h.2.2 j (by omega)
      rw [show n + (j + 1) = n + 1 + j by omega]
      exact ⟨this.1, fun h => this.2 (by omega)⟩
theorem law_eq {k n : Nat} (hk : k ∈ [2, 3, 4, 8]) (hn : n ≤ 40) : lawSizes k n = sizesOf k n := by
  have := (goN_at (goN_ok k hk) n hn).1
  rw [Nat.zero_add] at this
  exact this.1
theorem law_sum {k n : Nat} (hk : k ∈ [2, 3, 4, 8]) (hn : n ≤ 40) : (lawSizes k n).sum = n := by
  have := (goN_at (goN_ok k hk) n hn).1
  rw [Nat.zero_add] at this
  exact this.2
theorem lawTurns_stop {k n : Nat} {sz : List Nat} : ∀ {j : Nat}, lawOver k (lawTurns k j sz) = [] → j ≤ n → lawTurns k n sz = lawTurns k j sz := by
  intro j h hj
  obtain ⟨d, rfl⟩ : ∃ d, n = j + d := ⟨n - j, by omega⟩
  induction d with
  | zero => rfl
  | succ d ih =>
    have := ih (by omega)
    show lawTurns k (j + d + 1) sz = _
    rw [lawTurns_succ, this]
    unfold lawStep
    rw [h]
theorem law_good {k n j : Nat} (hk : k ∈ [2, 3, 4, 8]) (hn : n < 40) (hj : j ≤ 20) : good k (lawTurns k j (lawSizes k n ++ [1])) = true := by
  have := (goN_at (goN_ok k hk) n (by omega)).2 hn
  rw [Nat.zero_add] at this
  exact goT_at this j hj
/-- two rising lists of the same members are one -/
theorem rising_eq : ∀ {xs ys : List Int}, xs.Pairwise (· < ·) → ys.Pairwise (· < ·) → (∀ n, n ∈ xs ↔ n ∈ ys) → xs = ys
  | [], [], _, _, _ => rfl
  | [], y :: ys, _, _, h => by
    have := (h y).mpr List.mem_cons_self
    cases this
  | x :: xs, [], _, _, h => by
    have := (h x).mp List.mem_cons_self
    cases this
  | x :: xs, y :: ys, hx, hy, h => by
    rw [List.pairwise_cons] at hx hy
    have e : x = y := by
      have h1 := (h x).mp List.mem_cons_self
      have h2 := (h y).mpr List.mem_cons_self
      rcases List.mem_cons.mp h1 with h1 | h1
      · exact h1
      · rcases List.mem_cons.mp h2 with h2 | h2
        · exact h2.symm
        · have a := hy.1 x h1
          have b := hx.1 y h2
          omega
    subst e
    rw [rising_eq hx.2 hy.2 fun n => ⟨fun hn => by
      rcases List.mem_cons.mp ((h n).mp (List.mem_cons_of_mem _ hn)) with z | z
      · have := hx.1 n hn
        omega
      · exact z, fun hn => by
      rcases List.mem_cons.mp ((h n).mpr (List.mem_cons_of_mem _ hn)) with z | z
      · have := hy.1 n hn
        omega
      · exact z⟩]
def iz (xs : List Nat) : List Int := xs.map fun n : Nat => (n : Int)
theorem iz_mem {xs : List Nat} {n : Nat} : (n : Int) ∈ iz xs ↔ n ∈ xs := by
  unfold iz
  rw [List.mem_map]
  constructor
  · rintro ⟨a, h, e⟩
    have : a = n := by omega
    exact this ▸ h
  · exact fun h => ⟨n, h, rfl⟩
theorem iz_nat {xs : List Nat} {i : Int} (h : i ∈ iz xs) : ∃ n : Nat, i = n ∧ n ∈ xs := by
  unfold iz at h
  obtain ⟨n, hn, e⟩ := List.mem_map.mp h
  exact ⟨n, e.symm, hn⟩
theorem iz_count {xs : List Nat} {n : Nat} : (iz xs).count (n : Int) = xs.count n := by
  unfold iz
  induction xs with
  | nil => rfl
  | cons x xs ih =>
    rw [List.map_cons, List.count_cons, List.count_cons, ih]
    congr 1
    by_cases h : x = n
    · subst h
      simp
    · have h2 : ¬ (x : Int) = (n : Int) := by omega
      rw [beq_eq_false_iff_ne.mpr h, beq_eq_false_iff_ne.mpr h2]
theorem iz_idx {xs : List Nat} {n : Nat} : (iz xs).idxOf (n : Int) = xs.idxOf n := by
  unfold iz
  induction xs with
  | nil => rfl
  | cons x xs ih =>
    rw [List.map_cons, List.idxOf_cons, List.idxOf_cons, ih]
    by_cases h : x = n
    · subst h
      simp
    · have h2 : ¬ (x : Int) = (n : Int) := by omega
      rw [beq_eq_false_iff_ne.mpr h, beq_eq_false_iff_ne.mpr h2]
def distinct (sz : List Nat) : List Nat := pws.filter fun p => decide (p ∈ sz)
theorem distinct_rises (sz : List Nat) : (iz (distinct sz)).Pairwise (· < ·) := by
  unfold iz distinct
  rw [List.pairwise_map]
  exact List.Pairwise.filter _ (by decide : pws.Pairwise fun a b : Nat => ((a : Int) < (b : Int)))
theorem distinct_mem {sz : List Nat} (h : ∀ x ∈ sz, x ∈ pws) {i : Int} : i ∈ iz (distinct sz) ↔ i ∈ iz sz := by
  constructor
  · intro hi
    obtain ⟨n, rfl, hn⟩ := iz_nat hi
    exact iz_mem.mpr (of_decide_eq_true (List.mem_filter.mp hn).2)
  · intro hi
    obtain ⟨n, rfl, hn⟩ := iz_nat hi
    exact iz_mem.mpr (List.mem_filter.mpr ⟨h n hn, decide_eq_true hn⟩)
theorem rows_app (f : Nat) (xs ys : List Nat) : rowsOf f (xs ++ ys) = rowsOf f xs ++ rowsOf (f + xs.sum) ys := by
  induction xs generalizing f with
  | nil => simp [rowsOf]
  | cons x xs ih => simp [rowsOf, ih, Nat.add_assoc]
theorem rows_len (f : Nat) (xs : List Nat) : (rowsOf f xs).length = xs.length := by
  induction xs generalizing f with
  | nil => rfl
  | cons x xs ih => simp [rowsOf, ih]
/-- one step: rows i and i+1 become one -/
theorem rows_step {f o i : Nat} {sz : List Nat} (h1 : sz[i]? = some o) (h2 : sz[i + 1]? = some o) : (rowsOf f sz)[i]? = some (f + (sz.take i).sum, o) ∧ rowsOf f (sz.take i ++ [2 * o] ++ sz.drop (i + 2)) = (rowsOf f sz).take i ++ [(f + (sz.take i).sum, 2 * o)] ++ (rowsOf f sz).drop (i + 2) := by
  obtain ⟨hi, e1⟩ := List.getElem?_eq_some_iff.mp h1
  obtain ⟨hi2, e2⟩ := List.getElem?_eq_some_iff.mp h2
  have es : sz = sz.take i ++ ([o, o] ++ sz.drop (i + 2)) := by
    have a := List.drop_eq_getElem_cons hi
    have b := List.drop_eq_getElem_cons hi2
    rw [e1] at a
    rw [e2] at b
    rw [b] at a
    show sz = sz.take i ++ (o :: o :: sz.drop (i + 2))
    rw [← a, List.take_append_drop]
  have hl : (sz.take i).length = i := by rw [List.length_take]; omega
  generalize sz.take i = A at es hl ⊢
  generalize sz.drop (i + 2) = B at es ⊢
  subst es
  have hA : (rowsOf f A).length = i := by rw [rows_len, hl]
  rw [rows_app f A ([o, o] ++ B)]
  constructor
  · rw [List.getElem?_append_right (by omega), hA, Nat.sub_self]
    rfl
  · rw [List.take_left' hA, show i + 2 = (rowsOf f A).length + 2 by omega, List.drop_append, rows_app, rows_app]
    have : f + (A ++ [2 * o]).sum = f + A.sum + o + o := by
      rw [List.sum_append]
      simp
      omega
    rw [this, List.drop_eq_nil_of_le (by omega), Nat.add_sub_cancel_left]
    rfl
end Mx
end
section
set_option Elab.async false
set_option autoImplicit false
set_option linter.all false
set_option maxRecDepth 100000
set_option maxHeartbeats 1000000
/-! P13: the law's shapes. -/
set_option pp.maxSteps 1200
namespace Fw
open PySem PySem.Spec PyProof.Rows L2 Dl Mx
local macro_rules
  | `(tactic| fail) => `(tactic| first
    | with_reducible refine ws_seq ?_
    | with_reducible refine ws_set ?_
    | with_reducible refine ws_ret ?_
    | with_reducible refine ws_if ?_
    | with_reducible refine ws_next ?_
    | with_reducible refine ws_break ?_
    | with_reducible refine ws_cont ?_
    | with_reducible refine ws_drop ?_
    | with_reducible refine ws_retN ?_
    | with_reducible refine ws_par ?_
    | ((with_reducible refine ws_id ?_); (with_reducible apply ws_aug); rfl)
    | ((with_reducible refine ws_id ?_); (with_reducible apply ws_augR); rfl)
    | with_reducible refine ws_asg ?_
    | ((with_reducible refine we_id ?_); (with_reducible apply we_var); rfl)
    | with_reducible refine we_int ?_
    | with_reducible refine we_non ?_
    | with_reducible refine we_bl ?_
    | with_reducible refine we_str ?_
    | with_reducible refine we_ty ?_
    | with_reducible refine we_opI ?_
    | with_reducible refine we_opB ?_
    | with_reducible refine we_opIC ?_
    | with_reducible refine we_eq ?_
    | with_reducible refine we_ne ?_
    | with_reducible refine we_isN ?_
    | with_reducible refine we_notN ?_
    | with_reducible refine we_chainI ?_
    | with_reducible refine we_chainE ?_
    | with_reducible refine we_chain3 ?_
    | with_reducible refine we_neg ?_
    | with_reducible refine we_andV ?_
    | with_reducible refine we_orV ?_
    | with_reducible refine we_notV ?_
    | with_reducible refine we_if ?_
    | with_reducible refine wt_test ?_
    | with_reducible refine wt_B ?_
    | with_reducible refine wt_not ?_
    | with_reducible refine wt_and ?_
    | with_reducible refine wt_or ?_
    | with_reducible refine wt_yes ?_
    | with_reducible refine wa_nil ?_
    | with_reducible refine wa_cons ?_
    | with_reducible refine we_tup ?_
    | with_reducible refine we_ixT ?_
    | with_reducible refine we_ixL ?_
    | with_reducible refine we_len ?_
    | with_reducible refine we_isi ?_
    | with_reducible refine we_isiSq ?_
    | with_reducible refine wg_name ?_
    | with_reducible refine we_slT ?_
    | with_reducible refine we_tuple ?_
    | with_reducible refine we_slL ?_
    | with_reducible refine wo_none ?_
    | with_reducible refine wo_some ?_
    | with_reducible refine we_callP ?_
    | with_reducible refine we_min2 ?_
    | with_reducible refine we_max2 ?_
    | with_reducible refine we_abs ?_
    | with_reducible refine we_all ?_
    | with_reducible refine we_any ?_
    | with_reducible refine we_append ?_
    | with_reducible refine we_extend ?_
    | with_reducible refine we_catL ?_
    | with_reducible refine ws_raise ?_
    | with_reducible refine we_inZ ?_
    | with_reducible refine we_catT ?_
    | with_reducible refine we_in ?_
    | with_reducible refine we_notIn ?_
    | with_reducible refine wg_tup ?_
    | with_reducible refine wgs_cons ?_
    | with_reducible refine wgs_nil ?_
    | with_reducible refine wi_rng1 ?_
    | with_reducible refine wi_rng2 ?_
    | with_reducible refine wi_lst ?_
    | with_reducible refine wi_tup ?_
    | with_reducible refine wi_enT ?_
    | with_reducible refine wi_enL ?_
    | with_reducible refine wi_zpTT ?_
    | with_reducible refine wi_zpTL ?_
    | with_reducible refine we_toInt ?_
    | with_reducible refine we_callPX ?_
    | ((with_reducible refine Rx.ex_id ?_); first
      | with_reducible refine ⟨_, _, rfl, rfl, ?_⟩
      | with_reducible refine ⟨_, _, rfl, .t _, ?_⟩
      | with_reducible refine ⟨_, _, rfl, .l (.d _), ?_⟩
      | with_reducible refine ⟨_, rfl, ?_⟩
      | with_reducible refine ⟨_, _, rfl, ?_⟩
      | refine ⟨_, _, _, rfl, rfl, rfl, ?_⟩
      | refine ⟨[_], rfl, Nat.le_of_ble_eq_true rfl, ?_⟩
      | refine ⟨[_, _], rfl, Nat.le_of_ble_eq_true rfl, ?_⟩
      | refine ⟨[_, _, _], rfl, Nat.le_of_ble_eq_true rfl, ?_⟩
      | refine ⟨[_, _, _, _], rfl, Nat.le_of_ble_eq_true rfl, ?_⟩
      | refine ⟨[_, _, _, _, _], rfl, Nat.le_of_ble_eq_true rfl, ?_⟩
      | refine ⟨[_, _, _, _, _, _], rfl, Nat.le_of_ble_eq_true rfl, ?_⟩
      | refine ⟨[_, _, _, _, _, _, _], rfl, Nat.le_of_ble_eq_true rfl, ?_⟩)
    | ((with_reducible refine Rx.and_id ?_); first
      | refine ⟨⟨_, 0, rfl⟩, ?_⟩
      | refine ⟨rfl, ?_⟩))
  | `(tactic| rfl') => `(tactic| repeat fail)
local macro_rules
  | `(tactic| fail) => `(tactic| first
    | with_reducible refine ws_setL ?_
    | ((with_reducible refine Rx.ex_id ?_); first
      | refine ⟨_, _, _, .p ⟨0, rfl⟩, rfl, rfl, ?_⟩
      | refine ⟨0, 0, _, rfl, rfl, Nat.le_of_ble_eq_true rfl, ?_⟩
      | refine ⟨1, 0, _, rfl, rfl, Nat.le_of_ble_eq_true rfl, ?_⟩)
    | ((with_reducible refine Rx.and_id ?_); first
      | refine ⟨by decide, ?_⟩
      | refine ⟨.inr ⟨by decide, by decide⟩, ?_⟩
      | refine ⟨.inl ⟨by decide, by decide⟩, ?_⟩
      | refine ⟨⟨by decide, by decide⟩, ?_⟩
      | refine ⟨⟨by decide, by decide, by decide⟩, ?_⟩))
local macro_rules
  | `(tactic| fail) => `(tactic| first
    | with_reducible refine we_count ?_
    | with_reducible refine we_index ?_
    | with_reducible refine we_eqD ?_
    | with_reducible refine we_neD ?_
    | with_reducible refine we_sortedSet ?_)
abbrev d_law_shape : Dsp := fun xs rs P X => ∃ k f l : Nat, xs = [.d (nD k), .d (nD f), .d (nD l)] ∧ k ∈ [2, 3, 4, 8] ∧ f ≤ l ∧ l - f ≤ 40 ∧ l ≤ 1000000 ∧ P (.d (.list ((shp k f l).map rowD))) rs
theorem len_law_shape : Len d_law_shape 3 := fun _ _ _ _ ⟨_, _, _, e, _⟩ => by rw [e]; rfl
abbrev izD (xs : List Nat) : PyData := .list ((iz xs).map .int)
theorem keepO_fil (l : List Nat) (p : Nat → Bool) : keepO (l.map fun x => if p x = true then some (nD x) else none) = (iz (l.filter p)).map .int := by
  induction l with
  | nil => rfl
  | cons x l ih =>
    rw [List.map_cons, List.filter_cons]
    by_cases h : p x = true
    · rw [if_pos h, if_pos h]
      simp only [keepO, ih]
      rfl
    · rw [if_neg h, if_neg h]
      simp only [keepO, ih]
theorem izAt {xs : List Nat} {i : Nat} {d : PyData} (h : ((iz xs).map PyData.int)[i]? = some d) : ∃ n, xs[i]? = some n ∧ d = nD n := by
  unfold iz at h
  rw [List.map_map, List.getElem?_map] at h
  obtain ⟨n, hn, e⟩ := Option.map_eq_some_iff.mp h
  exact ⟨n, hn, e.symm⟩
theorem izD_sh (xs : List Nat) : Sh 1 (izD xs) := sh_lst (n := 0) fun x hx => by
  obtain ⟨i, _, rfl⟩ := List.mem_map.mp hx
  exact sh_int _
theorem mu_D (f : Nat) (T : List Nat) {i : Nat} {d e : PyData} (hd : ((rowsOf f T).map rowD)[i]? = some d) (he : ((iz T).map PyData.int)[i]? = some e) : ∃ r : Nat × Nat, d = rowD r ∧ e = nD r.2 := by
  obtain ⟨r, hr, rfl⟩ := mapAt hd
  obtain ⟨n, hn, rfl⟩ := izAt he
  refine ⟨r, rfl, ?_⟩
  have h := rowsOf_snd T f
  have : ((rowsOf f T).map (·.2))[i]? = some r.2 := by rw [List.getElem?_map, hr]; rfl
  rw [h, hn] at this
  rw [Option.some.inj this]
theorem lawOver_eq (k : Nat) (T : List Nat) : (distinct T).filter (fun x => decide (k < T.count x)) = lawOver k T := rfl
theorem good_at {k : Nat} {T : List Nat} (h : good k T = true) : (∀ x ∈ T, x ∈ pws) ∧ T.length ≤ 41 ∧ ∀ o r, lawOver k T = o :: r → T[T.idxOf o]? = some o ∧ T[T.idxOf o + 1]? = some o ∧ o ∈ T ∧ o ≤ 32 := by
  unfold good at h
  rw [Bool.and_eq_true, Bool.and_eq_true] at h
  obtain ⟨⟨h1, h2⟩, h3⟩ := h
  have h1 : ∀ x ∈ T, x ∈ pws := fun x hx => of_decide_eq_true (List.all_eq_true.mp h1 x hx)
  refine ⟨h1, of_decide_eq_true h2, fun o r e => ?_⟩
  rw [e] at h3
  have ho : o ∈ T := by
    have : o ∈ lawOver k T := by rw [e]; exact List.mem_cons_self
    exact of_decide_eq_true (List.mem_filter.mp (List.mem_filter.mp this).1).2
  have hp := h1 o ho
  refine ⟨?_, eq_of_beq h3, ho, ?_⟩
  · have hi := List.idxOf_lt_length_of_mem ho
    rw [List.getElem?_eq_getElem hi, List.getElem_idxOf]
  · generalize o = z at hp
    revert z
    decide
section
variable {P : Program} {w : World} {K : PySem.W.Frag} {mg : Str → Option Value} {base : Heap}
theorem cal_law_shape (A : Fs P K mg) : CalX P w K mg base CX0 1 (fF K ("_law_shape", none)) ["_law_keep", "_law_first", "_law_laid"] (toSp K (d_law_shape)) := by
  obtain ⟨fd, F⟩ := A.f_law_shape
  refine ⟨fd, F.ok sc_law_shape (toSp_len (len_law_shape)) (fun cdv A0 outer s H vs Q E hr h => ⟨_, PSs.nox ((pss_cons (ps_set (i := 3) sc_law_shape.nd rfl (Or.inl rfl) (pe_lst pa_nil)) (pss_cons (ps_for PassesOwn.never rfl (pi_range2 (by rfl) A.b_range (pa_cons (pv 1) (pa_cons (pv 2) pa_nil))) (pg_name (i := 4) sc_law_shape.nd rfl (Or.inl rfl)) (pss_cons (ps_expr (pe_bm PySem.F.plainAttrs_list PySem.F.slot_list_append PySem.F.type_list_append mt_append (pv 3) (pa_cons (pe_tup (pa_cons (pv 4) (pa_cons pe_int pa_nil))) pa_nil))) (pss_cons (ps_set (i := 5) sc_law_shape.nd rfl (Or.inr rfl) (pe_lc (own := [("_law_one", 9), ("_law_many", 10)]) (g := (gTup K 2 (gCons (gName 9) (gCons (gName 10) gNil)))) (tt := tYes) rfl sc_law_shape.nd (pi_list (pv 3)) (blkOk_by (N := ["_law_keep", "_law_first", "_law_laid", "_law_found", "_law_row", "_law_sizes", "_law_over", "_law_turn", "_law_at", "_law_one", "_law_many", "_law_size"]) (sc := defScope s_law_shape) (by decide +kernel)) (fun _ _ _ _ _ => (pg_tup (n := 2) rfl (pgs_cons (pg_name (i := 9) sc_law_shape.nd rfl (Or.inl rfl)) (pgs_cons (pg_name (i := 10) sc_law_shape.nd rfl (Or.inl rfl)) pgs_nil)))) (fun _ _ _ _ _ => pts_nil) (fun _ _ _ _ _ => (pv 10)))) (pss_cons (ps_setLc (i := 6) (own := [("_law_size", 11)]) (g := (gName 11)) rfl sc_law_shape.nd rfl rfl (sw_true rfl rfl rfl (by decide +kernel)) (pi_list (pe_callB (cr_sortedSet rfl) (by rfl) A.b_sorted (by decide +kernel) (pa_cons (pe_callTy (Rx.cr_setL rfl) (by rfl) A.b_set (by decide +kernel) (pa_cons (pv 5) pa_nil)) pa_nil))) (blkOk_by (N := ["_law_keep", "_law_first", "_law_laid", "_law_found", "_law_row", "_law_sizes", "_law_over", "_law_turn", "_law_at", "_law_one", "_law_many", "_law_size"]) (sc := defScope s_law_shape) (by decide +kernel)) (fun _ _ _ _ _ => (pg_name (i := 11) sc_law_shape.nd rfl (Or.inl rfl))) (fun _ _ _ _ _ => (pts_one (pt_cmpR op_gt (Rx.pe_lcountK (K := K) rfl (pv 5) (pa_cons (pv 11) pa_nil)) (pv 0) (nomark _)))) (fun _ _ _ _ _ => (pv 11))) (pss_one (ps_for PassesOwn.never rfl (pi_range1 (by rfl) A.b_range (pa_cons pe_int pa_nil)) (pg_name (i := 7) sc_law_shape.nd rfl (Or.inl rfl)) (pss_cons (ps_if (pt_cmpR (op_eqD (hu64 hr)) (pv 6) (pe_lst pa_nil) (nomark _)) (pss_one ps_break) pss_nil) (pss_cons (ps_set (i := 8) sc_law_shape.nd rfl (Or.inl rfl) (pe_bm PySem.F.plainAttrs_list PySem.F.slot_list_index PySem.F.type_list_index mt_index (pv 5) (pa_cons (pe_ix ix_list (pv 6) pe_int (fun _ _ => rfl)) pa_nil))) (pss_cons (ps_set (i := 3) sc_law_shape.nd rfl (Or.inl rfl) (pe_op op_cat (pe_op op_cat (pe_slice sl_list (pv 3) po_none (po_some (pv 8))) (pe_lst (pa_cons (pe_tup (pa_cons (pe_ix ix_tup (pe_ix ix_list (pv 3) (pv 8) (fun _ _ => rfl)) pe_int (fun _ _ => rfl)) (pa_cons (pe_op op_mul pe_int (pe_ix ix_list (pv 6) pe_int (fun _ _ => rfl))) pa_nil))) pa_nil))) (pe_slice sl_list (pv 3) (po_some (pe_op op_add (pv 8) pe_int)) po_none))) (pss_cons (ps_set (i := 5) sc_law_shape.nd rfl (Or.inr rfl) (pe_lc (own := [("_law_one", 9), ("_law_many", 10)]) (g := (gTup K 2 (gCons (gName 9) (gCons (gName 10) gNil)))) (tt := tYes) rfl sc_law_shape.nd (pi_list (pv 3)) (blkOk_by (N := ["_law_keep", "_law_first", "_law_laid", "_law_found", "_law_row", "_law_sizes", "_law_over", "_law_turn", "_law_at", "_law_one", "_law_many", "_law_size"]) (sc := defScope s_law_shape) (by decide +kernel)) (fun _ _ _ _ _ => (pg_tup (n := 2) rfl (pgs_cons (pg_name (i := 9) sc_law_shape.nd rfl (Or.inl rfl)) (pgs_cons (pg_name (i := 10) sc_law_shape.nd rfl (Or.inl rfl)) pgs_nil)))) (fun _ _ _ _ _ => pts_nil) (fun _ _ _ _ _ => (pv 10)))) (pss_one (ps_setLc (i := 6) (own := [("_law_size", 11)]) (g := (gName 11)) rfl sc_law_shape.nd rfl rfl (sw_true rfl rfl rfl (by decide +kernel)) (pi_list (pe_callB (cr_sortedSet rfl) (by rfl) A.b_sorted (by decide +kernel) (pa_cons (pe_callTy (Rx.cr_setL rfl) (by rfl) A.b_set (by decide +kernel) (pa_cons (pv 5) pa_nil)) pa_nil))) (blkOk_by (N := ["_law_keep", "_law_first", "_law_laid", "_law_found", "_law_row", "_law_sizes", "_law_over", "_law_turn", "_law_at", "_law_one", "_law_many", "_law_size"]) (sc := defScope s_law_shape) (by decide +kernel)) (fun _ _ _ _ _ => (pg_name (i := 11) sc_law_shape.nd rfl (Or.inl rfl))) (fun _ _ _ _ _ => (pts_one (pt_cmpR op_gt (Rx.pe_lcountK (K := K) rfl (pv 5) (pa_cons (pv 11) pa_nil)) (pv 0) (nomark _)))) (fun _ _ _ _ _ => (pv 11)))))))))))))) (pss_one (ps_ret (pv 3)))))), to_body h fun W xs rs P hf => ?_⟩), F.kp, F.bindsN fun _ _ _ _ _ _ us hl => match us, hl with | [_, _, _], _ => rfl⟩
  obtain ⟨k, f, l, rfl, hk, hfl, hw, hl0, hP⟩ := hf
  change WS W _ [some (.d (nD k)), some (.d (nD f)), some (.d (nD l)), none, none, none, none, none, none, none, none, none] rs _
  rfl'
  refine we_lstR (wa_nil ⟨[], rfl, Nat.zero_le _, fun a => ?_⟩)
  rfl'
  refine ws_for (Iv := fun i sl rs1 => ∃ (a : Addr) (q4 q5 q6 q7 q8 : Option DV), sl = [some (.d (nD k)), some (.d (nD f)), some (.d (nD l)), some (.p a), q4, q5, q6, q7, q8, none, none, none] ∧ rs1 = (a, .lst ((rowsOf f (lawSizes k i)).map rowD)) :: rs) (xs := rgD f (l - f)) ?_ ?_ ?_
  · rfl'
    refine ⟨by omega, by omega, by omega, by omega, ?_, a, none, none, none, none, none, rfl, rfl⟩
    congr 1
    omega
  · rintro i d sl rs1 hd ⟨a, q4, q5, q6, q7, q8, rfl, rfl⟩
    obtain ⟨hi, rfl⟩ := rgD_at hd
    have hi40 : i < 40 := by omega
    have hsum := law_sum hk (show i ≤ 40 by omega)
    have hg : ∀ j, j ≤ 20 → good k (lawTurns k j (lawSizes k i ++ [1])) = true := fun j hj => law_good hk hi40 hj
    have hg0 := good_at (hg 0 (by omega))
    have hlen0 : (lawSizes k i).length ≤ 40 := by
      have := hg0.2.1
      change (lawSizes k i ++ [1]).length ≤ 41 at this
      rw [List.length_append] at this
      change _ + 1 ≤ 41 at this
      omega
    rfl'
    refine ⟨_, _, 0, rfl, rfl, by rw [List.length_map, rows_len]; omega, ?_⟩
    have er : (rowsOf f (lawSizes k i)).map rowD ++ [PyData.tuple [.int ((f : Int) + (i : Nat)), .int 1]] = (rowsOf f (lawTurns k 0 (lawSizes k i ++ [1]))).map rowD := by
      show _ = (rowsOf f (lawSizes k i ++ [1])).map rowD
      rw [rows_app, List.map_append, hsum]
      rfl
    have el : lawSizes k (i + 1) = lawTurns k 20 (lawSizes k i ++ [1]) := rfl
    rw [er]
    rw [el]
    generalize lawSizes k i ++ [1] = S at hg ⊢
    rfl'
    have hg0 := good_at (hg 0 (by omega))
    have hgl := hg0.2.1
    refine we_mapR (a := a) ((rowsOf f (lawTurns k 0 S)).map rowD) ((iz (lawTurns k 0 S)).map PyData.int) rfl ⟨0, rfl⟩ (own2 (by decide) (by decide)) (by simp [iz, rows_len]) (by rw [List.length_map, rows_len]; omega) ?_ ?_
    · intro i d e hd he
      obtain ⟨r, rfl, rfl⟩ := mu_D f _ hd he
      rfl'
      rfl
    rfl'
    refine we_fm (ds := (iz (distinct (lawTurns k 0 S))).map PyData.int) (es := (distinct (lawTurns k 0 S)).map fun x => if decide (k < List.count x (lawTurns k 0 S)) = true then some (nD x) else none) (own1 (by decide)) (by simp [iz]) (by simp [iz, distinct]; exact Nat.le_trans (List.length_filter_le _ _) (by decide)) ?_ ?_ ?_
    · rfl'
      refine ⟨by simp [iz]; omega, fun ms h1 h2 h3 => ?_⟩
      have : ms = iz (distinct (lawTurns k 0 S)) := rising_eq h1 (distinct_rises _) fun n => (h2 n).trans (distinct_mem hg0.1).symm
      rw [this]
      exact ⟨_, rfl, rfl, rfl⟩
    · intro i d o hd ho
      obtain ⟨n, hn, rfl⟩ := izAt hd
      have ho : o = if decide (k < List.count n (lawTurns k 0 S)) = true then some (nD n) else none := by
        rw [List.getElem?_map, hn] at ho
        exact (Option.some.inj ho).symm
      rfl'
      rw [show (iz (lawTurns k 0 S)).count (n : Int) = List.count n (lawTurns k 0 S) from iz_count]
      by_cases hc : k < List.count n (lawTurns k 0 S)
      · rw [if_pos (decide_eq_true hc)] at ho
        subst ho
        refine ⟨decide_eq_true (by omega), ?_⟩
        rfl'
        rfl
      · rw [if_neg (by rw [decide_eq_false hc]; exact Bool.false_ne_true)] at ho
        subst ho
        exact ⟨decide_eq_false (by omega), rfl⟩
    rw [keepO_fil, lawOver_eq]
    rfl'
    refine ws_for (Iv := fun j sl rs1 => ∃ (a : Addr) (q4 q7 q8 : Option DV), sl = [some (.d (nD k)), some (.d (nD f)), some (.d (nD l)), some (.p a), q4, some (.d (izD (lawTurns k j S))), some (.d (izD (lawOver k (lawTurns k j S)))), q7, q8, none, none, none] ∧ rs1 = (a, .lst ((rowsOf f (lawTurns k j S)).map rowD)) :: rs) (xs := rgD 0 20) ?_ ?_ ?_
    · rfl'
      exact ⟨a, _, _, _, rfl, rfl⟩
    · rintro j d sl rs1 hd ⟨a, q4, q7, q8, rfl, rfl⟩
      obtain ⟨hj, rfl⟩ := rgD_at hd
      have hgj := good_at (hg j (by omega))
      have hgn := good_at (hg (j + 1) (by omega))
      have hlj := hgj.2.1
      have hln := hgn.2.1
      rfl'
      refine we_lst ?_
      rfl'
      refine ⟨[], rfl, Nat.zero_le _, izD (lawOver k (lawTurns k j S)), .list [], rfl, rfl, (izD_sh _).s, (izD_sh []).s, ?_⟩
      cases hov : lawOver k (lawTurns k j S) with
      | nil =>
        rfl'
        refine ite_T rfl ?_
        rfl'
        rw [lawTurns_stop hov (show j ≤ 20 by omega)]
        exact ⟨a, _, _, _, _, _, rfl, rfl⟩
      | cons o r =>
        obtain ⟨g1, g2, g3, g4⟩ := hgj.2.2 o r hov
        have hstep : lawTurns k (j + 1) S = (lawTurns k j S).take ((lawTurns k j S).idxOf o) ++ [2 * o] ++ (lawTurns k j S).drop ((lawTurns k j S).idxOf o + 2) := by
          rw [lawTurns_succ]
          unfold lawStep
          rw [hov]
        obtain ⟨r1, r2⟩ := rows_step (f := f) g1 g2
        rw [← hstep] at r2
        generalize lawTurns k j S = T at *
        rfl'
        refine ite_F rfl ?_
        rfl'
        refine ⟨_, _, nD o, .d _, rfl, atI_nat (xs := (iz (o :: r)).map PyData.int) (j := 0) (v := nD o) rfl, ?_⟩
        rfl'
        refine ⟨iz_mem.mpr g3, ?_⟩
        rw [iz_idx]
        refine ws_seq (ws_set (we_catLR ?_))
        rfl'
        generalize T.idxOf o = at1 at *
        have hra : ((rowsOf f T).map rowD)[at1]? = some (rowD (f + (T.take at1).sum, o)) := by rw [List.getElem?_map, r1]; rfl
        refine ⟨_, .p ⟨0, rfl⟩, ?_⟩
        rw [cutD_take (by omega), Int.toNat_natCast]
        refine we_lst ?_
        rfl'
        refine ⟨_, _, _, .p ⟨0, rfl⟩, rfl, atI_nat hra, ?_⟩
        rfl'
        refine ⟨_, _, nD o, .d _, rfl, atI_nat (xs := (iz (o :: r)).map PyData.int) (j := 0) (v := nD o) rfl, ?_⟩
        rfl'
        refine ⟨_, _, .d _, .d _, ?_, ?_⟩
        · rw [List.length_take, List.length_map, rows_len]
          show min _ _ + 1 ≤ _
          omega
        rfl'
        refine ⟨_, .p ⟨0, rfl⟩, ?_⟩
        rw [cutD_drop (by omega)]
        refine ⟨_, _, .d _, .d _, ?_, fun a2 => ?_⟩
        · rw [List.length_append, List.length_take, List.length_drop, List.length_map, rows_len]
          show min _ _ + 1 + _ ≤ _
          omega
        have hnew : (((rowsOf f T).map rowD).take at1 ++ [PyData.tuple [nD (f + (T.take at1).sum), .int (2 * (o : Nat))]]) ++ ((rowsOf f T).map rowD).drop ((at1 : Int) + 2).toNat = (rowsOf f (lawTurns k (j + 1) S)).map rowD := by
          rw [show ((at1 : Int) + 2).toNat = at1 + 2 by omega, r2, List.map_append, List.map_append, List.map_take, List.map_drop]
          rfl
        rw [hnew]
        generalize lawTurns k (j + 1) S = T2 at *
        refine ws_seq (ws_set (we_mapR (a := a2) ((rowsOf f (T2)).map rowD) ((iz (T2)).map PyData.int) rfl ⟨0, rfl⟩ (own2 (by decide) (by decide)) (by simp [iz, rows_len]) (by rw [List.length_map, rows_len]; omega) ?_ ?_))
        · intro i d e hd he
          obtain ⟨r, rfl, rfl⟩ := mu_D f _ hd he
          rfl'
          rfl
        refine ws_set (we_drop (rs2 := (a2, .lst ((rowsOf f T2).map rowD)) :: rs) ?_)
        refine we_fm (ds := (iz (distinct (T2))).map PyData.int) (es := (distinct (T2)).map fun x => if decide (k < List.count x (T2)) = true then some (nD x) else none) (own1 (by decide)) (by simp [iz]) (by simp [iz, distinct]; exact Nat.le_trans (List.length_filter_le _ _) (by decide)) ?_ ?_ ?_
        · rfl'
          refine ⟨by simp [iz]; omega, fun ms h1 h2 h3 => ?_⟩
          have : ms = iz (distinct (T2)) := rising_eq h1 (distinct_rises _) fun n => (h2 n).trans (distinct_mem hgn.1).symm
          rw [this]
          exact ⟨_, rfl, rfl, rfl⟩
        · intro i d o hd ho
          obtain ⟨n, hn, rfl⟩ := izAt hd
          have ho : o = if decide (k < List.count n (T2)) = true then some (nD n) else none := by
            rw [List.getElem?_map, hn] at ho
            exact (Option.some.inj ho).symm
          rfl'
          rw [show (iz (T2)).count (n : Int) = List.count n (T2) from iz_count]
          by_cases hc : k < List.count n (T2)
          · rw [if_pos (decide_eq_true hc)] at ho
            subst ho
            refine ⟨decide_eq_true (by omega), ?_⟩
            rfl'
            rfl
          · rw [if_neg (by rw [decide_eq_false hc]; exact Bool.false_ne_true)] at ho
            subst ho
            exact ⟨decide_eq_false (by omega), rfl⟩
        rw [keepO_fil, lawOver_eq]
        exact ⟨List.Sublist.cons_cons _ (List.sublist_cons_self _ _), a2, _, _, _, rfl, rfl⟩
    · rintro sl rs1 ⟨a, q4, q7, q8, rfl, rfl⟩
      rw [rgD_len]
      exact ⟨a, _, _, _, _, _, rfl, rfl⟩
  · rintro sl rs1 ⟨a, q4, q5, q6, q7, q8, rfl, rfl⟩
    rw [rgD_len, law_eq hk hw]
    refine ws_ret (we_frz (a := a) (ds := (shp k f l).map rowD) ?_)
    rfl'
    exact ⟨rs, rfl, .refl _, hP⟩
end
end Fw
end
section
set_option Elab.async false
set_option autoImplicit false
set_option linter.all false
set_option maxRecDepth 100000
set_option maxHeartbeats 1000000
/-! P14: frames drawn, forms bent. -/
set_option pp.maxSteps 1200
namespace Fw
open PySem PySem.Spec PyProof.Rows L2 Dl Mx
local macro_rules
  | `(tactic| fail) => `(tactic| first
    | with_reducible refine ws_seq ?_
    | with_reducible refine ws_set ?_
    | with_reducible refine ws_ret ?_
    | with_reducible refine ws_if ?_
    | with_reducible refine ws_next ?_
    | with_reducible refine ws_break ?_
    | with_reducible refine ws_cont ?_
    | with_reducible refine ws_drop ?_
    | with_reducible refine ws_retN ?_
    | with_reducible refine ws_par ?_
    | ((with_reducible refine ws_id ?_); (with_reducible apply ws_aug); rfl)
    | ((with_reducible refine ws_id ?_); (with_reducible apply ws_augR); rfl)
    | with_reducible refine ws_asg ?_
    | ((with_reducible refine we_id ?_); (with_reducible apply we_var); rfl)
    | with_reducible refine we_int ?_
    | with_reducible refine we_non ?_
    | with_reducible refine we_bl ?_
    | with_reducible refine we_str ?_
    | with_reducible refine we_ty ?_
    | with_reducible refine we_opI ?_
    | with_reducible refine we_opB ?_
    | with_reducible refine we_opIC ?_
    | with_reducible refine we_eq ?_
    | with_reducible refine we_ne ?_
    | with_reducible refine we_isN ?_
    | with_reducible refine we_notN ?_
    | with_reducible refine we_chainI ?_
    | with_reducible refine we_chainE ?_
    | with_reducible refine we_chain3 ?_
    | with_reducible refine we_neg ?_
    | with_reducible refine we_andV ?_
    | with_reducible refine we_orV ?_
    | with_reducible refine we_notV ?_
    | with_reducible refine we_if ?_
    | with_reducible refine wt_test ?_
    | with_reducible refine wt_B ?_
    | with_reducible refine wt_not ?_
    | with_reducible refine wt_and ?_
    | with_reducible refine wt_or ?_
    | with_reducible refine wt_yes ?_
    | with_reducible refine wa_nil ?_
    | with_reducible refine wa_cons ?_
    | with_reducible refine we_tup ?_
    | with_reducible refine we_ixT ?_
    | with_reducible refine we_ixL ?_
    | with_reducible refine we_len ?_
    | with_reducible refine we_isi ?_
    | with_reducible refine we_isiSq ?_
    | with_reducible refine wg_name ?_
    | with_reducible refine we_slT ?_
    | with_reducible refine we_tuple ?_
    | with_reducible refine we_slL ?_
    | with_reducible refine wo_none ?_
    | with_reducible refine wo_some ?_
    | with_reducible refine we_callP ?_
    | with_reducible refine we_min2 ?_
    | with_reducible refine we_max2 ?_
    | with_reducible refine we_abs ?_
    | with_reducible refine we_all ?_
    | with_reducible refine we_any ?_
    | with_reducible refine we_append ?_
    | with_reducible refine we_extend ?_
    | with_reducible refine we_catL ?_
    | with_reducible refine ws_raise ?_
    | with_reducible refine we_inZ ?_
    | with_reducible refine we_catT ?_
    | with_reducible refine we_in ?_
    | with_reducible refine we_notIn ?_
    | with_reducible refine wg_tup ?_
    | with_reducible refine wgs_cons ?_
    | with_reducible refine wgs_nil ?_
    | with_reducible refine wi_rng1 ?_
    | with_reducible refine wi_rng2 ?_
    | with_reducible refine wi_lst ?_
    | with_reducible refine wi_tup ?_
    | with_reducible refine wi_enT ?_
    | with_reducible refine wi_enL ?_
    | with_reducible refine wi_zpTT ?_
    | with_reducible refine wi_zpTL ?_
    | with_reducible refine we_toInt ?_
    | with_reducible refine we_callPX ?_
    | ((with_reducible refine Rx.ex_id ?_); first
      | with_reducible refine ⟨_, _, rfl, rfl, ?_⟩
      | with_reducible refine ⟨_, _, rfl, .t _, ?_⟩
      | with_reducible refine ⟨_, _, rfl, .l (.d _), ?_⟩
      | with_reducible refine ⟨_, rfl, ?_⟩
      | with_reducible refine ⟨_, _, rfl, ?_⟩
      | refine ⟨_, _, _, rfl, rfl, rfl, ?_⟩
      | refine ⟨[_], rfl, Nat.le_of_ble_eq_true rfl, ?_⟩
      | refine ⟨[_, _], rfl, Nat.le_of_ble_eq_true rfl, ?_⟩
      | refine ⟨[_, _, _], rfl, Nat.le_of_ble_eq_true rfl, ?_⟩
      | refine ⟨[_, _, _, _], rfl, Nat.le_of_ble_eq_true rfl, ?_⟩
      | refine ⟨[_, _, _, _, _], rfl, Nat.le_of_ble_eq_true rfl, ?_⟩
      | refine ⟨[_, _, _, _, _, _], rfl, Nat.le_of_ble_eq_true rfl, ?_⟩
      | refine ⟨[_, _, _, _, _, _, _], rfl, Nat.le_of_ble_eq_true rfl, ?_⟩)
    | ((with_reducible refine Rx.and_id ?_); first
      | refine ⟨⟨_, 0, rfl⟩, ?_⟩
      | refine ⟨rfl, ?_⟩))
  | `(tactic| rfl') => `(tactic| repeat fail)
local macro_rules
  | `(tactic| fail) => `(tactic| first
    | with_reducible refine ws_setL ?_
    | ((with_reducible refine Rx.ex_id ?_); first
      | refine ⟨_, _, _, .p ⟨0, rfl⟩, rfl, rfl, ?_⟩
      | refine ⟨0, 0, _, rfl, rfl, Nat.le_of_ble_eq_true rfl, ?_⟩
      | refine ⟨1, 0, _, rfl, rfl, Nat.le_of_ble_eq_true rfl, ?_⟩)
    | ((with_reducible refine Rx.and_id ?_); first
      | refine ⟨by decide, ?_⟩
      | refine ⟨.inr ⟨by decide, by decide⟩, ?_⟩
      | refine ⟨.inl ⟨by decide, by decide⟩, ?_⟩
      | refine ⟨⟨by decide, by decide⟩, ?_⟩
      | refine ⟨⟨by decide, by decide, by decide⟩, ?_⟩))
local macro_rules
  | `(tactic| fail) => `(tactic| first
    | with_reducible refine we_lst (tr := tCons _ _) ?_
    | with_reducible refine we_call (f := d_law_take) ?_
    | with_reducible refine we_call (f := d_law_pick) ?_
    | ((with_reducible refine Rx.ex_id ?_); first
      | refine ⟨[_], _, .refl _, _, _, _, _, rfl, rfl, Nat.le_of_ble_eq_true rfl, Nat.le_of_ble_eq_true rfl, ?_⟩
      | refine ⟨[_], [_], List.Perm.swap _ _ _, _, _, _, _, rfl, rfl, Nat.le_of_ble_eq_true rfl, Nat.le_of_ble_eq_true rfl, ?_⟩)
    | ((with_reducible refine Rx.and_id ?_); first
      | refine ⟨⟨_, 1, rfl⟩, ?_⟩))
local macro_rules
  | `(tactic| fail) => `(tactic| first
    | with_reducible refine we_neD ?_
    | with_reducible refine we_eqD ?_
    | with_reducible refine we_call (f := d_law_mark) ?_
    | with_reducible refine we_call (f := d_law_span) ?_
    | ((with_reducible refine Rx.ex_id ?_); first
      | refine ⟨[_], _, .refl _, _, _, _, rfl, rfl, ?_⟩
      | refine ⟨[_], [_], List.Perm.swap _ _ _, _, _, _, rfl, rfl, ?_⟩))
def krD (x : Nat × (Nat × Nat)) : PyData := .tuple [nD x.1, rowD x.2]
abbrev d_law_frame : Dsp := fun xs rs P X => ∃ (b : Addr) (g s : Int) (su : Setup), xs = [.p b, .d (suD su)] ∧ rs = [bx b g s] ∧ su.ok ∧ ∀ (g' s' : Int) (f : Frm), f.ok su → P (.d (frD f)) [bx b g' s']
theorem len_law_frame : Len d_law_frame 2 := fun _ _ _ _ ⟨_, _, _, _, e, _⟩ => by rw [e]; rfl
def okAb (su : Setup) (ms : List Mark) (x : Nat × (Nat × Nat)) : Prop := x.1 < su.kinds.length ∧ x.2 ∈ (shapes su.kinds ms).getD x.1 []
theorem shp_len {k f l : Nat} (hk : k ∈ [2, 3, 4, 8]) (hw : l - f ≤ 40) : (shp k f l).length ≤ 40 := by
  unfold shp
  rw [rows_len, ← law_eq hk hw]
  have h1 := law_sum hk hw
  rw [law_eq hk hw] at h1 ⊢
  have h2 := sizes_pws k hk (l - f) (List.mem_range.mpr (by omega))
  have : ∀ xs : List Nat, (∀ x ∈ xs, x ∈ pws) → xs.length ≤ xs.sum := by
    intro xs
    induction xs with
    | nil => intro _; exact Nat.le_refl _
    | cons x xs ih =>
      intro h
      have h3 := ih fun y hy => h y (List.mem_cons_of_mem _ hy)
      have h4 : 1 ≤ x := by
        have := h x List.mem_cons_self
        revert this
        generalize x = z
        revert z
        decide
      rw [List.length_cons, List.sum_cons]
      omega
  have := this _ h2
  omega
theorem krD_sh (L : List (Nat × (Nat × Nat))) : Sh 3 (.list (L.map krD)) := sh_lst (n := 2) fun x hx => by
  obtain ⟨r, _, rfl⟩ := List.mem_map.mp hx
  refine sh_tup (n := 1) fun y hy => ?_
  rcases List.mem_cons.mp hy with h | h
  · rw [h]
    exact sh_nD _
  · rw [List.mem_singleton.mp h]
    exact sh_row _
section
variable {P : Program} {w : World} {K : PySem.W.Frag} {mg : Str → Option Value} {base : Heap}
theorem cal_law_frame (A : Fs P K mg) : CalX P w K mg base CX0 4 (fF K ("_law_frame", none)) ["_law_box_here", "_law_setup_here"] (toSp K (d_law_frame)) := by
  obtain ⟨fd, F⟩ := A.f_law_frame
  obtain ⟨fd_law_pick, G_law_pick, p_law_pick, b_law_pick⟩ := cal_law_pick (P := P) (w := w) (base := base) A
  have g_law_pick := A.g_law_pick
  obtain ⟨fd_law_take, G_law_take, p_law_take, b_law_take⟩ := cal_law_take (P := P) (w := w) (base := base) A
  have g_law_take := A.g_law_take
  obtain ⟨fd_law_span, G_law_span, p_law_span, b_law_span⟩ := cal_law_span (P := P) (w := w) (base := base) A
  have g_law_span := A.g_law_span
  obtain ⟨fd_law_shape, G_law_shape, p_law_shape, b_law_shape⟩ := cal_law_shape (P := P) (w := w) (base := base) A
  have g_law_shape := A.g_law_shape
  obtain ⟨fd_law_mark, G_law_mark, p_law_mark, b_law_mark⟩ := cal_law_mark (P := P) (w := w) (base := base) A
  have g_law_mark := A.g_law_mark
  refine ⟨fd, F.ok sc_law_frame (toSp_len (len_law_frame)) (fun cdv A0 outer s H vs Q E hr h => ⟨_, PSs.nox ((pss_cons (ps_set (i := 3) sc_law_frame.nd rfl (Or.inl rfl) (pe_callTy call_tuple_of (by rfl) A.b_tuple (by decide +kernel) (pa_cons (pe_lc (own := [("_law_kind", 2)]) (g := (gName 2)) (tt := tYes) rfl sc_law_frame.nd (pi_tup (pe_ix ix_tup (pv 1) pe_int (fun _ _ => rfl))) (blkOk_by (N := ["_law_box_here", "_law_setup_here", "_law_kind", "_law_marks_here", "_law_aboard", "_law_cargo", "_law_mark_here", "_law_turn", "_law_first", "_law_many", "_law_numbers", "_law_span_here"]) (sc := defScope s_law_frame) (by decide +kernel)) (fun _ _ _ _ _ => (pg_name (i := 2) sc_law_frame.nd rfl (Or.inl rfl))) (fun _ _ _ _ _ => pts_nil) (fun _ _ _ _ _ => (pe_call G_law_mark (hr.mono (by decide)) rfl g_law_mark p_law_mark b_law_mark .nil pass0 (pa_cons (pv 0) pa_nil)))) pa_nil))) (pss_cons (ps_par (i := 4) (j := 5) rfl sc_law_frame.nd rfl rfl (by decide) rfl rfl (pa_cons (pe_lst pa_nil) (pa_cons (pe_lst pa_nil) pa_nil)) rfl) (pss_cons (ps_for PassesOwn.never rfl (Rx.pi_enumT (by rfl) A.b_enumerate (pa_cons (pv 3) pa_nil)) (pg_tup (n := 2) rfl (pgs_cons (pg_name (i := 2) sc_law_frame.nd rfl (Or.inr rfl)) (pgs_cons (pg_name (i := 6) sc_law_frame.nd rfl (Or.inl rfl)) pgs_nil))) (pss_one (ps_set (i := 4) sc_law_frame.nd rfl (Or.inl rfl) (pe_op op_cat (pv 4) (pe_lc (own := [("_law_span_here", 11)]) (g := (gName 11)) (tt := tYes) rfl sc_law_frame.nd (pi_list (pe_call G_law_shape (hr.mono (by decide)) rfl g_law_shape p_law_shape b_law_shape .nil pass0 (pa_cons (pe_ix ix_tup (pe_ix ix_tup (pe_ix ix_tup (pv 1) pe_int (fun _ _ => rfl)) (pv 2) (fun _ _ => rfl)) pe_int (fun _ _ => rfl)) (pa_cons (pe_ix ix_tup (pv 6) pe_int (fun _ _ => rfl)) (pa_cons (pe_ix ix_tup (pv 6) pe_int (fun _ _ => rfl)) pa_nil))))) (blkOk_by (N := ["_law_box_here", "_law_setup_here", "_law_kind", "_law_marks_here", "_law_aboard", "_law_cargo", "_law_mark_here", "_law_turn", "_law_first", "_law_many", "_law_numbers", "_law_span_here"]) (sc := defScope s_law_frame) (by decide +kernel)) (fun _ _ _ _ _ => (pg_name (i := 11) sc_law_frame.nd rfl (Or.inl rfl))) (fun _ _ _ _ _ => pts_nil) (fun _ _ _ _ _ => (pe_tup (pa_cons (pv 2) (pa_cons (pv 11) pa_nil))))))))) (pss_cons (ps_for PassesOwn.never rfl (pi_range1 (by rfl) A.b_range (pa_cons (pe_ifExp (pt_cmpR (op_neD (hu64 hr)) (pv 4) (pe_lst pa_nil) (nomark _)) (pe_call G_law_take (hr.mono (by decide)) rfl g_law_take p_law_take b_law_take .nil pass0 (pa_cons (pv 0) (pa_cons pe_int pa_nil))) pe_int) pa_nil)) (pg_name (i := 7) sc_law_frame.nd rfl (Or.inl rfl)) (pss_cons (ps_asg (pe_call G_law_pick (hr.mono (by decide)) rfl g_law_pick p_law_pick b_law_pick .nil pass0 (pa_cons (pv 0) (pa_cons (pe_lst (pa_cons (pe_ix ix_list (pv 4) pe_int (fun _ _ => rfl)) (pa_cons (pe_call G_law_pick (hr.mono (by decide)) rfl g_law_pick p_law_pick b_law_pick .nil pass0 (pa_cons (pv 0) (pa_cons (pv 4) pa_nil))) pa_nil))) pa_nil))) (pg_tup (n := 2) rfl (pgs_cons (pg_name (i := 2) sc_law_frame.nd rfl (Or.inr rfl)) (pgs_cons (pg_tup (n := 2) rfl (pgs_cons (pg_name (i := 8) sc_law_frame.nd rfl (Or.inl rfl)) (pgs_cons (pg_name (i := 9) sc_law_frame.nd rfl (Or.inl rfl)) pgs_nil))) pgs_nil)))) (pss_one (ps_expr (pe_bm PySem.F.plainAttrs_list PySem.F.slot_list_append PySem.F.type_list_append mt_append (pv 5) (pa_cons (pe_tup (pa_cons (pv 2) (pa_cons (pe_call G_law_span (hr.mono (by decide)) rfl g_law_span p_law_span b_law_span .nil pass0 (pa_cons (pv 0) (pa_cons (pv 8) (pa_cons (pv 9) pa_nil)))) pa_nil))) pa_nil)))))) (pss_cons (ps_setLc (i := 10) (own := [("_law_turn", 7)]) (g := (gName 7)) (tt := tYes) rfl sc_law_frame.nd rfl rfl (sw_true rfl rfl rfl (by decide +kernel)) (pi_range1 (by rfl) A.b_range (pa_cons pe_int pa_nil)) (blkOk_by (N := ["_law_box_here", "_law_setup_here", "_law_kind", "_law_marks_here", "_law_aboard", "_law_cargo", "_law_mark_here", "_law_turn", "_law_first", "_law_many", "_law_numbers", "_law_span_here"]) (sc := defScope s_law_frame) (by decide +kernel)) (fun _ _ _ _ _ => (pg_name (i := 7) sc_law_frame.nd rfl (Or.inl rfl))) (fun _ _ _ _ _ => pts_nil) (fun _ _ _ _ _ => (pe_call G_law_pick (hr.mono (by decide)) rfl g_law_pick p_law_pick b_law_pick .nil pass0 (pa_cons (pv 0) (pa_cons (pe_lst (pa_cons pe_int (pa_cons (pe_call G_law_take (hr.mono (by decide)) rfl g_law_take p_law_take b_law_take .nil pass0 (pa_cons (pv 0) (pa_cons pe_int pa_nil))) (pa_cons pe_int (pa_cons pe_int (pa_cons pe_int (pa_cons (pe_op op_sub (pe_op op_pow pe_int pe_int) pe_int) pa_nil))))))) pa_nil))))) (pss_one (ps_ret (pe_op op_catA (pe_callTy call_tuple_of (by rfl) A.b_tuple (by decide +kernel) (pa_cons (pv 10) pa_nil)) (pe_tup (pa_cons (pv 3) (pa_cons (pe_callTy call_tuple_of (by rfl) A.b_tuple (by decide +kernel) (pa_cons (pv 5) pa_nil)) pa_nil)))))))))))), to_body h fun W xs rs P hf => ?_⟩), F.kp, F.bindsN fun _ _ _ _ _ _ us hl => match us, hl with | [_, _], _ => rfl⟩
  obtain ⟨b, g, s, su, rfl, rfl, hs, hP⟩ := hf
  change WS W _ [some (.p b), some (.d (suD su)), none, none, none, none, none, none, none, none, none, none] _ _
  have hk6 := hs.2.1
  rfl'
  refine we_lc (fun i acc rs1 => ∃ (g s : Int) (ms : List Mark), acc = ms.map mkD ∧ ms.length = i ∧ (∀ m ∈ ms, m.ok) ∧ rs1 = [bx b g s]) (su.kinds.map kdD) (own1 (by decide)) ?_ ?_ ?_
  · rfl'
    exact ⟨g, s, [], rfl, rfl, (fun _ h => by cases h), rfl⟩
  · rintro i d acc rs1 hd ⟨g, s, ms, rfl, hl, ho, rfl⟩
    have hi : i < su.kinds.length := by
      have := (List.getElem?_eq_some_iff.mp hd).1
      rwa [List.length_map] at this
    rfl'
    refine ite_T rfl ?_
    rfl'
    intro g s m hm
    refine ⟨_, rfl, by rw [List.length_map]; omega, g, s, ms ++ [m], by simp, by rw [List.length_append, hl]; rfl, ?_, rfl⟩
    intro x hx
    rcases List.mem_append.mp hx with hx | hx
    · exact ho x hx
    · rw [List.mem_singleton.mp hx]
      exact hm
  rintro acc rs1 ⟨g, s, ms, rfl, hl, ho, rfl⟩
  rw [List.length_map] at hl
  rfl'
  refine we_lst (wa_nil ⟨[], rfl, Nat.zero_le _, ?_⟩)
  rfl'
  refine we_lstR (wa_nil ⟨[], rfl, Nat.zero_le _, fun a => ?_⟩)
  rfl'
  refine ws_perm (List.Perm.swap _ _ _) ?_
  refine ws_for (Iv := fun i sl rs1 => ∃ (L : List (Nat × (Nat × Nat))) (q2 q6 : Option DV), sl = [some (.p b), some (.d (suD su)), q2, some (.d (marksD ms)), some (.d (.list (L.map krD))), some (.p a), q6, none, none, none, none, none] ∧ rs1 = [bx b g s, (a, .lst [])] ∧ L.length ≤ 40 * i ∧ ∀ x ∈ L, okAb su ms x) (xs := enD (ms.map mkD)) ?_ ?_ ?_
  · rfl'
    exact ⟨[], none, none, rfl, rfl, Nat.zero_le _, fun _ h => by cases h⟩
  · rintro i d sl rs1 hd ⟨L, q2, q6, rfl, rfl, hL, hok⟩
    obtain ⟨x, hx, rfl⟩ := enD_at hd
    obtain ⟨m, hm, rfl⟩ := mapAt hx
    have mo := ho m (List.mem_of_getElem? hm)
    have hi : i < su.kinds.length := by
      have := (List.getElem?_eq_some_iff.mp hm).1
      omega
    have hkd : su.kinds[i]? = some su.kinds[i] := List.getElem?_eq_getElem hi
    have hab : (shapes su.kinds ms)[i]? = some (shp su.kinds[i].keep m.first m.laid) := by
      unfold shapes
      rw [List.getElem?_zipWith, hkd, hm]
    have ko := hs.2.2.1 _ (List.mem_of_getElem? hkd)
    have hsl := shp_len ko.2.2.2 mo.2.2.1
    rfl'
    refine we_map (ds := (shp su.kinds[i].keep m.first m.laid).map rowD) (es := (shp su.kinds[i].keep m.first m.laid).map fun r => krD (i, r)) (own1 (by decide)) (by simp) (by simp; omega) ?_ ?_ ?_
    · rfl'
      refine ⟨_, _, kdD su.kinds[i], rfl, rfl, atI_nat (by rw [List.getElem?_map, hkd]; rfl), ?_⟩
      rfl'
      refine ⟨su.kinds[i].keep, m.first, m.laid, rfl, ko.2.2.2, mo.2.1, mo.2.2.1, by have := mo.1; omega, ?_⟩
      rfl'
      rfl
    · intro j d e hd he
      obtain ⟨r, hr1, rfl⟩ := mapAt hd
      rw [List.getElem?_map, hr1] at he
      have he : krD (i, r) = e := Option.some.inj he
      subst he
      rfl'
      rfl
    · rfl'
      refine ⟨_, _, .d _, .d _, by rw [List.length_map, List.length_map]; omega, ?_⟩
      refine ⟨L ++ (shp su.kinds[i].keep m.first m.laid).map fun r => (i, r), some (.d (.int (i : Nat))), some (.d (mkD m)), ?_, rfl, ?_, ?_⟩
      · rw [List.map_append, List.map_map]
        rfl
      · rw [List.length_append, List.length_map]
        omega
      · intro x hx
        rcases List.mem_append.mp hx with hx | hx
        · exact hok x hx
        · obtain ⟨r, hr1, rfl⟩ := List.mem_map.mp hx
          exact ⟨hi, by rw [List.getD_eq_getElem?_getD, hab]; exact hr1⟩
  rintro sl rs1 ⟨L, q2, q6, rfl, rfl, hL, hok⟩
  rw [enD_len, List.length_map, hl] at hL
  have hL2 : L.length ≤ 240 := by omega
  refine ws_seq ?_
  refine ws_forF (fun xs i sl rs1 => ∃ (n : Nat) (g s : Int) (cs : List (Nat × Span)) (q2 q7 q8 q9 : Option DV), xs = rgD 0 n ∧ n ≤ 3 ∧ (0 < n → L ≠ []) ∧ sl = [some (.p b), some (.d (suD su)), q2, some (.d (marksD ms)), some (.d (.list (L.map krD))), some (.p a), q6, q7, q8, q9, none, none] ∧ rs1 = [bx b g s, (a, .lst (cs.map itD))] ∧ cs.length = i ∧ ∀ c ∈ cs, itOk (shapes su.kinds ms) c) ?_ ?_ ?_
  · rfl'
    refine we_lst ?_
    rfl'
    refine ⟨[], rfl, Nat.zero_le _, .list (L.map krD), .list [], rfl, rfl, (krD_sh _).s, (izD_sh []).s, ?_⟩
    cases L with
    | nil =>
      rfl'
      refine ite_F rfl ?_
      rfl'
      exact ⟨0, g, s, [], _, _, _, _, rfl, by omega, fun h => by omega, rfl, rfl, rfl, fun _ h => by cases h⟩
    | cons x0 L =>
      rfl'
      refine ite_T rfl ?_
      rfl'
      intro g s j hj
      have hj : j < 4 := hj
      rfl'
      exact ⟨by omega, by omega, j, g, s, [], _, _, _, _, rfl, by omega, (fun _ h => by cases h), rfl, rfl, rfl, fun _ h => by cases h⟩
  · rintro xs i d sl rs1 hd ⟨n, g, s, cs, q2, q7, q8, q9, rfl, hn, hne, rfl, rfl, hcl, hco⟩
    have hi := (rgD_at hd).1
    have hne := hne (by omega)
    obtain ⟨x0, L1, e0⟩ := List.exists_cons_of_ne_nil hne
    have hmem : ∀ d ∈ L.map krD, ∃ x ∈ L, d = krD x := fun d hd => by
      obtain ⟨x, hx, e⟩ := List.mem_map.mp hd
      exact ⟨x, hx, e.symm⟩
    have h0 : (L.map krD)[0]? = some (krD x0) := by rw [e0]; rfl
    have hx0 : x0 ∈ L := by rw [e0]; exact List.mem_cons_self
    have hLp : 0 < (L.map krD).length := by rw [e0]; exact Nat.succ_pos _
    rfl'
    refine ⟨_, _, krD x0, .d _, rfl, atI_nat (j := 0) h0, ?_⟩
    rfl'
    refine ⟨[_], _, .refl _, b, g, s, _, rfl, rfl, hLp, by rw [List.length_map]; omega, fun g s d1 hd1 => ?_⟩
    rfl'
    intro g s d2 hd2
    obtain ⟨x, hx, rfl⟩ : ∃ x ∈ L, d2 = krD x := by
      rcases List.mem_cons.mp hd2 with h | h
      · exact ⟨x0, hx0, h⟩
      · rw [List.mem_singleton.mp h]
        exact hmem d1 hd1
    obtain ⟨k1, k2⟩ := hok x hx
    have hsl2 := shapes_len (hl : ms.length = su.kinds.length)
    have hrow : (shapes su.kinds ms).getD x.1 [] ∈ shapes su.kinds ms := by
      rw [List.getD_eq_getElem?_getD, List.getElem?_eq_getElem (by rw [hsl2]; exact k1)]
      exact List.getElem_mem _
    rfl'
    refine ⟨[_], _, .refl _, b, g, s, x.2.1, x.2.2, rfl, rfl, shapes_pws hs ho _ hrow _ k2, fun g s sp h1 h2 h3 => ?_⟩
    rfl'
    refine ⟨_, _, 1, rfl, rfl, by rw [List.length_map]; omega, ?_⟩
    refine ⟨n, g, s, cs ++ [(x.1, sp)], _, _, _, _, rfl, hn, fun _ => hne, rfl, ?_, by rw [List.length_append, hcl]; rfl, ?_⟩
    · rw [List.map_append]
      rfl
    · intro c hc
      rcases List.mem_append.mp hc with hc | hc
      · exact hco c hc
      · rw [List.mem_singleton.mp hc]
        refine ⟨by rw [hsl2]; exact k1, ?_, h1⟩
        show (sp.first, sp.many) ∈ _
        rw [h2, h3]
        exact k2
  · rintro xs sl rs1 ⟨n, g, s, cs, q2, q7, q8, q9, rfl, hn, hne, rfl, rfl, hcl, hco⟩
    rw [rgD_len] at hcl
    rfl'
    refine we_lc (fun i acc rs1 => ∃ (g s : Int) (ns : List Nat), acc = ns.map nD ∧ ns.length = i ∧ (∀ m ∈ ns, m ≤ M4) ∧ rs1 = [bx b g s, (a, .lst (cs.map itD))]) (rgD 0 3) (own1 (by decide)) ?_ ?_ ?_
    · rfl'
      exact ⟨g, s, [], rfl, rfl, (fun _ h => by cases h), rfl⟩
    · rintro i d acc rs1 hd ⟨g, s, ns, rfl, hnl, hns, rfl⟩
      have hi := (rgD_at hd).1
      rfl'
      refine ite_T rfl ?_
      rfl'
      intro g s j hj
      have hj : j < 1000 := hj
      rfl'
      intro g s z hz
      obtain ⟨y, hy, rfl⟩ : ∃ y : Nat, y ≤ M4 ∧ z = nD y := by
        simp only [List.mem_cons, List.not_mem_nil, or_false] at hz
        rcases hz with rfl | rfl | rfl | rfl | rfl | rfl
        · exact ⟨0, by decide, rfl⟩
        · exact ⟨j, by unfold M4; omega, rfl⟩
        · exact ⟨255, by decide, rfl⟩
        · exact ⟨256, by decide, rfl⟩
        · exact ⟨65536, by decide, rfl⟩
        · exact ⟨4294967295, by decide, rfl⟩
      refine ⟨_, rfl, by rw [List.length_map]; omega, g, s, ns ++ [y], by simp, by rw [List.length_append, hnl]; rfl, ?_, rfl⟩
      intro x hx
      rcases List.mem_append.mp hx with hx | hx
      · exact hns x hx
      · rw [List.mem_singleton.mp hx]
        exact hy
    · rintro acc rs1 ⟨g, s, ns, rfl, hnl, hns, rfl⟩
      rw [rgD_len] at hnl
      refine ws_ret (we_dropE ?_)
      rfl'
      refine ⟨_, _, rfl, .l (.p ⟨1, rfl⟩), ?_⟩
      rfl'
      refine ⟨by rw [List.length_map, hnl]; exact (by decide : 3 + 2 ≤ 100000), _, List.Sublist.cons_cons _ (List.nil_sublist _), hP g s ⟨ns, ms, cs⟩ ⟨hnl, hns, hl, ho, by show cs.length ≤ 100; omega, hco⟩⟩
end
end Fw
end
section
set_option Elab.async false
set_option autoImplicit false
set_option linter.all false
set_option maxRecDepth 100000
set_option maxHeartbeats 1000000
/-! P15: forms bent. -/
set_option pp.maxSteps 1200
namespace Fw
open PySem PySem.Spec PyProof.Rows L2 Dl Mx
local macro_rules
  | `(tactic| fail) => `(tactic| first
    | with_reducible refine ws_seq ?_
    | with_reducible refine ws_set ?_
    | with_reducible refine ws_ret ?_
    | with_reducible refine ws_if ?_
    | with_reducible refine ws_next ?_
    | with_reducible refine ws_break ?_
    | with_reducible refine ws_cont ?_
    | with_reducible refine ws_drop ?_
    | with_reducible refine ws_retN ?_
    | with_reducible refine ws_par ?_
    | ((with_reducible refine ws_id ?_); (with_reducible apply ws_aug); rfl)
    | ((with_reducible refine ws_id ?_); (with_reducible apply ws_augR); rfl)
    | with_reducible refine ws_asg ?_
    | ((with_reducible refine we_id ?_); (with_reducible apply we_var); rfl)
    | with_reducible refine we_int ?_
    | with_reducible refine we_non ?_
    | with_reducible refine we_bl ?_
    | with_reducible refine we_str ?_
    | with_reducible refine we_ty ?_
    | with_reducible refine we_opI ?_
    | with_reducible refine we_opB ?_
    | with_reducible refine we_opIC ?_
    | with_reducible refine we_eq ?_
    | with_reducible refine we_ne ?_
    | with_reducible refine we_isN ?_
    | with_reducible refine we_notN ?_
    | with_reducible refine we_chainI ?_
    | with_reducible refine we_chainE ?_
    | with_reducible refine we_chain3 ?_
    | with_reducible refine we_neg ?_
    | with_reducible refine we_andV ?_
    | with_reducible refine we_orV ?_
    | with_reducible refine we_notV ?_
    | with_reducible refine we_if ?_
    | with_reducible refine wt_test ?_
    | with_reducible refine wt_B ?_
    | with_reducible refine wt_not ?_
    | with_reducible refine wt_and ?_
    | with_reducible refine wt_or ?_
    | with_reducible refine wt_yes ?_
    | with_reducible refine wa_nil ?_
    | with_reducible refine wa_cons ?_
    | with_reducible refine we_tup ?_
    | with_reducible refine we_ixT ?_
    | with_reducible refine we_ixL ?_
    | with_reducible refine we_len ?_
    | with_reducible refine we_isi ?_
    | with_reducible refine we_isiSq ?_
    | with_reducible refine wg_name ?_
    | with_reducible refine we_slT ?_
    | with_reducible refine we_tuple ?_
    | with_reducible refine we_slL ?_
    | with_reducible refine wo_none ?_
    | with_reducible refine wo_some ?_
    | with_reducible refine we_callP ?_
    | with_reducible refine we_min2 ?_
    | with_reducible refine we_max2 ?_
    | with_reducible refine we_abs ?_
    | with_reducible refine we_all ?_
    | with_reducible refine we_any ?_
    | with_reducible refine we_append ?_
    | with_reducible refine we_extend ?_
    | with_reducible refine we_catL ?_
    | with_reducible refine ws_raise ?_
    | with_reducible refine we_inZ ?_
    | with_reducible refine we_catT ?_
    | with_reducible refine we_in ?_
    | with_reducible refine we_notIn ?_
    | with_reducible refine wg_tup ?_
    | with_reducible refine wgs_cons ?_
    | with_reducible refine wgs_nil ?_
    | with_reducible refine wi_rng1 ?_
    | with_reducible refine wi_rng2 ?_
    | with_reducible refine wi_lst ?_
    | with_reducible refine wi_tup ?_
    | with_reducible refine wi_enT ?_
    | with_reducible refine wi_enL ?_
    | with_reducible refine wi_zpTT ?_
    | with_reducible refine wi_zpTL ?_
    | with_reducible refine we_toInt ?_
    | with_reducible refine we_callPX ?_
    | ((with_reducible refine Rx.ex_id ?_); first
      | with_reducible refine ⟨_, _, rfl, rfl, ?_⟩
      | with_reducible refine ⟨_, _, rfl, .t _, ?_⟩
      | with_reducible refine ⟨_, _, rfl, .l (.d _), ?_⟩
      | with_reducible refine ⟨_, rfl, ?_⟩
      | with_reducible refine ⟨_, _, rfl, ?_⟩
      | refine ⟨_, _, _, rfl, rfl, rfl, ?_⟩
      | refine ⟨[_], rfl, Nat.le_of_ble_eq_true rfl, ?_⟩
      | refine ⟨[_, _], rfl, Nat.le_of_ble_eq_true rfl, ?_⟩
      | refine ⟨[_, _, _], rfl, Nat.le_of_ble_eq_true rfl, ?_⟩
      | refine ⟨[_, _, _, _], rfl, Nat.le_of_ble_eq_true rfl, ?_⟩
      | refine ⟨[_, _, _, _, _], rfl, Nat.le_of_ble_eq_true rfl, ?_⟩
      | refine ⟨[_, _, _, _, _, _], rfl, Nat.le_of_ble_eq_true rfl, ?_⟩
      | refine ⟨[_, _, _, _, _, _, _], rfl, Nat.le_of_ble_eq_true rfl, ?_⟩)
    | ((with_reducible refine Rx.and_id ?_); first
      | refine ⟨⟨_, 0, rfl⟩, ?_⟩
      | refine ⟨rfl, ?_⟩))
  | `(tactic| rfl') => `(tactic| repeat fail)
local macro_rules
  | `(tactic| fail) => `(tactic| first
    | with_reducible refine ws_setL ?_
    | ((with_reducible refine Rx.ex_id ?_); first
      | refine ⟨_, _, _, .p ⟨0, rfl⟩, rfl, rfl, ?_⟩
      | refine ⟨0, 0, _, rfl, rfl, Nat.le_of_ble_eq_true rfl, ?_⟩
      | refine ⟨1, 0, _, rfl, rfl, Nat.le_of_ble_eq_true rfl, ?_⟩)
    | ((with_reducible refine Rx.and_id ?_); first
      | refine ⟨by decide, ?_⟩
      | refine ⟨.inr ⟨by decide, by decide⟩, ?_⟩
      | refine ⟨.inl ⟨by decide, by decide⟩, ?_⟩
      | refine ⟨⟨by decide, by decide⟩, ?_⟩
      | refine ⟨⟨by decide, by decide, by decide⟩, ?_⟩))
local macro_rules
  | `(tactic| fail) => `(tactic| first
    | with_reducible refine we_lst (tr := tCons _ _) ?_
    | with_reducible refine we_call (f := d_law_take) ?_
    | with_reducible refine we_call (f := d_law_pick) ?_
    | ((with_reducible refine Rx.ex_id ?_); first
      | refine ⟨[_], _, .refl _, _, _, _, _, rfl, rfl, Nat.le_of_ble_eq_true rfl, Nat.le_of_ble_eq_true rfl, ?_⟩
      | refine ⟨[_], [_], List.Perm.swap _ _ _, _, _, _, _, rfl, rfl, Nat.le_of_ble_eq_true rfl, Nat.le_of_ble_eq_true rfl, ?_⟩)
    | ((with_reducible refine Rx.and_id ?_); first
      | refine ⟨⟨_, 1, rfl⟩, ?_⟩))
local macro_rules
  | `(tactic| fail) => `(tactic| first
    | with_reducible refine we_repT ?_
    | ((with_reducible refine Rx.ex_id ?_); first
      | refine ⟨[], rfl, Nat.zero_le _, ?_⟩
      | refine ⟨[_, _, _, _, _, _, _, _], rfl, Nat.le_of_ble_eq_true rfl, ?_⟩))
abbrev d_law_bent : Dsp := fun xs rs P X => ∃ (b : Addr) (g s : Int) (su : Setup) (os : List Nat), xs = [.p b, .d (suD su), .d (octD os)] ∧ rs = [bx b g s] ∧ su.ok ∧ octs os ∧ os.length ≤ 50000 ∧ ∀ (g' s' : Int) (os' : List Nat), octs os' → os'.length ≤ 60000 → P (.d (octD os')) [bx b g' s']
theorem len_law_bent : Len d_law_bent 3 := fun _ _ _ _ ⟨_, _, _, _, _, e, _⟩ => by rw [e]; rfl
theorem octs_app {a b : List Nat} (ha : octs a) (hb : octs b) : octs (a ++ b) := fun o ho => by
  rcases List.mem_append.mp ho with h | h
  · exact ha o h
  · exact hb o h
section
variable {P : Program} {w : World} {K : PySem.W.Frag} {mg : Str → Option Value} {base : Heap}
theorem cal_law_bent (A : Fs P K mg) : CalX P w K mg base CX0 3 (fF K ("_law_bent", none)) ["_law_box_here", "_law_setup_here", "_law_form"] (toSp K (d_law_bent)) := by
  obtain ⟨fd, F⟩ := A.f_law_bent
  obtain ⟨fd_law_take, G_law_take, p_law_take, b_law_take⟩ := cal_law_take (P := P) (w := w) (base := base) A
  have g_law_take := A.g_law_take
  obtain ⟨fd_law_pick, G_law_pick, p_law_pick, b_law_pick⟩ := cal_law_pick (P := P) (w := w) (base := base) A
  have g_law_pick := A.g_law_pick
  refine ⟨fd, F.ok sc_law_bent (toSp_len (len_law_bent)) (fun cdv A0 outer s H vs Q E hr h => ⟨_, PSs.nox ((pss_cons (ps_par (i := 3) (j := 4) rfl sc_law_bent.nd rfl rfl (by decide) rfl rfl (pa_cons (pe_call G_law_take (hr.mono (by decide)) rfl g_law_take p_law_take b_law_take .nil pass0 (pa_cons (pv 0) (pa_cons pe_int pa_nil))) (pa_cons (pe_call G_law_pick (hr.mono (by decide)) rfl g_law_pick p_law_pick b_law_pick .nil pass0 (pa_cons (pv 0) (pa_cons (pe_lst (pa_cons (pe_call G_law_take (hr.mono (by decide)) rfl g_law_take p_law_take b_law_take .nil pass0 (pa_cons (pv 0) (pa_cons (pe_op op_add (pe_callB call_len_seq (by rfl) A.b_len (by decide +kernel) (pa_cons (pv 2) pa_nil)) pe_int) pa_nil))) (pa_cons (pe_callB (call_min2 rfl) (by rfl) A.b_min (by decide +kernel) (pa_cons (pe_callB call_len_seq (by rfl) A.b_len (by decide +kernel) (pa_cons (pv 2) pa_nil)) (pa_cons (pe_op op_add pe_int (pe_call G_law_take (hr.mono (by decide)) rfl g_law_take p_law_take b_law_take .nil pass0 (pa_cons (pv 0) (pa_cons pe_int pa_nil)))) pa_nil))) pa_nil))) pa_nil))) pa_nil)) rfl) (pss_cons (ps_if (pt_cmpR op_eq (pv 3) pe_int (nomark _)) (pss_one (ps_ret (pe_slice sl_tupA (pv 2) po_none (po_some (pv 4))))) pss_nil) (pss_cons (ps_if (pt_cmpR op_lt (pv 3) pe_int (nomark _)) (pss_one (ps_ret (pe_op op_catA (pe_op op_catA (pe_slice sl_tupA (pv 2) po_none (po_some (pv 4))) (pe_tup (pa_cons (pe_call G_law_pick (hr.mono (by decide)) rfl g_law_pick p_law_pick b_law_pick .nil pass0 (pa_cons (pv 0) (pa_cons (pe_lst (pa_cons pe_int (pa_cons pe_int (pa_cons pe_int (pa_cons pe_int (pa_cons pe_int (pa_cons pe_int (pa_cons pe_int (pa_cons pe_int pa_nil))))))))) pa_nil))) pa_nil))) (pe_slice sl_tupA (pv 2) (po_some (pe_op op_add (pv 4) pe_int)) po_none)))) pss_nil) (pss_cons (ps_set (i := 5) sc_law_bent.nd rfl (Or.inl rfl) (pe_tup pa_nil)) (pss_cons (ps_for PassesOwn.never rfl (pi_tup (pe_ix ix_tup (pv 1) pe_int (fun _ _ => rfl))) (pg_name (i := 6) sc_law_bent.nd rfl (Or.inl rfl)) (pss_cons (ps_set (i := 7) sc_law_bent.nd rfl (Or.inl rfl) (pe_call G_law_take (hr.mono (by decide)) rfl g_law_take p_law_take b_law_take .nil pass0 (pa_cons (pv 0) (pa_cons pe_int pa_nil)))) (pss_one (ps_set (i := 5) sc_law_bent.nd rfl (Or.inl rfl) (pe_op op_catA (pe_op op_catA (pv 5) (pe_tup (pa_cons pe_int (pa_cons pe_int (pa_cons (pv 7) pa_nil))))) (pe_ifExp (pt_cmpR op_gt (pv 7) pe_int (nomark _)) (pe_tup (pa_cons (pe_call G_law_take (hr.mono (by decide)) rfl g_law_take p_law_take b_law_take .nil pass0 (pa_cons (pv 0) (pa_cons (pe_op op_add (pv 7) pe_int) pa_nil))) (pa_cons pe_int (pa_cons pe_int (pa_cons pe_int (pa_cons pe_int pa_nil)))))) (pe_tup pa_nil))))))) (pss_one (ps_ret (pe_op op_catA (pe_op op_catA (pe_op op_repT (pe_tup (pa_cons pe_int pa_nil)) pe_int) (pv 5)) (pe_callTy call_tuple_of (by rfl) A.b_tuple (by decide +kernel) (pa_cons (pe_lc (own := [("_law_one", 8)]) (g := (gName 8)) (tt := tYes) rfl sc_law_bent.nd (pi_range1 (by rfl) A.b_range (pa_cons (pe_call G_law_take (hr.mono (by decide)) rfl g_law_take p_law_take b_law_take .nil pass0 (pa_cons (pv 0) (pa_cons pe_int pa_nil))) pa_nil)) (blkOk_by (N := ["_law_box_here", "_law_setup_here", "_law_form", "_law_way", "_law_at", "_law_marks_here", "_law_kind", "_law_laid", "_law_one"]) (sc := defScope s_law_bent) (by decide +kernel)) (fun _ _ _ _ _ => (pg_name (i := 8) sc_law_bent.nd rfl (Or.inl rfl))) (fun _ _ _ _ _ => pts_nil) (fun _ _ _ _ _ => (pe_call G_law_pick (hr.mono (by decide)) rfl g_law_pick p_law_pick b_law_pick .nil pass0 (pa_cons (pv 0) (pa_cons (pe_lst (pa_cons pe_int (pa_cons pe_int (pa_cons pe_int (pa_cons pe_int (pa_cons pe_int (pa_cons pe_int pa_nil))))))) pa_nil))))) pa_nil))))))))))), to_body h fun W xs rs P hf => ?_⟩), F.kp, F.bindsN fun _ _ _ _ _ _ us hl => match us, hl with | [_, _, _], _ => rfl⟩
  obtain ⟨b, g, s, su, os, rfl, rfl, hs, ho, hl, hP⟩ := hf
  change WS W _ [some (.p b), some (.d (suD su)), some (.d (octD os)), none, none, none, none, none, none] _ _
  have hk6 := hs.2.1
  rfl'
  intro g s way hw
  have hw : way < 4 := hw
  rfl'
  refine ⟨[_], _, .refl _, b, g, s, os.length + 1, by rw [List.length_map]; rfl, rfl, by omega, by omega, fun g s j hj => ?_⟩
  rfl'
  intro g s j2 hj2
  have hj2 : j2 < 9 := hj2
  rfl'
  intro g s z hz
  obtain ⟨at1, hat, rfl⟩ : ∃ y : Nat, y ≤ os.length ∧ z = nD y := by
    rw [List.length_map] at hz
    rcases List.mem_cons.mp hz with h | h
    · exact ⟨j, by omega, h⟩
    · rw [List.mem_singleton.mp h]
      by_cases hc : (12 : Int) + (j2 : Int) < (os.length : Int)
      · rw [if_pos hc]
        exact ⟨12 + j2, by omega, by simp only [nD, Int.natCast_add]; rfl⟩
      · rw [if_neg hc]
        exact ⟨os.length, Nat.le_refl _, rfl⟩
  rfl'
  have ht : octs (os.take at1) := fun o h => ho o (List.mem_of_mem_take h)
  refine ite_both (fun hc => ?_) (fun hc => ?_)
  · rfl'
    rw [cutD_take (by omega), Int.toNat_natCast, ← List.map_take]
    exact hP g s _ ht (by rw [List.length_take]; omega)
  rfl'
  refine ite_both (fun hc2 => ?_) (fun hc2 => ?_)
  · rfl'
    intro g s z hz
    obtain ⟨y, hy, rfl⟩ : ∃ y : Nat, y < 256 ∧ z = nD y := by
      simp only [List.mem_cons, List.not_mem_nil, or_false] at hz
      rcases hz with rfl | rfl | rfl | rfl | rfl | rfl | rfl | rfl
      · exact ⟨0, by decide, rfl⟩
      · exact ⟨1, by decide, rfl⟩
      · exact ⟨2, by decide, rfl⟩
      · exact ⟨3, by decide, rfl⟩
      · exact ⟨15, by decide, rfl⟩
      · exact ⟨30, by decide, rfl⟩
      · exact ⟨132, by decide, rfl⟩
      · exact ⟨255, by decide, rfl⟩
    rw [cutD_take (by omega), Int.toNat_natCast, ← List.map_take]
    rfl'
    refine ⟨by rw [List.length_map, List.length_take]; show _ + 1 ≤ _; omega, ?_⟩
    rfl'
    rw [cutD_drop (by omega), ← List.map_drop]
    refine ⟨by rw [List.length_append, List.length_map, List.length_map, List.length_take, List.length_drop]; show _ + 1 + _ ≤ _; omega, ?_⟩
    refine rtD (hP g s (os.take at1 ++ [y] ++ os.drop ((at1 : Int) + 1).toNat) (octs_app (octs_app ht fun o h => by rw [List.mem_singleton.mp h]; exact hy) fun o h => ho o (List.mem_of_mem_drop h)) (by rw [List.length_append, List.length_append, List.length_take, List.length_drop]; show _ + 1 + _ ≤ _; omega)) ?_
    rw [octD, List.map_append, List.map_append]
    rfl
  rfl'
  refine ws_for (Iv := fun i sl rs1 => ∃ (g s : Int) (ms : List Nat) (q6 q7 : Option DV), sl = [some (.p b), some (.d (suD su)), some (.d (octD os)), some (.d (nD way)), some (.d (nD at1)), some (.d (octD ms)), q6, q7, none] ∧ rs1 = [bx b g s] ∧ octs ms ∧ ms.length ≤ 8 * i) (xs := su.kinds.map kdD) ?_ ?_ ?_
  · rfl'
    exact ⟨g, s, [], _, _, rfl, rfl, (fun _ h => by cases h), Nat.zero_le _⟩
  · rintro i d sl rs1 hd ⟨g, s, ms, q6, q7, rfl, rfl, hm, hml⟩
    have hi : i < su.kinds.length := by
      have := (List.getElem?_eq_some_iff.mp hd).1
      rwa [List.length_map] at this
    rfl'
    intro g s laid hlaid
    have hlaid : laid < 40 := hlaid
    rfl'
    refine ⟨by rw [List.length_map]; show _ + 3 ≤ _; omega, ?_⟩
    have hm3 : octs (ms ++ [0, 0, laid]) := octs_app hm fun o h => by
      simp only [List.mem_cons, List.not_mem_nil, or_false] at h
      omega
    have e3 : List.map nD ms ++ [PyData.int 0, PyData.int 0, nD laid] = (ms ++ [0, 0, laid]).map nD := by rw [List.map_append]; rfl
    have l3 : (ms ++ [0, 0, laid]).length ≤ 8 * i + 3 := by rw [List.length_append]; show _ + 3 ≤ _; omega
    rw [e3]
    generalize ms ++ [0, 0, laid] = ms3 at hm3 l3
    rfl'
    refine ite_both (fun hc => ?_) (fun hc => ?_)
    · rfl'
      refine ⟨[_], _, .refl _, b, g, s, laid + 2, rfl, rfl, by omega, by omega, fun g s j hj => ?_⟩
      rfl'
      refine ⟨by rw [List.length_map]; show _ + 5 ≤ _; omega, ?_⟩
      refine ⟨g, s, ms3 ++ [j, 0, 0, 0, 7], some (.d d), some (.d (nD laid)), ?_, rfl, octs_app hm3 fun o h => ?_, by rw [List.length_append]; show _ + 5 ≤ _; omega⟩
      · have : octD (ms3 ++ [j, 0, 0, 0, 7]) = .tuple (List.map nD ms3 ++ [nD j, PyData.int 0, PyData.int 0, PyData.int 0, PyData.int 7]) := by
          rw [octD, List.map_append]
          rfl
        rw [this]
        rfl
      · simp only [List.mem_cons, List.not_mem_nil, or_false] at h
        omega
    · rfl'
      refine ⟨by rw [List.length_map]; show _ + 0 ≤ _; omega, ?_⟩
      refine ⟨g, s, ms3, some (.d d), some (.d (nD laid)), ?_, rfl, hm3, by omega⟩
      rw [List.append_nil]
      rfl
  · rintro sl rs1 ⟨g, s, ms, q6, q7, rfl, rfl, hm, hml⟩
    rw [List.length_map] at hml
    rfl'
    have e12 : (List.replicate (Int.toNat 12) [PyData.int 0]).flatten = (List.replicate 12 0).map nD := rfl
    rw [e12]
    refine ⟨by rw [List.length_map, List.length_map, List.length_replicate]; omega, ?_⟩
    rw [← List.map_append]
    have hm4 : octs (List.replicate 12 0 ++ ms) := octs_app (fun o h => by rw [(List.mem_replicate.mp h).2]; decide) hm
    have l4 : (List.replicate 12 0 ++ ms).length ≤ 60 := by rw [List.length_append, List.length_replicate]; omega
    generalize List.replicate 12 0 ++ ms = ms4 at hm4 l4
    rfl'
    refine we_lcF (fun ys i acc rs1 => ∃ (n : Nat) (g s : Int) (ns : List Nat), ys = rgD 0 n ∧ n ≤ 23 ∧ acc = ns.map nD ∧ ns.length = i ∧ octs ns ∧ rs1 = [bx b g s]) (own1 (by decide)) ?_ ?_ ?_
    · rfl'
      intro g s j hj
      have hj : j < 24 := hj
      rfl'
      exact ⟨by omega, by omega, j, g, s, [], rfl, by omega, rfl, rfl, (fun _ h => by cases h), rfl⟩
    · rintro ys i d acc rs1 hd ⟨n, g, s, ns, rfl, hn, rfl, hnl, hns, rfl⟩
      have hi := (rgD_at hd).1
      rfl'
      refine ite_T rfl ?_
      rfl'
      intro g s z hz
      obtain ⟨y, hy, rfl⟩ : ∃ y : Nat, y < 256 ∧ z = nD y := by
        simp only [List.mem_cons, List.not_mem_nil, or_false] at hz
        rcases hz with rfl | rfl | rfl | rfl | rfl | rfl
        · exact ⟨0, by decide, rfl⟩
        · exact ⟨1, by decide, rfl⟩
        · exact ⟨2, by decide, rfl⟩
        · exact ⟨15, by decide, rfl⟩
        · exact ⟨16, by decide, rfl⟩
        · exact ⟨255, by decide, rfl⟩
      refine ⟨_, rfl, by rw [List.length_map]; omega, n, g, s, ns ++ [y], rfl, hn, by simp, by rw [List.length_append, hnl]; rfl, ?_, rfl⟩
      exact octs_app hns fun o h => by rw [List.mem_singleton.mp h]; exact hy
    · rintro ys acc rs1 ⟨n, g, s, ns, rfl, hn, rfl, hnl, hns, rfl⟩
      rw [rgD_len] at hnl
      rfl'
      refine ⟨by rw [List.length_map, List.length_map]; omega, ?_⟩
      rw [← List.map_append]
      exact hP g s _ (octs_app hm4 hns) (by rw [List.length_append]; omega)
end
end Fw
end
section
set_option Elab.async false
set_option autoImplicit false
set_option linter.all false
set_option maxRecDepth 100000
set_option maxHeartbeats 1000000
/-! M5: the law's own numbers. -/
namespace Mx
open PySem Dl
/-- the first i octets from p on, as a number -/
def pfx (os : List Nat) (p : Nat) : Nat → Nat
  | 0 => 0
  | i + 1 => pfx os p i * 256 + os.getD (p + i) 0
/-- the same, with noughts behind the place h -/
def pvx (os : List Nat) (p h : Nat) : Nat → Nat
  | 0 => 0
  | j + 1 => pvx os p h j * 256 + (if j ≤ h then os.getD (p + j) 0 else 0)
theorem pvx_low {os : List Nat} {p h : Nat} : ∀ {j : Nat}, j ≤ h + 1 → pvx os p h j = pfx os p j
  | 0, _ => rfl
  | j + 1, hj => by
    unfold pvx pfx
    rw [pvx_low (show j ≤ h + 1 by omega), if_pos (by omega)]
theorem pvx_high {os : List Nat} {p h : Nat} : ∀ {d : Nat}, pvx os p h (h + 1 + d) = pfx os p (h + 1) * 256 ^ d
  | 0 => by
    rw [Nat.add_zero, pvx_low (Nat.le_refl _), Nat.pow_zero, Nat.mul_one]
  | d + 1 => by
    show pvx os p h (h + 1 + d) * 256 + (if h + 1 + d ≤ h then _ else 0) = _
    rw [pvx_high, if_neg (by omega), Nat.add_zero, Nat.pow_succ, Nat.mul_assoc]
structure NumAt (os : List Nat) (p many most i : Nat) : Prop where
  st : ∃ full : Bool, (full = true → pfx os p i = val ((digs many most).take i)) ∧ (full = false → pfx os p i < val ((digs many most).take i)) ∧ rdN os p many most = rdL os (p + i) ((digs many most).drop i) full (pfx os p i)
theorem num_start {os : List Nat} {p many most : Nat} : NumAt os p many most 0 := ⟨true, fun _ => rfl, (fun h => by cases h), rfl⟩
theorem val_split (ds : List Nat) (i : Nat) : val ds = val (ds.take i) * 256 ^ (ds.length - i) + val (ds.drop i) := by
  have h : ds = ds.take i ++ ds.drop i := (List.take_append_drop i ds).symm
  conv => lhs; rw [h]
  unfold val
  rw [List.foldl_append]
  have := val_go (ds.drop i) ((ds.take i).foldl (fun a d => a * 256 + d) 0)
  rw [List.length_drop] at this
  exact this
theorem num_step {os : List Nat} {p many most i : Nat} (hm : most < 256 ^ many) (hi : i < many) (ho : ∀ o ∈ os, o < 256) (h : NumAt os p many most i) :
    (os.length ≤ p + i → rdN os p many most = .err os.length) ∧ (p + i < os.length → (most < pvx os p i many → rdN os p many most = .err (p + i)) ∧ (¬ most < pvx os p i many → NumAt os p many most (i + 1))) := by
  obtain ⟨full, h1, h2, h3⟩ := h
  have hl : i < (digs many most).length := by rw [len_digs]; exact hi
  have hdrop := List.drop_eq_getElem_cons hl
  have htake : (digs many most).take (i + 1) = (digs many most).take i ++ [(digs many most)[i]] := by
    rw [List.take_add_one, List.getElem?_eq_getElem hl]
    rfl
  have hg : (digs many most)[i] < 256 := digs_lt (List.getElem_mem hl)
  generalize (digs many most)[i] = g at hdrop htake hg
  rw [hdrop] at h3
  rw [rdL] at h3
  constructor
  · intro hle
    rw [List.getElem?_eq_none hle] at h3
    exact h3
  · intro hlt
    have hos : os[p + i]? = some (os.getD (p + i) 0) := by
      rw [List.getD_eq_getElem?_getD, List.getElem?_eq_getElem hlt]
      rfl
    have hob : os.getD (p + i) 0 < 256 := ho _ (List.mem_of_getElem? hos)
    rw [hos] at h3
    dsimp only at h3
    have hp : pfx os p (i + 1) = pfx os p i * 256 + os.getD (p + i) 0 := rfl
    have hpv : pvx os p i many = pfx os p (i + 1) * 256 ^ (many - (i + 1)) := by
      have := pvx_high (os := os) (p := p) (h := i) (d := many - (i + 1))
      rw [show i + 1 + (many - (i + 1)) = many by omega] at this
      exact this
    have hmost := val_split (digs many most) (i + 1)
    rw [val_digs hm, len_digs] at hmost
    have hr : val ((digs many most).drop (i + 1)) < 256 ^ (many - (i + 1)) := by
      have := val_lt (ds := (digs many most).drop (i + 1)) fun d hd => digs_lt (List.mem_of_mem_drop hd)
      rw [List.length_drop, len_digs] at this
      exact this
    have hmp : val ((digs many most).take (i + 1)) = val ((digs many most).take i) * 256 + g := by rw [htake, val_app]
    have hcmp : most < pvx os p i many ↔ val ((digs many most).take (i + 1)) < pfx os p (i + 1) := by
      rw [hpv]
      generalize pfx os p (i + 1) = A at *
      generalize val ((digs many most).take (i + 1)) = B at *
      generalize 256 ^ (many - (i + 1)) = C at *
      constructor
      · intro h
        apply Nat.lt_of_not_le
        intro hle
        have := Nat.mul_le_mul_right C hle
        omega
      · intro h
        have h : B + 1 ≤ A := h
        have := Nat.mul_le_mul_right C h
        rw [Nat.add_mul] at this
        omega
    generalize os.getD (p + i) 0 = o at *
    cases full with
    | true =>
      have e := h1 rfl
      rw [if_pos rfl] at h3
      constructor
      · intro hlt
        have := hcmp.mp hlt
        rw [if_neg (by omega)] at h3
        exact h3
      · intro hnl
        have : ¬ val ((digs many most).take (i + 1)) < pfx os p (i + 1) := fun z => hnl (hcmp.mpr z)
        rw [if_pos (by omega), Bool.true_and] at h3
        refine ⟨decide (o = g), fun hd => ?_, fun hd => ?_, by rw [hp]; exact h3⟩
        · have := of_decide_eq_true hd
          omega
        · have := of_decide_eq_false hd
          omega
    | false =>
      have e := h2 rfl
      rw [if_neg Bool.false_ne_true] at h3
      constructor
      · intro hlt
        have := hcmp.mp hlt
        omega
      · intro hnl
        rw [if_pos (by omega), Bool.false_and] at h3
        exact ⟨false, (fun h => by cases h), fun _ => by omega, by rw [hp]; exact h3⟩
theorem num_end {os : List Nat} {p many most : Nat} (h : NumAt os p many most many) : rdN os p many most = .ok (pfx os p many) (p + many) := by
  obtain ⟨full, _, _, h3⟩ := h
  rw [List.drop_eq_nil_of_le (by rw [len_digs]; exact Nat.le_refl _)] at h3
  exact h3
end Mx
end
section
set_option Elab.async false
set_option autoImplicit false
set_option linter.all false
set_option maxRecDepth 100000
set_option maxHeartbeats 1000000
/-! P16: the law's own numbers, marks, values. -/
set_option pp.maxSteps 1200
namespace Fw
open PySem PySem.Spec PyProof.Rows L2 Dl Mx
local macro_rules
  | `(tactic| fail) => `(tactic| first
    | with_reducible refine ws_seq ?_
    | with_reducible refine ws_set ?_
    | with_reducible refine ws_ret ?_
    | with_reducible refine ws_if ?_
    | with_reducible refine ws_next ?_
    | with_reducible refine ws_break ?_
    | with_reducible refine ws_cont ?_
    | with_reducible refine ws_drop ?_
    | with_reducible refine ws_retN ?_
    | with_reducible refine ws_par ?_
    | ((with_reducible refine ws_id ?_); (with_reducible apply ws_aug); rfl)
    | ((with_reducible refine ws_id ?_); (with_reducible apply ws_augR); rfl)
    | with_reducible refine ws_asg ?_
    | ((with_reducible refine we_id ?_); (with_reducible apply we_var); rfl)
    | with_reducible refine we_int ?_
    | with_reducible refine we_non ?_
    | with_reducible refine we_bl ?_
    | with_reducible refine we_str ?_
    | with_reducible refine we_ty ?_
    | with_reducible refine we_opI ?_
    | with_reducible refine we_opB ?_
    | with_reducible refine we_opIC ?_
    | with_reducible refine we_eq ?_
    | with_reducible refine we_ne ?_
    | with_reducible refine we_isN ?_
    | with_reducible refine we_notN ?_
    | with_reducible refine we_chainI ?_
    | with_reducible refine we_chainE ?_
    | with_reducible refine we_chain3 ?_
    | with_reducible refine we_neg ?_
    | with_reducible refine we_andV ?_
    | with_reducible refine we_orV ?_
    | with_reducible refine we_notV ?_
    | with_reducible refine we_if ?_
    | with_reducible refine wt_test ?_
    | with_reducible refine wt_B ?_
    | with_reducible refine wt_not ?_
    | with_reducible refine wt_and ?_
    | with_reducible refine wt_or ?_
    | with_reducible refine wt_yes ?_
    | with_reducible refine wa_nil ?_
    | with_reducible refine wa_cons ?_
    | with_reducible refine we_tup ?_
    | with_reducible refine we_ixT ?_
    | with_reducible refine we_ixL ?_
    | with_reducible refine we_len ?_
    | with_reducible refine we_isi ?_
    | with_reducible refine we_isiSq ?_
    | with_reducible refine wg_name ?_
    | with_reducible refine we_slT ?_
    | with_reducible refine we_tuple ?_
    | with_reducible refine we_slL ?_
    | with_reducible refine wo_none ?_
    | with_reducible refine wo_some ?_
    | with_reducible refine we_callP ?_
    | with_reducible refine we_min2 ?_
    | with_reducible refine we_max2 ?_
    | with_reducible refine we_abs ?_
    | with_reducible refine we_all ?_
    | with_reducible refine we_any ?_
    | with_reducible refine we_append ?_
    | with_reducible refine we_extend ?_
    | with_reducible refine we_catL ?_
    | with_reducible refine ws_raise ?_
    | with_reducible refine we_inZ ?_
    | with_reducible refine we_catT ?_
    | with_reducible refine we_in ?_
    | with_reducible refine we_notIn ?_
    | with_reducible refine wg_tup ?_
    | with_reducible refine wgs_cons ?_
    | with_reducible refine wgs_nil ?_
    | with_reducible refine wi_rng1 ?_
    | with_reducible refine wi_rng2 ?_
    | with_reducible refine wi_lst ?_
    | with_reducible refine wi_tup ?_
    | with_reducible refine wi_enT ?_
    | with_reducible refine wi_enL ?_
    | with_reducible refine wi_zpTT ?_
    | with_reducible refine wi_zpTL ?_
    | with_reducible refine we_toInt ?_
    | with_reducible refine we_callPX ?_
    | ((with_reducible refine Rx.ex_id ?_); first
      | with_reducible refine ⟨_, _, rfl, rfl, ?_⟩
      | with_reducible refine ⟨_, _, rfl, .t _, ?_⟩
      | with_reducible refine ⟨_, _, rfl, .l (.d _), ?_⟩
      | with_reducible refine ⟨_, rfl, ?_⟩
      | with_reducible refine ⟨_, _, rfl, ?_⟩
      | refine ⟨_, _, _, rfl, rfl, rfl, ?_⟩
      | refine ⟨[_], rfl, Nat.le_of_ble_eq_true rfl, ?_⟩
      | refine ⟨[_, _], rfl, Nat.le_of_ble_eq_true rfl, ?_⟩
      | refine ⟨[_, _, _], rfl, Nat.le_of_ble_eq_true rfl, ?_⟩
      | refine ⟨[_, _, _, _], rfl, Nat.le_of_ble_eq_true rfl, ?_⟩
      | refine ⟨[_, _, _, _, _], rfl, Nat.le_of_ble_eq_true rfl, ?_⟩
      | refine ⟨[_, _, _, _, _, _], rfl, Nat.le_of_ble_eq_true rfl, ?_⟩
      | refine ⟨[_, _, _, _, _, _, _], rfl, Nat.le_of_ble_eq_true rfl, ?_⟩)
    | ((with_reducible refine Rx.and_id ?_); first
      | refine ⟨⟨_, 0, rfl⟩, ?_⟩
      | refine ⟨rfl, ?_⟩))
  | `(tactic| rfl') => `(tactic| repeat fail)
local macro_rules
  | `(tactic| fail) => `(tactic| first
    | with_reducible refine ws_setL ?_
    | ((with_reducible refine Rx.ex_id ?_); first
      | refine ⟨_, _, _, .p ⟨0, rfl⟩, rfl, rfl, ?_⟩
      | refine ⟨0, 0, _, rfl, rfl, Nat.le_of_ble_eq_true rfl, ?_⟩
      | refine ⟨1, 0, _, rfl, rfl, Nat.le_of_ble_eq_true rfl, ?_⟩)
    | ((with_reducible refine Rx.and_id ?_); first
      | refine ⟨by decide, ?_⟩
      | refine ⟨.inr ⟨by decide, by decide⟩, ?_⟩
      | refine ⟨.inl ⟨by decide, by decide⟩, ?_⟩
      | refine ⟨⟨by decide, by decide⟩, ?_⟩
      | refine ⟨⟨by decide, by decide, by decide⟩, ?_⟩))
abbrev d_law_need : Dsp := fun xs rs P X => ∃ n : Nat, xs = [.d (nD n)] ∧ n < 256 ^ 12 ∧ P (.d (nD (octF n))) rs
theorem len_law_need : Len d_law_need 1 := fun _ _ _ _ ⟨_, e, _⟩ => by rw [e]; rfl
def reD {α : Type} (enc : α → PyData) : Rd α → PyData
  | .ok v q => .tuple [enc v, nD q, .none]
  | .err f => .tuple [.none, .none, nD f]
abbrev d_law_number : Dsp := fun xs rs P X => ∃ (os : List Nat) (p many most : Nat), xs = [.d (octD os), .d (nD p), .d (nD many), .d (nD most)] ∧ octs os ∧ many ≤ 12 ∧ most < 256 ^ many ∧ P (.d (reD nD (rdN os p many most))) rs
theorem len_law_number : Len d_law_number 4 := fun _ _ _ _ ⟨_, _, _, _, e, _⟩ => by rw [e]; rfl
section
variable {P : Program} {w : World} {K : PySem.W.Frag} {mg : Str → Option Value} {base : Heap}
theorem cal_law_need (A : Fs P K mg) : CalX P w K mg base CX0 1 (fF K ("_law_need", none)) ["_law_number_here"] (toSp K (d_law_need)) := by
  obtain ⟨fd, F⟩ := A.f_law_need
  refine ⟨fd, F.ok sc_law_need (toSp_len (len_law_need)) (fun cdv A0 outer s H vs Q E hr h => ⟨_, PSs.nox ((pss_cons (ps_par (i := 1) (j := 2) rfl sc_law_need.nd rfl rfl (by decide) rfl rfl (pa_cons pe_int (pa_cons (pe_callTy call_int1 (by rfl) A.b_int (by decide +kernel) (pa_cons (pv 0) pa_nil)) pa_nil)) rfl) (pss_cons (ps_for PassesOwn.never rfl (pi_range1 (by rfl) A.b_range (pa_cons pe_int pa_nil)) (pg_name (i := 3) sc_law_need.nd rfl (Or.inl rfl)) (pss_one (ps_par (i := 1) (j := 2) rfl sc_law_need.nd rfl rfl (by decide) rfl rfl (pa_cons (pe_op op_add (pv 1) (pe_callTy call_int1 (by rfl) A.b_int (by decide +kernel) (pa_cons (pe_cmpR op_gt (pv 2) pe_int (nomark _)) pa_nil))) (pa_cons (pe_op op_fdiv (pv 2) pe_int) pa_nil)) rfl))) (pss_one (ps_ret (pv 1)))))), to_body h fun W xs rs P hf => ?_⟩), F.kp, F.bindsN fun _ _ _ _ _ _ us hl => match us, hl with | [_], _ => rfl⟩
  obtain ⟨n, rfl, hn, hP⟩ := hf
  change WS W _ [some (.d (nD n)), none, none, none] rs _
  rfl'
  refine ws_for (Iv := fun i sl rs1 => ∃ (c z : Nat) (q : Option DV), sl = [some (.d (nD n)), some (.d (nD c)), some (.d (nD z)), q] ∧ rs1 = rs ∧ c + octF z = octF n ∧ z < 256 ^ (12 - i)) (xs := rgD 0 12) ?_ ?_ ?_
  · rfl'
    exact ⟨0, n, none, rfl, rfl, Nat.zero_add _, hn⟩
  · rintro i d sl rs1 hd ⟨c, z, q, rfl, rfl, he, hz⟩
    have hi := (rgD_at hd).1
    rfl'
    have hz2 : z / 256 < 256 ^ (12 - (i + 1)) := by
      rw [show 12 - i = (12 - (i + 1)) + 1 by omega, Nat.pow_succ] at hz
      exact Nat.div_lt_of_lt_mul (by rw [Nat.mul_comm]; exact hz)
    have e2 : (z : Int) / 256 = ((z / 256 : Nat) : Int) := by omega
    by_cases h0 : 0 < z
    · refine ⟨c + 1, z / 256, some (.d d), ?_, rfl, ?_, hz2⟩
      · rw [e2, if_pos (decide_eq_true (by omega))]
        rfl
      · rw [octF_pos h0] at he
        omega
    · have h0 : z = 0 := by omega
      subst h0
      refine ⟨c, 0, some (.d d), ?_, rfl, he, hz2⟩
      rw [if_neg (by decide), Int.add_zero]
      rfl
  · rintro sl rs1 ⟨c, z, q, rfl, rfl, he, hz⟩
    rw [rgD_len] at hz
    have hz : z = 0 := by simpa using hz
    subst hz
    rw [octF_zero] at he
    have he : c = octF n := he
    subst he
    rfl'
    exact hP
theorem cal_law_number (A : Fs P K mg) : CalX P w K mg base CX0 1 (fF K ("_law_number", none)) ["_law_octets", "_law_at", "_law_many", "_law_most"] (toSp K (d_law_number)) := by
  obtain ⟨fd, F⟩ := A.f_law_number
  refine ⟨fd, F.ok sc_law_number (toSp_len (len_law_number)) (fun cdv A0 outer s H vs Q E hr h => ⟨_, PSs.nox ((pss_cons (ps_for PassesOwn.never rfl (pi_range1 (by rfl) A.b_range (pa_cons (pv 2) pa_nil)) (pg_name (i := 4) sc_law_number.nd rfl (Or.inl rfl)) (pss_cons (ps_if (pt_cmpR op_ge (pe_op op_add (pv 1) (pv 4)) (pe_callB call_len_seq (by rfl) A.b_len (by decide +kernel) (pa_cons (pv 0) pa_nil)) (nomark _)) (pss_one (ps_ret (pe_tup (pa_cons pe_non (pa_cons pe_non (pa_cons (pe_callB call_len_seq (by rfl) A.b_len (by decide +kernel) (pa_cons (pv 0) pa_nil)) pa_nil)))))) pss_nil) (pss_cons (ps_set (i := 5) sc_law_number.nd rfl (Or.inl rfl) pe_int) (pss_cons (ps_for PassesOwn.never rfl (pi_range1 (by rfl) A.b_range (pa_cons (pv 2) pa_nil)) (pg_name (i := 6) sc_law_number.nd rfl (Or.inl rfl)) (pss_one (ps_set (i := 5) sc_law_number.nd rfl (Or.inl rfl) (pe_op op_add (pe_op op_mul (pv 5) pe_int) (pe_ifExp (pt_cmpR op_le (pv 6) (pv 4) (nomark _)) (pe_ix ix_tup (pv 0) (pe_op op_add (pv 1) (pv 6)) (fun _ _ => rfl)) pe_int))))) (pss_one (ps_if (pt_cmpR op_gt (pv 5) (pv 3) (nomark _)) (pss_one (ps_ret (pe_tup (pa_cons pe_non (pa_cons pe_non (pa_cons (pe_op op_add (pv 1) (pv 4)) pa_nil)))))) pss_nil)))))) (pss_cons (ps_set (i := 7) sc_law_number.nd rfl (Or.inl rfl) pe_int) (pss_cons (ps_for PassesOwn.never rfl (pi_range1 (by rfl) A.b_range (pa_cons (pv 2) pa_nil)) (pg_name (i := 6) sc_law_number.nd rfl (Or.inl rfl)) (pss_one (ps_set (i := 7) sc_law_number.nd rfl (Or.inl rfl) (pe_op op_add (pe_op op_mul (pv 7) pe_int) (pe_ix ix_tup (pv 0) (pe_op op_add (pv 1) (pv 6)) (fun _ _ => rfl)))))) (pss_one (ps_ret (pe_tup (pa_cons (pv 7) (pa_cons (pe_op op_add (pv 1) (pv 2)) (pa_cons pe_non pa_nil)))))))))), to_body h fun W xs rs P hf => ?_⟩), F.kp, F.bindsN fun _ _ _ _ _ _ us hl => match us, hl with | [_, _, _, _], _ => rfl⟩
  obtain ⟨os, p, many, most, rfl, ho, hm, hmo, hP⟩ := hf
  change WS W _ [some (.d (octD os)), some (.d (nD p)), some (.d (nD many)), some (.d (nD most)), none, none, none, none] rs _
  have hat : ∀ j : Nat, p + j < os.length → atI (os.map nD) ((p : Int) + (j : Int)) = some (nD (os.getD (p + j) 0)) := fun j hj => by
    have := atI_nat (xs := os.map nD) (j := p + j) (v := nD (os.getD (p + j) 0)) (by
      rw [List.getElem?_map, List.getD_eq_getElem?_getD, List.getElem?_eq_getElem hj]
      rfl)
    rw [Int.natCast_add] at this
    exact this
  rfl'
  refine ws_for (Iv := fun i sl rs1 => ∃ q4 q5 q6 : Option DV, sl = [some (.d (octD os)), some (.d (nD p)), some (.d (nD many)), some (.d (nD most)), q4, q5, q6, none] ∧ rs1 = rs ∧ NumAt os p many most i ∧ p + i ≤ max p os.length) (xs := rgD 0 many) ?_ ?_ ?_
  · rfl'
    exact ⟨by omega, by omega, rfl, none, none, none, rfl, rfl, num_start, by omega⟩
  · rintro i d sl rs1 hd ⟨q4, q5, q6, rfl, rfl, hna, hpi⟩
    obtain ⟨hi, rfl⟩ := rgD_at hd
    have hstep := num_step hmo hi ho hna
    rw [Int.zero_add]
    rfl'
    refine ite_both (fun hc => ?_) (fun hc => ?_)
    · have hc := of_decide_eq_true hc
      rw [List.length_map] at hc
      rfl'
      rw [hstep.1 (by omega)] at hP
      rw [List.length_map]
      exact hP
    have hc := of_decide_eq_false hc
    rw [List.length_map] at hc
    have hlt : p + i < os.length := by omega
    rfl'
    refine ws_for (Iv := fun j sl rs2 => ∃ q6 : Option DV, sl = [some (.d (octD os)), some (.d (nD p)), some (.d (nD many)), some (.d (nD most)), some (.d (nD i)), some (.d (nD (pvx os p i j))), q6, none] ∧ rs2 = rs1) (xs := rgD 0 many) ?_ ?_ ?_
    · rfl'
      exact ⟨by omega, by omega, rfl, q6, rfl, rfl⟩
    · rintro j d sl rs2 hd2 ⟨q6, rfl, rfl⟩
      obtain ⟨hj, rfl⟩ := rgD_at hd2
      rw [Int.zero_add]
      rfl'
      have e1 : ∀ y : Nat, (pvx os p i j : Int) * 256 + (y : Int) = ((pvx os p i j * 256 + y : Nat) : Int) := fun y => by omega
      refine ite_both (fun hc2 => ?_) (fun hc2 => ?_)
      · have hc2 := of_decide_eq_true hc2
        rfl'
        refine ⟨_, _, _, rfl, rfl, hat j (by omega), ?_⟩
        rfl'
        rw [e1]
        have : pvx os p i (j + 1) = pvx os p i j * 256 + os.getD (p + j) 0 := by
          show pvx os p i j * 256 + (if j ≤ i then os.getD (p + j) 0 else 0) = _
          rw [if_pos (by omega)]
        rw [← this]
        exact ⟨_, rfl, rfl⟩
      · have hc2 := of_decide_eq_false hc2
        rfl'
        have : pvx os p i (j + 1) = pvx os p i j * 256 + 0 := by
          show pvx os p i j * 256 + (if j ≤ i then os.getD (p + j) 0 else 0) = _
          rw [if_neg (by omega)]
        have e2 := e1 0
        rw [← this] at e2
        rw [show (pvx os p i j : Int) * 256 + 0 = (pvx os p i (j + 1) : Int) from e2]
        exact ⟨_, rfl, rfl⟩
    · rintro sl rs2 ⟨q6, rfl, rfl⟩
      rw [rgD_len]
      rfl'
      refine ite_both (fun hc2 => ?_) (fun hc2 => ?_)
      · have hc2 := of_decide_eq_true hc2
        rfl'
        rw [(hstep.2 hlt).1 (by omega)] at hP
        refine rtD hP ?_
        simp only [reD, nD, Int.natCast_add]
      · have hc2 := of_decide_eq_false hc2
        rfl'
        exact ⟨_, _, _, rfl, rfl, (hstep.2 hlt).2 (by omega), by omega⟩
  · rintro sl rs1 ⟨q4, q5, q6, rfl, rfl, hna, hpi⟩
    rw [rgD_len] at hna hpi
    rw [num_end hna] at hP
    rfl'
    refine ws_for (Iv := fun j sl rs2 => ∃ q6 : Option DV, sl = [some (.d (octD os)), some (.d (nD p)), some (.d (nD many)), some (.d (nD most)), q4, q5, q6, some (.d (nD (pfx os p j)))] ∧ rs2 = rs1) (xs := rgD 0 many) ?_ ?_ ?_
    · rfl'
      exact ⟨by omega, by omega, rfl, q6, rfl, rfl⟩
    · rintro j d sl rs2 hd2 ⟨q6, rfl, rfl⟩
      obtain ⟨hj, rfl⟩ := rgD_at hd2
      rw [Int.zero_add]
      rfl'
      refine ⟨_, _, _, rfl, rfl, hat j (by omega), ?_⟩
      rfl'
      rfl
    · rintro sl rs2 ⟨q6, rfl, rfl⟩
      rw [rgD_len]
      rfl'
      refine rtD hP ?_
      simp only [reD, nD, Int.natCast_add]
end
end Fw
end
section
set_option Elab.async false
set_option autoImplicit false
set_option linter.all false
set_option maxRecDepth 100000
set_option maxHeartbeats 1000000
/-! P17: the law's own marks, values, octets. -/
set_option pp.maxSteps 1200
namespace Fw
open PySem PySem.Spec PyProof.Rows L2 Dl Mx
local macro_rules
  | `(tactic| fail) => `(tactic| first
    | with_reducible refine ws_seq ?_
    | with_reducible refine ws_set ?_
    | with_reducible refine ws_ret ?_
    | with_reducible refine ws_if ?_
    | with_reducible refine ws_next ?_
    | with_reducible refine ws_break ?_
    | with_reducible refine ws_cont ?_
    | with_reducible refine ws_drop ?_
    | with_reducible refine ws_retN ?_
    | with_reducible refine ws_par ?_
    | ((with_reducible refine ws_id ?_); (with_reducible apply ws_aug); rfl)
    | ((with_reducible refine ws_id ?_); (with_reducible apply ws_augR); rfl)
    | with_reducible refine ws_asg ?_
    | ((with_reducible refine we_id ?_); (with_reducible apply we_var); rfl)
    | with_reducible refine we_int ?_
    | with_reducible refine we_non ?_
    | with_reducible refine we_bl ?_
    | with_reducible refine we_str ?_
    | with_reducible refine we_ty ?_
    | with_reducible refine we_opI ?_
    | with_reducible refine we_opB ?_
    | with_reducible refine we_opIC ?_
    | with_reducible refine we_eq ?_
    | with_reducible refine we_ne ?_
    | with_reducible refine we_isN ?_
    | with_reducible refine we_notN ?_
    | with_reducible refine we_chainI ?_
    | with_reducible refine we_chainE ?_
    | with_reducible refine we_chain3 ?_
    | with_reducible refine we_neg ?_
    | with_reducible refine we_andV ?_
    | with_reducible refine we_orV ?_
    | with_reducible refine we_notV ?_
    | with_reducible refine we_if ?_
    | with_reducible refine wt_test ?_
    | with_reducible refine wt_B ?_
    | with_reducible refine wt_not ?_
    | with_reducible refine wt_and ?_
    | with_reducible refine wt_or ?_
    | with_reducible refine wt_yes ?_
    | with_reducible refine wa_nil ?_
    | with_reducible refine wa_cons ?_
    | with_reducible refine we_tup ?_
    | with_reducible refine we_ixT ?_
    | with_reducible refine we_ixL ?_
    | with_reducible refine we_len ?_
    | with_reducible refine we_isi ?_
    | with_reducible refine we_isiSq ?_
    | with_reducible refine wg_name ?_
    | with_reducible refine we_slT ?_
    | with_reducible refine we_tuple ?_
    | with_reducible refine we_slL ?_
    | with_reducible refine wo_none ?_
    | with_reducible refine wo_some ?_
    | with_reducible refine we_callP ?_
    | with_reducible refine we_min2 ?_
    | with_reducible refine we_max2 ?_
    | with_reducible refine we_abs ?_
    | with_reducible refine we_all ?_
    | with_reducible refine we_any ?_
    | with_reducible refine we_append ?_
    | with_reducible refine we_extend ?_
    | with_reducible refine we_catL ?_
    | with_reducible refine ws_raise ?_
    | with_reducible refine we_inZ ?_
    | with_reducible refine we_catT ?_
    | with_reducible refine we_in ?_
    | with_reducible refine we_notIn ?_
    | with_reducible refine wg_tup ?_
    | with_reducible refine wgs_cons ?_
    | with_reducible refine wgs_nil ?_
    | with_reducible refine wi_rng1 ?_
    | with_reducible refine wi_rng2 ?_
    | with_reducible refine wi_lst ?_
    | with_reducible refine wi_tup ?_
    | with_reducible refine wi_enT ?_
    | with_reducible refine wi_enL ?_
    | with_reducible refine wi_zpTT ?_
    | with_reducible refine wi_zpTL ?_
    | with_reducible refine we_toInt ?_
    | with_reducible refine we_callPX ?_
    | ((with_reducible refine Rx.ex_id ?_); first
      | with_reducible refine ⟨_, _, rfl, rfl, ?_⟩
      | with_reducible refine ⟨_, _, rfl, .t _, ?_⟩
      | with_reducible refine ⟨_, _, rfl, .l (.d _), ?_⟩
      | with_reducible refine ⟨_, rfl, ?_⟩
      | with_reducible refine ⟨_, _, rfl, ?_⟩
      | refine ⟨_, _, _, rfl, rfl, rfl, ?_⟩
      | refine ⟨[_], rfl, Nat.le_of_ble_eq_true rfl, ?_⟩
      | refine ⟨[_, _], rfl, Nat.le_of_ble_eq_true rfl, ?_⟩
      | refine ⟨[_, _, _], rfl, Nat.le_of_ble_eq_true rfl, ?_⟩
      | refine ⟨[_, _, _, _], rfl, Nat.le_of_ble_eq_true rfl, ?_⟩
      | refine ⟨[_, _, _, _, _], rfl, Nat.le_of_ble_eq_true rfl, ?_⟩
      | refine ⟨[_, _, _, _, _, _], rfl, Nat.le_of_ble_eq_true rfl, ?_⟩
      | refine ⟨[_, _, _, _, _, _, _], rfl, Nat.le_of_ble_eq_true rfl, ?_⟩)
    | ((with_reducible refine Rx.and_id ?_); first
      | refine ⟨⟨_, 0, rfl⟩, ?_⟩
      | refine ⟨rfl, ?_⟩))
  | `(tactic| rfl') => `(tactic| repeat fail)
local macro_rules
  | `(tactic| fail) => `(tactic| first
    | with_reducible refine ws_setL ?_
    | ((with_reducible refine Rx.ex_id ?_); first
      | refine ⟨_, _, _, .p ⟨0, rfl⟩, rfl, rfl, ?_⟩
      | refine ⟨0, 0, _, rfl, rfl, Nat.le_of_ble_eq_true rfl, ?_⟩
      | refine ⟨1, 0, _, rfl, rfl, Nat.le_of_ble_eq_true rfl, ?_⟩)
    | ((with_reducible refine Rx.and_id ?_); first
      | refine ⟨by decide, ?_⟩
      | refine ⟨.inr ⟨by decide, by decide⟩, ?_⟩
      | refine ⟨.inl ⟨by decide, by decide⟩, ?_⟩
      | refine ⟨⟨by decide, by decide⟩, ?_⟩
      | refine ⟨⟨by decide, by decide, by decide⟩, ?_⟩))
def lmD (m : Mark) : PyData := .tuple [nD m.laid, nD m.first]
def lmsD (ms : List Mark) : PyData := .list (ms.map lmD)
abbrev d_law_marks : Dsp := fun xs rs P X => ∃ (su : Setup) (os : List Nat) (p : Nat), xs = [.d (suD su), .d (octD os), .d (nD p)] ∧ su.ok ∧ octs os ∧ P (.d (reD lmsD (rdRep (rdMark os) su.kinds.length [] p))) rs
theorem len_law_marks : Len d_law_marks 3 := fun _ _ _ _ ⟨_, _, _, e, _⟩ => by rw [e]; rfl
def raD {α : Type} : Rd α → PyData
  | .ok _ q => .tuple [nD q, .none]
  | .err f => .tuple [.none, nD f]
def rvD : Rd Nat → PyData
  | .ok v _ => .tuple [nD v, .none]
  | .err f => .tuple [.none, nD f]
abbrev d_law_values : Dsp := fun xs rs P X => ∃ (os : List Nat) (p first many : Nat), xs = [.d (octD os), .d (nD p), .d (nD many)] ∧ octs os ∧ many ∈ pws ∧ P (.d (raD (rdSpan os first many p))) rs
theorem len_law_values : Len d_law_values 3 := fun _ _ _ _ ⟨_, _, _, _, e, _⟩ => by rw [e]; rfl
abbrev d_law_octet : Dsp := fun xs rs P X => ∃ (os : List Nat) (p : Nat) (ks : List Nat), xs = [.d (octD os), .d (nD p), .d (.list (ks.map nD))] ∧ P (.d (rvD (rdO os p ks))) rs
theorem len_law_octet : Len d_law_octet 3 := fun _ _ _ _ ⟨_, _, _, e, _⟩ => by rw [e]; rfl
section
variable {P : Program} {w : World} {K : PySem.W.Frag} {mg : Str → Option Value} {base : Heap}
theorem cal_law_octet (A : Fs P K mg) : CalX P w K mg base CX0 1 (fF K ("_law_octet", none)) ["_law_octets", "_law_at", "_law_some"] (toSp K (d_law_octet)) := by
  obtain ⟨fd, F⟩ := A.f_law_octet
  refine ⟨fd, F.ok sc_law_octet (toSp_len (len_law_octet)) (fun cdv A0 outer s H vs Q E hr h => ⟨_, PSs.nox ((pss_cons (ps_if (pt_cmpR op_ge (pv 1) (pe_callB call_len_seq (by rfl) A.b_len (by decide +kernel) (pa_cons (pv 0) pa_nil)) (nomark _)) (pss_one (ps_ret (pe_tup (pa_cons pe_non (pa_cons (pe_callB call_len_seq (by rfl) A.b_len (by decide +kernel) (pa_cons (pv 0) pa_nil)) pa_nil))))) pss_nil) (pss_one (ps_ret (pe_ifExp (pt_cmpR op_in_seq (pe_ix ix_tup (pv 0) (pv 1) (fun _ _ => rfl)) (pv 2) rfl) (pe_tup (pa_cons (pe_ix ix_tup (pv 0) (pv 1) (fun _ _ => rfl)) (pa_cons pe_non pa_nil))) (pe_tup (pa_cons pe_non (pa_cons (pv 1) pa_nil)))))))), to_body h fun W xs rs P hf => ?_⟩), F.kp, F.bindsN fun _ _ _ _ _ _ us hl => match us, hl with | [_, _, _], _ => rfl⟩
  obtain ⟨os, p, ks, rfl, hP⟩ := hf
  change WS W _ [some (.d (octD os)), some (.d (nD p)), some (.d (.list (ks.map nD)))] rs _
  unfold rdO at hP
  rfl'
  cases ho : os[p]? with
  | none =>
    rw [ho] at hP
    have hl : os.length ≤ p := List.getElem?_eq_none_iff.mp ho
    refine ite_T (by simp; omega) ?_
    rfl'
    rw [List.length_map]
    exact hP
  | some o =>
    rw [ho] at hP
    dsimp only at hP
    have hl : p < os.length := (List.getElem?_eq_some_iff.mp ho).1
    have hat : atI (os.map nD) (p : Int) = some (nD o) := atI_nat (by rw [List.getElem?_map, ho]; rfl)
    refine ite_F (by simp; omega) ?_
    rfl'
    refine ⟨_, _, nD o, rfl, rfl, hat, ?_⟩
    rfl'
    refine ⟨_, List.map (fun k : Nat => (k : Int)) ks, rfl, by rw [List.map_map]; rfl, ?_⟩
    have hb : (decide ((o : Int) ∈ List.map (fun k : Nat => (k : Int)) ks)) = decide (o ∈ ks) := by
      rw [Bool.eq_iff_iff]
      simp only [decide_eq_true_eq, List.mem_map]
      constructor
      · rintro ⟨a, ha, e⟩
        have : a = o := by omega
        exact this ▸ ha
      · exact fun h => ⟨o, h, rfl⟩
    rw [hb]
    rfl'
    by_cases hk : o ∈ ks
    · rw [if_pos hk] at hP
      refine ite_T (by simp [hk]) ?_
      rfl'
      refine ⟨_, _, nD o, rfl, rfl, hat, ?_⟩
      rfl'
      exact hP
    · rw [if_neg hk] at hP
      refine ite_F (by simp [hk]) ?_
      rfl'
      exact hP
theorem cal_law_values (A : Fs P K mg) : CalX P w K mg base CX0 2 (fF K ("_law_values", none)) ["_law_octets", "_law_at", "_law_many"] (toSp K (d_law_values)) := by
  obtain ⟨fd, F⟩ := A.f_law_values
  obtain ⟨fd_law_number, G_law_number, p_law_number, b_law_number⟩ := cal_law_number (P := P) (w := w) (base := base) A
  have g_law_number := A.g_law_number
  obtain ⟨fd_law_need, G_law_need, p_law_need, b_law_need⟩ := cal_law_need (P := P) (w := w) (base := base) A
  have g_law_need := A.g_law_need
  refine ⟨fd, F.ok sc_law_values (toSp_len (len_law_values)) (fun cdv A0 outer s H vs Q E hr h => ⟨_, PSs.nox ((pss_cons (ps_asg (pe_call G_law_number (hr.mono (by decide)) rfl g_law_number p_law_number b_law_number .nil pass0 (pa_cons (pv 0) (pa_cons (pv 1) (pa_cons pe_int (pa_cons (pe_op op_mul pe_int (pe_op op_pow pe_int pe_int)) pa_nil))))) (pg_tup (n := 3) rfl (pgs_cons (pg_name (i := 3) sc_law_values.nd rfl (Or.inl rfl)) (pgs_cons (pg_name (i := 1) sc_law_values.nd rfl (Or.inl rfl)) (pgs_cons (pg_name (i := 4) sc_law_values.nd rfl (Or.inl rfl)) pgs_nil))))) (pss_cons (ps_if (PW.pt (pw_or (pt_cmp (pc_notN (pv 4))) (pw_or1 (pt_cmpR op_eq (pv 2) pe_int (nomark _))))) (pss_one (ps_ret (pe_tup (pa_cons (pv 1) (pa_cons (pv 4) pa_nil))))) pss_nil) (pss_cons (ps_asg (pe_call G_law_number (hr.mono (by decide)) rfl g_law_number p_law_number b_law_number .nil pass0 (pa_cons (pv 0) (pa_cons (pv 1) (pa_cons pe_int (pa_cons (pe_op op_sub (pe_op op_mul pe_int (pe_op op_pow pe_int pe_int)) (pv 3)) pa_nil))))) (pg_tup (n := 3) rfl (pgs_cons (pg_name (i := 5) sc_law_values.nd rfl (Or.inl rfl)) (pgs_cons (pg_name (i := 1) sc_law_values.nd rfl (Or.inl rfl)) (pgs_cons (pg_name (i := 4) sc_law_values.nd rfl (Or.inl rfl)) pgs_nil))))) (pss_cons (ps_if (pt_cmp (pc_notN (pv 4))) (pss_one (ps_ret (pe_tup (pa_cons pe_non (pa_cons (pv 4) pa_nil))))) pss_nil) (pss_cons (ps_asg (pe_call G_law_number (hr.mono (by decide)) rfl g_law_number p_law_number b_law_number .nil pass0 (pa_cons (pv 0) (pa_cons (pv 1) (pa_cons (pe_call G_law_need (hr.mono (by decide)) rfl g_law_need p_law_need b_law_need .nil pass0 (pa_cons (pe_op op_mul (pe_op op_sub (pv 2) pe_int) (pv 5)) pa_nil)) (pa_cons (pe_op op_mul (pe_op op_sub (pv 2) pe_int) (pv 5)) pa_nil))))) (pg_tup (n := 3) rfl (pgs_cons (pg_name (i := 6) sc_law_values.nd rfl (Or.inl rfl)) (pgs_cons (pg_name (i := 1) sc_law_values.nd rfl (Or.inl rfl)) (pgs_cons (pg_name (i := 4) sc_law_values.nd rfl (Or.inl rfl)) pgs_nil))))) (pss_one (ps_ret (pe_tup (pa_cons (pv 1) (pa_cons (pv 4) pa_nil))))))))))), to_body h fun W xs rs P hf => ?_⟩), F.kp, F.bindsN fun _ _ _ _ _ _ us hl => match us, hl with | [_, _, _], _ => rfl⟩
  obtain ⟨os, p, first, many, rfl, ho, hm, hP⟩ := hf
  change WS W _ [some (.d (octD os)), some (.d (nD p)), some (.d (nD many)), none, none, none, none] rs _
  have hm2 : 1 ≤ many ∧ many ≤ 32 := by
    generalize many = z at hm
    revert z
    decide
  unfold rdSpan at hP
  rfl'
  refine ⟨os, p, 3, 2000000, rfl, ho, by decide, by decide, ?_⟩
  cases h1 : rdN os p 3 2000000 with
  | err f =>
    rw [h1] at hP
    unfold reD
    rfl'
    refine ite_T rfl (ite_T rfl ?_)
    rfl'
    exact hP
  | ok lw q =>
    rw [h1] at hP
    have hl := rdN_le (by decide) h1
    unfold reD
    rfl'
    refine ite_F rfl ?_
    rfl'
    refine ite_both (fun hc => ?_) (fun hc => ?_)
    · have hc : (many : Int) = 1 := by simpa [deq] using hc
      have hc : many = 1 := by omega
      have hP : P (.d (raD (if many = 1 then Rd.ok _ q else _))) rs := hP
      rw [if_pos hc] at hP
      rfl'
      exact hP
    have hc : ¬ (many : Int) = 1 := by simpa [deq] using hc
    have hc : ¬ many = 1 := by omega
    have hP : P (.d (raD (if many = 1 then _ else (rdN os q 3 (2000000 - lw)).bind _))) rs := hP
    rw [if_neg hc] at hP
    rfl'
    have e1 : (2 : Int) * 10 ^ Int.toNat 6 - (lw : Int) = ((2000000 - lw : Nat) : Int) := by
      rw [show (10 : Int) ^ Int.toNat 6 = 1000000 by decide]
      omega
    have hlt : 2000000 - lw < 256 ^ 3 := by omega
    refine ⟨os, q, 3, 2000000 - lw, by rw [e1]; rfl, ho, by decide, hlt, ?_⟩
    cases h2 : rdN os q 3 (2000000 - lw) with
    | err f =>
      rw [h2] at hP
      unfold reD
      rfl'
      refine ite_T rfl ?_
      rfl'
      exact hP
    | ok h q2 =>
      rw [h2] at hP
      have hh := rdN_le hlt h2
      unfold reD
      rfl'
      refine ite_F rfl ?_
      rfl'
      have hb : (many - 2) * h ≤ 30 * 2000000 := Nat.mul_le_mul (by omega) (by omega)
      have es : ((many : Int) - 2) * (h : Int) = (((many - 2) * h : Nat) : Int) := by
        rw [Int.natCast_mul]
        congr 1
        omega
      refine ⟨.inl ⟨by omega, by omega⟩, ?_⟩
      rw [es]
      have hlt2 : (many - 2) * h < 256 ^ 12 := by omega
      have h4 := octF_le 4 ((many - 2) * h) (by omega)
      have hP : P (.d (raD ((rdN os q2 (octF ((many - 2) * h)) ((many - 2) * h)).bind _))) rs := hP
      have hlt3 := octF_lt ((many - 2) * h)
      generalize (many - 2) * h = sp at *
      rfl'
      refine ⟨hlt2, ?_⟩
      rfl'
      refine ⟨.inl ⟨by omega, by omega⟩, ?_⟩
      rw [es]
      rfl'
      refine ⟨os, q2, octF sp, sp, rfl, ho, Nat.le_trans h4 (by decide), hlt3, ?_⟩
      cases h3 : rdN os q2 (octF sp) sp with
      | err f =>
        rw [h3] at hP
        unfold reD
        rfl'
        exact hP
      | ok rest q3 =>
        rw [h3] at hP
        unfold reD
        rfl'
        exact hP
theorem cal_law_marks (A : Fs P K mg) : CalX P w K mg base CX0 2 (fF K ("_law_marks", none)) ["_law_setup_here", "_law_octets", "_law_at"] (toSp K (d_law_marks)) := by
  obtain ⟨fd, F⟩ := A.f_law_marks
  obtain ⟨fd_law_number, G_law_number, p_law_number, b_law_number⟩ := cal_law_number (P := P) (w := w) (base := base) A
  have g_law_number := A.g_law_number
  obtain ⟨fd_law_need, G_law_need, p_law_need, b_law_need⟩ := cal_law_need (P := P) (w := w) (base := base) A
  have g_law_need := A.g_law_need
  refine ⟨fd, F.ok sc_law_marks (toSp_len (len_law_marks)) (fun cdv A0 outer s H vs Q E hr h => ⟨_, PSs.nox ((pss_cons (ps_set (i := 3) sc_law_marks.nd rfl (Or.inl rfl) (pe_lst pa_nil)) (pss_cons (ps_for PassesOwn.never rfl (pi_tup (pe_ix ix_tup (pv 0) pe_int (fun _ _ => rfl))) (pg_name (i := 4) sc_law_marks.nd rfl (Or.inl rfl)) (pss_cons (ps_asg (pe_call G_law_number (hr.mono (by decide)) rfl g_law_number p_law_number b_law_number .nil pass0 (pa_cons (pv 1) (pa_cons (pv 2) (pa_cons pe_int (pa_cons (pe_op op_pow pe_int pe_int) pa_nil))))) (pg_tup (n := 3) rfl (pgs_cons (pg_name (i := 5) sc_law_marks.nd rfl (Or.inl rfl)) (pgs_cons (pg_name (i := 2) sc_law_marks.nd rfl (Or.inl rfl)) (pgs_cons (pg_name (i := 6) sc_law_marks.nd rfl (Or.inl rfl)) pgs_nil))))) (pss_cons (ps_if (pt_cmp (pc_notN (pv 6))) (pss_one (ps_ret (pe_tup (pa_cons pe_non (pa_cons pe_non (pa_cons (pv 6) pa_nil)))))) pss_nil) (pss_cons (ps_asg (pe_call G_law_number (hr.mono (by decide)) rfl g_law_number p_law_number b_law_number .nil pass0 (pa_cons (pv 1) (pa_cons (pv 2) (pa_cons (pe_call G_law_need (hr.mono (by decide)) rfl g_law_need p_law_need b_law_need .nil pass0 (pa_cons (pv 5) pa_nil)) (pa_cons (pv 5) pa_nil))))) (pg_tup (n := 3) rfl (pgs_cons (pg_name (i := 7) sc_law_marks.nd rfl (Or.inl rfl)) (pgs_cons (pg_name (i := 2) sc_law_marks.nd rfl (Or.inl rfl)) (pgs_cons (pg_name (i := 6) sc_law_marks.nd rfl (Or.inl rfl)) pgs_nil))))) (pss_cons (ps_if (pt_cmp (pc_notN (pv 6))) (pss_one (ps_ret (pe_tup (pa_cons pe_non (pa_cons pe_non (pa_cons (pv 6) pa_nil)))))) pss_nil) (pss_cons (ps_if (pt_cmpR op_gt (pv 5) pe_int (nomark _)) (pss_cons (ps_asg (pe_call G_law_number (hr.mono (by decide)) rfl g_law_number p_law_number b_law_number .nil pass0 (pa_cons (pv 1) (pa_cons (pv 2) (pa_cons pe_int (pa_cons (pe_op op_sub (pe_op op_pow pe_int pe_int) pe_int) pa_nil))))) (pg_tup (n := 3) rfl (pgs_cons (pg_name (i := 8) sc_law_marks.nd rfl (Or.inl rfl)) (pgs_cons (pg_name (i := 2) sc_law_marks.nd rfl (Or.inl rfl)) (pgs_cons (pg_name (i := 6) sc_law_marks.nd rfl (Or.inl rfl)) pgs_nil))))) (pss_one (ps_if (pt_cmp (pc_notN (pv 6))) (pss_one (ps_ret (pe_tup (pa_cons pe_non (pa_cons pe_non (pa_cons (pv 6) pa_nil)))))) pss_nil))) pss_nil) (pss_one (ps_expr (pe_bm PySem.F.plainAttrs_list PySem.F.slot_list_append PySem.F.type_list_append mt_append (pv 3) (pa_cons (pe_tup (pa_cons (pv 5) (pa_cons (pv 7) pa_nil))) pa_nil)))))))))) (pss_one (ps_ret (pe_tup (pa_cons (pv 3) (pa_cons (pv 2) (pa_cons pe_non pa_nil))))))))), to_body h fun W xs rs P hf => ?_⟩), F.kp, F.bindsN fun _ _ _ _ _ _ us hl => match us, hl with | [_, _, _], _ => rfl⟩
  obtain ⟨su, os, p, rfl, hs, ho, hP⟩ := hf
  change WS W _ [some (.d (suD su)), some (.d (octD os)), some (.d (nD p)), none, none, none, none, none, none] rs _
  have hk6 := hs.2.1
  rfl'
  refine we_lstR (wa_nil ⟨[], rfl, Nat.zero_le _, fun a => ?_⟩)
  rfl'
  refine ws_for (Iv := fun i sl rs1 => ∃ (q : Nat) (ms : List Mark) (q4 q5 q6 q7 q8 : Option DV), sl = [some (.d (suD su)), some (.d (octD os)), some (.d (nD q)), some (.p a), q4, q5, q6, q7, q8] ∧ rs1 = (a, .lst (ms.map lmD)) :: rs ∧ ms.length = i ∧ rdRep (rdMark os) (su.kinds.length - i) ms q = rdRep (rdMark os) su.kinds.length [] p) (xs := su.kinds.map kdD) ?_ ?_ ?_
  · rfl'
    exact ⟨p, [], _, _, _, _, _, rfl, rfl, rfl, rfl⟩
  · rintro i d sl rs1 hd ⟨q, ms, q4, q5, q6, q7, q8, rfl, rfl, hl, hr⟩
    have hi : i < su.kinds.length := by
      have := (List.getElem?_eq_some_iff.mp hd).1
      rwa [List.length_map] at this
    have e1 : su.kinds.length - i = (su.kinds.length - (i + 1)) + 1 := by omega
    rw [← hr, e1] at hP
    have hP : P (.d (reD lmsD ((rdMark os q).bind fun v q2 => rdRep (rdMark os) (su.kinds.length - (i + 1)) (ms ++ [v]) q2))) rs := hP
    have hgo : ∀ (m : Mark) (q2 : Nat), rdMark os q = .ok m q2 → rdRep (rdMark os) (su.kinds.length - (i + 1)) (ms ++ [m]) q2 = rdRep (rdMark os) su.kinds.length [] p := fun m q2 h => by
      rw [← hr, e1]
      show _ = (rdMark os q).bind _
      rw [h]
      rfl
    have herr : ∀ f, rdMark os q = .err f → P (.d (.tuple [.none, .none, nD f])) rs := fun f h => by
      rw [h] at hP
      exact hP
    unfold rdMark at hgo herr
    rfl'
    refine ⟨os, q, 3, 100000, rfl, ho, by decide, by decide, ?_⟩
    cases h1 : rdN os q 3 100000 with
    | err f =>
      unfold reD
      rfl'
      refine ite_T rfl ?_
      refine ws_ret (we_drop (rs2 := rs) ?_)
      rfl'
      exact ⟨List.sublist_cons_self _ _, herr f (by rw [h1]; rfl)⟩
    | ok laid q1 =>
      have hl1 := rdN_le (by decide) h1
      have h3 := octF_le 3 laid (by omega)
      unfold reD
      rfl'
      refine ite_F rfl ?_
      rfl'
      refine ⟨show laid < 256 ^ 12 by omega, ?_⟩
      rfl'
      refine ⟨os, q1, octF laid, laid, rfl, ho, Nat.le_trans h3 (by decide), octF_lt laid, ?_⟩
      cases h2 : rdN os q1 (octF laid) laid with
      | err f =>
        unfold reD
        rfl'
        refine ite_T rfl ?_
        refine ws_ret (we_drop (rs2 := rs) ?_)
        rfl'
        exact ⟨List.sublist_cons_self _ _, herr f (by rw [h1]; show Rd.bind (rdN os q1 (octF laid) laid) _ = _; rw [h2]; rfl)⟩
      | ok first q2 =>
        unfold reD
        rfl'
        refine ite_F rfl ?_
        rfl'
        refine ite_both (fun hc => ?_) (fun hc => ?_)
        · have hc : 0 < laid := by
            have := of_decide_eq_true hc
            omega
          rfl'
          refine ⟨os, q2, 4, M4, rfl, ho, by decide, by decide, ?_⟩
          cases h4 : rdN os q2 4 M4 with
          | err f =>
            unfold reD
            rfl'
            refine ite_T rfl ?_
            refine ws_ret (we_drop (rs2 := rs) ?_)
            rfl'
            exact ⟨List.sublist_cons_self _ _, herr f (by rw [h1]; show Rd.bind (rdN os q1 (octF laid) laid) _ = _; rw [h2]; show (if laid > 0 then _ else _) = _; rw [if_pos hc, h4]; rfl)⟩
          | ok lst q3 =>
            unfold reD
            rfl'
            refine ite_F rfl ?_
            rfl'
            refine ⟨_, _, 0, rfl, rfl, by rw [List.length_map]; omega, ?_⟩
            refine ⟨q3, ms ++ [⟨laid, first, some lst⟩], _, _, _, _, _, rfl, ?_, by rw [List.length_append, hl]; rfl, hgo _ _ (by rw [h1]; show Rd.bind (rdN os q1 (octF laid) laid) _ = _; rw [h2]; show (if laid > 0 then _ else _) = _; rw [if_pos hc, h4]; rfl)⟩
            rw [List.map_append]
            rfl
        · have hc : ¬ 0 < laid := by
            have := of_decide_eq_false hc
            omega
          rfl'
          refine ⟨_, _, 0, rfl, rfl, by rw [List.length_map]; omega, ?_⟩
          refine ⟨q2, ms ++ [⟨laid, first, none⟩], _, _, _, _, _, rfl, ?_, by rw [List.length_append, hl]; rfl, hgo _ _ (by rw [h1]; show Rd.bind (rdN os q1 (octF laid) laid) _ = _; rw [h2]; show (if laid > 0 then _ else _) = _; rw [if_neg hc])⟩
          rw [List.map_append]
          rfl
  · rintro sl rs1 ⟨q, ms, q4, q5, q6, q7, q8, rfl, rfl, hl, hr⟩
    rw [List.length_map, Nat.sub_self] at hr
    have hr : Rd.ok ms q = rdRep (rdMark os) su.kinds.length [] p := hr
    rw [← hr] at hP
    refine ws_ret (we_tup (wa_cons (we_frz (a := a) (ds := ms.map lmD) ?_)))
    rfl'
    refine ⟨rs, rfl, .refl _, ?_⟩
    rfl'
    exact hP
end
end Fw
end
section
set_option Elab.async false
set_option autoImplicit false
set_option linter.all false
set_option maxRecDepth 100000
set_option maxHeartbeats 1000000
/-! P18: the law's own walk. -/
set_option pp.maxSteps 1200
namespace Fw
open PySem PySem.Spec PyProof.Rows L2 Dl Mx
local macro_rules
  | `(tactic| fail) => `(tactic| first
    | with_reducible refine ws_seq ?_
    | with_reducible refine ws_set ?_
    | with_reducible refine ws_ret ?_
    | with_reducible refine ws_if ?_
    | with_reducible refine ws_next ?_
    | with_reducible refine ws_break ?_
    | with_reducible refine ws_cont ?_
    | with_reducible refine ws_drop ?_
    | with_reducible refine ws_retN ?_
    | with_reducible refine ws_par ?_
    | ((with_reducible refine ws_id ?_); (with_reducible apply ws_aug); rfl)
    | ((with_reducible refine ws_id ?_); (with_reducible apply ws_augR); rfl)
    | with_reducible refine ws_asg ?_
    | ((with_reducible refine we_id ?_); (with_reducible apply we_var); rfl)
    | with_reducible refine we_int ?_
    | with_reducible refine we_non ?_
    | with_reducible refine we_bl ?_
    | with_reducible refine we_str ?_
    | with_reducible refine we_ty ?_
    | with_reducible refine we_opI ?_
    | with_reducible refine we_opB ?_
    | with_reducible refine we_opIC ?_
    | with_reducible refine we_eq ?_
    | with_reducible refine we_ne ?_
    | with_reducible refine we_isN ?_
    | with_reducible refine we_notN ?_
    | with_reducible refine we_chainI ?_
    | with_reducible refine we_chainE ?_
    | with_reducible refine we_chain3 ?_
    | with_reducible refine we_neg ?_
    | with_reducible refine we_andV ?_
    | with_reducible refine we_orV ?_
    | with_reducible refine we_notV ?_
    | with_reducible refine we_if ?_
    | with_reducible refine wt_test ?_
    | with_reducible refine wt_B ?_
    | with_reducible refine wt_not ?_
    | with_reducible refine wt_and ?_
    | with_reducible refine wt_or ?_
    | with_reducible refine wt_yes ?_
    | with_reducible refine wa_nil ?_
    | with_reducible refine wa_cons ?_
    | with_reducible refine we_tup ?_
    | with_reducible refine we_ixT ?_
    | with_reducible refine we_ixL ?_
    | with_reducible refine we_len ?_
    | with_reducible refine we_isi ?_
    | with_reducible refine we_isiSq ?_
    | with_reducible refine wg_name ?_
    | with_reducible refine we_slT ?_
    | with_reducible refine we_tuple ?_
    | with_reducible refine we_slL ?_
    | with_reducible refine wo_none ?_
    | with_reducible refine wo_some ?_
    | with_reducible refine we_callP ?_
    | with_reducible refine we_min2 ?_
    | with_reducible refine we_max2 ?_
    | with_reducible refine we_abs ?_
    | with_reducible refine we_all ?_
    | with_reducible refine we_any ?_
    | with_reducible refine we_append ?_
    | with_reducible refine we_extend ?_
    | with_reducible refine we_catL ?_
    | with_reducible refine ws_raise ?_
    | with_reducible refine we_inZ ?_
    | with_reducible refine we_catT ?_
    | with_reducible refine we_in ?_
    | with_reducible refine we_notIn ?_
    | with_reducible refine wg_tup ?_
    | with_reducible refine wgs_cons ?_
    | with_reducible refine wgs_nil ?_
    | with_reducible refine wi_rng1 ?_
    | with_reducible refine wi_rng2 ?_
    | with_reducible refine wi_lst ?_
    | with_reducible refine wi_tup ?_
    | with_reducible refine wi_enT ?_
    | with_reducible refine wi_enL ?_
    | with_reducible refine wi_zpTT ?_
    | with_reducible refine wi_zpTL ?_
    | with_reducible refine we_toInt ?_
    | with_reducible refine we_callPX ?_
    | ((with_reducible refine Rx.ex_id ?_); first
      | with_reducible refine ⟨_, _, rfl, rfl, ?_⟩
      | with_reducible refine ⟨_, _, rfl, .t _, ?_⟩
      | with_reducible refine ⟨_, _, rfl, .l (.d _), ?_⟩
      | with_reducible refine ⟨_, rfl, ?_⟩
      | with_reducible refine ⟨_, _, rfl, ?_⟩
      | refine ⟨_, _, _, rfl, rfl, rfl, ?_⟩
      | refine ⟨[_], rfl, Nat.le_of_ble_eq_true rfl, ?_⟩
      | refine ⟨[_, _], rfl, Nat.le_of_ble_eq_true rfl, ?_⟩
      | refine ⟨[_, _, _], rfl, Nat.le_of_ble_eq_true rfl, ?_⟩
      | refine ⟨[_, _, _, _], rfl, Nat.le_of_ble_eq_true rfl, ?_⟩
      | refine ⟨[_, _, _, _, _], rfl, Nat.le_of_ble_eq_true rfl, ?_⟩
      | refine ⟨[_, _, _, _, _, _], rfl, Nat.le_of_ble_eq_true rfl, ?_⟩
      | refine ⟨[_, _, _, _, _, _, _], rfl, Nat.le_of_ble_eq_true rfl, ?_⟩)
    | ((with_reducible refine Rx.and_id ?_); first
      | refine ⟨⟨_, 0, rfl⟩, ?_⟩
      | refine ⟨rfl, ?_⟩))
  | `(tactic| rfl') => `(tactic| repeat fail)
local macro_rules
  | `(tactic| fail) => `(tactic| first
    | with_reducible refine ws_setL ?_
    | ((with_reducible refine Rx.ex_id ?_); first
      | refine ⟨_, _, _, .p ⟨0, rfl⟩, rfl, rfl, ?_⟩
      | refine ⟨0, 0, _, rfl, rfl, Nat.le_of_ble_eq_true rfl, ?_⟩
      | refine ⟨1, 0, _, rfl, rfl, Nat.le_of_ble_eq_true rfl, ?_⟩)
    | ((with_reducible refine Rx.and_id ?_); first
      | refine ⟨by decide, ?_⟩
      | refine ⟨.inr ⟨by decide, by decide⟩, ?_⟩
      | refine ⟨.inl ⟨by decide, by decide⟩, ?_⟩
      | refine ⟨⟨by decide, by decide⟩, ?_⟩
      | refine ⟨⟨by decide, by decide, by decide⟩, ?_⟩))
local macro_rules
  | `(tactic| fail) => `(tactic| first
    | with_reducible refine we_max ?_
    | with_reducible refine we_neD ?_
    | with_reducible refine we_listRg ?_
    | with_reducible refine we_lst (tr := tCons _ _) ?_)
def walkD (su : Setup) (os : List Nat) : PyData := if os.length < 12 then .tuple [.none, nD os.length] else match rdRep (rdMark os) su.kinds.length [] 12 with
  | .err f => .tuple [.none, nD f]
  | .ok ms q => if fits ms then raD (rdCargo os (shapes su.kinds ms) q) else .tuple [.int 0, .none]
abbrev d_law_walk : Dsp := fun xs rs P X => ∃ (su : Setup) (os : List Nat), xs = [.d (suD su), .d (octD os)] ∧ su.ok ∧ octs os ∧ P (.d (walkD su os)) rs
theorem len_law_walk : Len d_law_walk 2 := fun _ _ _ _ ⟨_, _, e, _⟩ => by rw [e]; rfl
def lrD (rows : Rows) : PyData := .list (rows.map rowD)
theorem lrD_sh (rows : Rows) : Sh 2 (lrD rows) := sh_lst (n := 1) fun x hx => by
  obtain ⟨r, _, rfl⟩ := List.mem_map.mp hx
  exact sh_row _
theorem kndD_sh (ks : List Nat) : Sh 1 (.list (ks.map nD)) := sh_lst (n := 0) fun x hx => by
  obtain ⟨r, _, rfl⟩ := List.mem_map.mp hx
  exact sh_nD _
theorem rgD_nD (n : Nat) : rgD 0 n = (List.range n).map nD := by
  unfold rgD
  congr 1
  funext i
  simp only [nD, Int.zero_add]
theorem rdO_range {os : List Nat} {p h : Nat} : rdO os p (List.range (h + 1)) = rdT os p h := by
  unfold rdO rdT
  cases os[p]? with
  | none => rfl
  | some o =>
    dsimp only
    by_cases hc : o ≤ h
    · rw [if_pos hc, if_pos (List.mem_range.mpr (by omega))]
    · rw [if_neg hc, if_neg (fun z => hc (by have := List.mem_range.mp z; omega))]
theorem rdT_pos {os : List Nat} {p hi n q : Nat} (h : rdT os p hi = .ok n q) : q = p + 1 := by
  unfold rdT at h
  cases ho : os[p]? with
  | none => rw [ho] at h; cases h
  | some o =>
    rw [ho] at h
    dsimp only at h
    by_cases hc : o ≤ hi
    · rw [if_pos hc] at h
      cases h
      rfl
    · rw [if_neg hc] at h
      cases h
theorem rdO_pos {os ks : List Nat} {p n q : Nat} (h : rdO os p ks = .ok n q) : q = p + 1 := by
  unfold rdO at h
  cases ho : os[p]? with
  | none => rw [ho] at h; cases h
  | some o =>
    rw [ho] at h
    dsimp only at h
    by_cases hc : o ∈ ks
    · rw [if_pos hc] at h
      cases h
      rfl
    · rw [if_neg hc] at h
      cases h
section
variable {P : Program} {w : World} {K : PySem.W.Frag} {mg : Str → Option Value} {base : Heap}
theorem cal_law_walk (A : Fs P K mg) : CalX P w K mg base CX0 3 (fF K ("_law_walk", none)) ["_law_setup_here", "_law_octets"] (toSp K (d_law_walk)) := by
  obtain ⟨fd, F⟩ := A.f_law_walk
  obtain ⟨fd_law_values, G_law_values, p_law_values, b_law_values⟩ := cal_law_values (P := P) (w := w) (base := base) A
  have g_law_values := A.g_law_values
  obtain ⟨fd_law_octet, G_law_octet, p_law_octet, b_law_octet⟩ := cal_law_octet (P := P) (w := w) (base := base) A
  have g_law_octet := A.g_law_octet
  obtain ⟨fd_law_shape, G_law_shape, p_law_shape, b_law_shape⟩ := cal_law_shape (P := P) (w := w) (base := base) A
  have g_law_shape := A.g_law_shape
  obtain ⟨fd_law_marks, G_law_marks, p_law_marks, b_law_marks⟩ := cal_law_marks (P := P) (w := w) (base := base) A
  have g_law_marks := A.g_law_marks
  refine ⟨fd, F.ok sc_law_walk (toSp_len (len_law_walk)) (fun cdv A0 outer s H vs Q E hr h => ⟨_, PSs.nox ((pss_cons (ps_if (pt_cmpR op_lt (pe_callB call_len_seq (by rfl) A.b_len (by decide +kernel) (pa_cons (pv 1) pa_nil)) pe_int (nomark _)) (pss_one (ps_ret (pe_tup (pa_cons pe_non (pa_cons (pe_callB call_len_seq (by rfl) A.b_len (by decide +kernel) (pa_cons (pv 1) pa_nil)) pa_nil))))) pss_nil) (pss_cons (ps_asg (pe_call G_law_marks (hr.mono (by decide)) rfl g_law_marks p_law_marks b_law_marks .nil pass0 (pa_cons (pv 0) (pa_cons (pv 1) (pa_cons pe_int pa_nil)))) (pg_tup (n := 3) rfl (pgs_cons (pg_name (i := 2) sc_law_walk.nd rfl (Or.inl rfl)) (pgs_cons (pg_name (i := 3) sc_law_walk.nd rfl (Or.inl rfl)) (pgs_cons (pg_name (i := 4) sc_law_walk.nd rfl (Or.inl rfl)) pgs_nil))))) (pss_cons (ps_if (pt_cmp (pc_notN (pv 4))) (pss_one (ps_ret (pe_tup (pa_cons pe_non (pa_cons (pv 4) pa_nil))))) pss_nil) (pss_cons (ps_if (pt_cmpR op_gt (pe_callB (cr_max rfl) (by rfl) A.b_max (by decide +kernel) (pa_cons (pe_lc (own := [("_law_laid", 11), ("_law_first", 12)]) (g := (gTup K 2 (gCons (gName 11) (gCons (gName 12) gNil)))) (tt := tYes) rfl sc_law_walk.nd (pi_list (pv 2)) (blkOk_by (N := ["_law_setup_here", "_law_octets", "_law_marks_here", "_law_at", "_law_fault", "_law_kind", "_law_aboard", "_law_kinds", "_law_many", "_law_turn", "_law_place", "_law_laid", "_law_first", "_law_some"]) (sc := defScope s_law_walk) (by decide +kernel)) (fun _ _ _ _ _ => (pg_tup (n := 2) rfl (pgs_cons (pg_name (i := 11) sc_law_walk.nd rfl (Or.inl rfl)) (pgs_cons (pg_name (i := 12) sc_law_walk.nd rfl (Or.inl rfl)) pgs_nil)))) (fun _ _ _ _ _ => pts_nil) (fun _ _ _ _ _ => (pe_op op_sub (pv 11) (pv 12)))) pa_nil)) pe_int (nomark _)) (pss_one (ps_ret (pe_tup (pa_cons pe_int (pa_cons pe_non pa_nil))))) pss_nil) (pss_cons (ps_setLc (i := 6) (own := [("_law_kind", 5), ("_law_laid", 11), ("_law_first", 12)]) (g := (gTup K 2 (gCons (gName 5) (gCons (gTup K 2 (gCons (gName 11) (gCons (gName 12) gNil))) gNil)))) (tt := tYes) rfl sc_law_walk.nd rfl rfl (sw_true rfl rfl rfl (by decide +kernel)) (Rx.pi_zipTL (by rfl) A.b_zip (pa_cons (pe_ix ix_tup (pv 0) pe_int (fun _ _ => rfl)) (pa_cons (pv 2) pa_nil))) (blkOk_by (N := ["_law_setup_here", "_law_octets", "_law_marks_here", "_law_at", "_law_fault", "_law_kind", "_law_aboard", "_law_kinds", "_law_many", "_law_turn", "_law_place", "_law_laid", "_law_first", "_law_some"]) (sc := defScope s_law_walk) (by decide +kernel)) (fun _ _ _ _ _ => (pg_tup (n := 2) rfl (pgs_cons (pg_name (i := 5) sc_law_walk.nd rfl (Or.inl rfl)) (pgs_cons (pg_tup (n := 2) rfl (pgs_cons (pg_name (i := 11) sc_law_walk.nd rfl (Or.inl rfl)) (pgs_cons (pg_name (i := 12) sc_law_walk.nd rfl (Or.inl rfl)) pgs_nil))) pgs_nil)))) (fun _ _ _ _ _ => pts_nil) (fun _ _ _ _ _ => (pe_call G_law_shape (hr.mono (by decide)) rfl g_law_shape p_law_shape b_law_shape .nil pass0 (pa_cons (pe_ix (Rx.ix_tupK (K := K) rfl) (pv 5) pe_int (fun _ _ => rfl)) (pa_cons (pv 12) (pa_cons (pv 11) pa_nil)))))) (pss_cons (ps_setLc (i := 7) (own := [("_law_kind", 5), ("_law_some", 13)]) (g := (gTup K 2 (gCons (gName 5) (gCons (gName 13) gNil)))) rfl sc_law_walk.nd rfl rfl (sw_true rfl rfl rfl (by decide +kernel)) (pi_enum (by rfl) A.b_enumerate (pa_cons (pv 6) pa_nil)) (blkOk_by (N := ["_law_setup_here", "_law_octets", "_law_marks_here", "_law_at", "_law_fault", "_law_kind", "_law_aboard", "_law_kinds", "_law_many", "_law_turn", "_law_place", "_law_laid", "_law_first", "_law_some"]) (sc := defScope s_law_walk) (by decide +kernel)) (fun _ _ _ _ _ => (pg_tup (n := 2) rfl (pgs_cons (pg_name (i := 5) sc_law_walk.nd rfl (Or.inl rfl)) (pgs_cons (pg_name (i := 13) sc_law_walk.nd rfl (Or.inl rfl)) pgs_nil)))) (fun _ _ _ _ _ => (pts_one (pt_cmpR (Rx.op_neDK (K := K) rfl (hu64 hr)) (pv 13) (pe_lst pa_nil) (nomark _)))) (fun _ _ _ _ _ => (pv 5))) (pss_cons (ps_asg (pe_call G_law_octet (hr.mono (by decide)) rfl g_law_octet p_law_octet b_law_octet .nil pass0 (pa_cons (pv 1) (pa_cons (pv 3) (pa_cons (pe_ifExp (pt_cmpR (op_neD (hu64 hr)) (pv 7) (pe_lst pa_nil) (nomark _)) (pe_listRg rfl (by rfl) A.b_list (prg_1 (by rfl) A.b_range pe_int)) (pe_lst (pa_cons pe_int pa_nil))) pa_nil)))) (pg_tup (n := 2) rfl (pgs_cons (pg_name (i := 8) sc_law_walk.nd rfl (Or.inl rfl)) (pgs_cons (pg_name (i := 4) sc_law_walk.nd rfl (Or.inl rfl)) pgs_nil)))) (pss_cons (ps_if (pt_cmp (pc_notN (pv 4))) (pss_one (ps_ret (pe_tup (pa_cons pe_non (pa_cons (pv 4) pa_nil))))) pss_nil) (pss_cons (ps_set (i := 3) sc_law_walk.nd rfl (Or.inl rfl) (pe_op op_add (pv 3) pe_int)) (pss_cons (ps_for PassesOwn.never rfl (pi_range1 (by rfl) A.b_range (pa_cons (pv 8) pa_nil)) (pg_name (i := 9) sc_law_walk.nd rfl (Or.inl rfl)) (pss_cons (ps_asg (pe_call G_law_octet (hr.mono (by decide)) rfl g_law_octet p_law_octet b_law_octet .nil pass0 (pa_cons (pv 1) (pa_cons (pv 3) (pa_cons (pv 7) pa_nil)))) (pg_tup (n := 2) rfl (pgs_cons (pg_name (i := 5) sc_law_walk.nd rfl (Or.inl rfl)) (pgs_cons (pg_name (i := 4) sc_law_walk.nd rfl (Or.inl rfl)) pgs_nil)))) (pss_cons (ps_if (pt_cmp (pc_notN (pv 4))) (pss_one (ps_ret (pe_tup (pa_cons pe_non (pa_cons (pv 4) pa_nil))))) pss_nil) (pss_cons (ps_asg (pe_call G_law_octet (hr.mono (by decide)) rfl g_law_octet p_law_octet b_law_octet .nil pass0 (pa_cons (pv 1) (pa_cons (pe_op op_add (pv 3) pe_int) (pa_cons (pe_listRg rfl (by rfl) A.b_list (prg_1 (by rfl) A.b_range (pe_callB call_len_seq (by rfl) A.b_len (by decide +kernel) (pa_cons (pe_ix ix_list (pv 6) (pv 5) (fun _ _ => rfl)) pa_nil)))) pa_nil)))) (pg_tup (n := 2) rfl (pgs_cons (pg_name (i := 10) sc_law_walk.nd rfl (Or.inl rfl)) (pgs_cons (pg_name (i := 4) sc_law_walk.nd rfl (Or.inl rfl)) pgs_nil)))) (pss_cons (ps_if (pt_cmp (pc_notN (pv 4))) (pss_one (ps_ret (pe_tup (pa_cons pe_non (pa_cons (pv 4) pa_nil))))) pss_nil) (pss_cons (ps_asg (pe_call G_law_values (hr.mono (by decide)) rfl g_law_values p_law_values b_law_values .nil pass0 (pa_cons (pv 1) (pa_cons (pe_op op_add (pv 3) pe_int) (pa_cons (pe_ix ix_tup (pe_ix ix_list (pe_ix ix_list (pv 6) (pv 5) (fun _ _ => rfl)) (pv 10) (fun _ _ => rfl)) pe_int (fun _ _ => rfl)) pa_nil)))) (pg_tup (n := 2) rfl (pgs_cons (pg_name (i := 3) sc_law_walk.nd rfl (Or.inl rfl)) (pgs_cons (pg_name (i := 4) sc_law_walk.nd rfl (Or.inl rfl)) pgs_nil)))) (pss_one (ps_if (pt_cmp (pc_notN (pv 4))) (pss_one (ps_ret (pe_tup (pa_cons pe_non (pa_cons (pv 4) pa_nil))))) pss_nil)))))))) (pss_one (ps_ret (pe_tup (pa_cons (pv 3) (pa_cons pe_non pa_nil)))))))))))))))), to_body h fun W xs rs P hf => ?_⟩), F.kp, F.bindsN fun _ _ _ _ _ _ us hl => match us, hl with | [_, _], _ => rfl⟩
  obtain ⟨su, os, rfl, hs, ho, hP⟩ := hf
  change WS W _ [some (.d (suD su)), some (.d (octD os)), none, none, none, none, none, none, none, none, none, none, none, none] rs _
  have hk6 := hs.2.1
  have hk1 := hs.1
  unfold walkD at hP
  rfl'
  refine ite_both (fun hc => ?_) (fun hc => ?_)
  · have hc := of_decide_eq_true hc
    rw [List.length_map] at hc
    rw [if_pos (by omega)] at hP
    rfl'
    rw [List.length_map]
    exact hP
  have hc := of_decide_eq_false hc
  rw [List.length_map] at hc
  rw [if_neg (by omega)] at hP
  rfl'
  refine ⟨su, os, 12, rfl, hs, ho, ?_⟩
  cases hr : rdRep (rdMark os) su.kinds.length [] 12 with
  | err f =>
    rw [hr] at hP
    unfold reD
    rfl'
    refine ite_T rfl ?_
    rfl'
    exact hP
  | ok ms q =>
    rw [hr] at hP
    have hP : P (.d (if fits ms then raD (rdCargo os (shapes su.kinds ms) q) else .tuple [.int 0, .none])) rs := hP
    obtain ⟨hpre, hml⟩ := rdRep_all (S := Mark.pre) (fun p v q h => rdMark_pre h) _ _ _ _ _ hr (fun _ h => by cases h)
    have hml : ms.length = su.kinds.length := by simpa using hml
    unfold reD
    rfl'
    refine ite_F rfl ?_
    rfl'
    refine we_map (ds := ms.map lmD) (es := (ms.map fun m => (m.laid : Int) - (m.first : Int)).map PyData.int) (own2 (by decide) (by decide)) (by simp) (by simp; omega) ?_ ?_ ?_
    · rfl'
      rfl
    · intro i d e hd he
      obtain ⟨m, hm, rfl⟩ := mapAt hd
      rw [List.map_map, List.getElem?_map, hm] at he
      have he := Option.some.inj he
      subst he
      rfl'
      rfl
    rfl'
    refine ⟨by rw [List.length_map]; omega, fun mx h1 h2 => ?_⟩
    rfl'
    refine ite_both (fun hc => ?_) (fun hc => ?_)
    · have hc := of_decide_eq_true hc
      obtain ⟨m, hm, e⟩ := List.mem_map.mp h1
      have hnf : ¬ fits ms := fun hf => by
        have := hf m hm
        have := (hpre m hm).2.1
        omega
      rw [if_neg hnf] at hP
      rfl'
      exact hP
    have hc := of_decide_eq_false hc
    have hf : fits ms := fun m hm => by
      have := h2 _ (List.mem_map.mpr ⟨m, hm, rfl⟩)
      omega
    have hok : ∀ m ∈ ms, m.ok := fun m hm => by
      obtain ⟨a1, a2, a3, a4⟩ := hpre m hm
      exact ⟨a1, a2, hf m hm, a3, a4⟩
    rw [if_pos hf] at hP
    have hsl := shapes_len hml
    have hpw := shapes_pws hs hok
    rfl'
    refine we_map (ds := zpD (su.kinds.map kdD) (ms.map lmD)) (es := (shapes su.kinds ms).map lrD) (own12 (by decide) (by decide) (by decide)) ?_ ?_ ?_ ?_ ?_
    · simp [zpD, shapes]
    · simp [zpD, hml]; omega
    · rfl'
      exact ⟨by simp [hml], rfl, rfl⟩
    · intro i d e hd he
      obtain ⟨x, y, hx, hy, rfl⟩ := zpD_at hd
      obtain ⟨k, hk, rfl⟩ := mapAt hx
      obtain ⟨m, hm1, rfl⟩ := mapAt hy
      obtain ⟨r, hr1, rfl⟩ := mapAt he
      have ko := hs.2.2.1 k (List.mem_of_getElem? hk)
      have mo := hok m (List.mem_of_getElem? hm1)
      have er : r = shp k.keep m.first m.laid := by
        unfold shapes at hr1
        rw [List.getElem?_zipWith, hk, hm1] at hr1
        exact (Option.some.inj hr1).symm
      subst er
      rfl'
      refine ⟨k.keep, m.first, m.laid, rfl, ko.2.2.2, mo.2.1, mo.2.2.1, by have := mo.1; omega, ?_⟩
      rfl'
      rfl
    have hpw2 : ∀ (k j : Nat) (r : Nat × Nat), (((shapes su.kinds ms).getD k [])[j]? = some r) → r.2 ∈ pws := fun k j r h => by
      rw [List.getD_eq_getElem?_getD] at h
      cases hk : (shapes su.kinds ms)[k]? with
      | none => rw [hk] at h; cases h
      | some rows =>
        rw [hk] at h
        exact hpw rows (List.mem_of_getElem? hk) r (List.mem_of_getElem? h)
    have hlen : ∀ k, ((shapes su.kinds ms).getD k []).length ≤ 100000 := fun k => by
      rw [List.getD_eq_getElem?_getD]
      cases hk : (shapes su.kinds ms)[k]? with
      | none => exact Nat.zero_le _
      | some rows =>
        unfold shapes at hk
        rw [List.getElem?_zipWith] at hk
        cases h1 : su.kinds[k]? with
        | none => rw [h1] at hk; cases hk
        | some kd =>
          cases h2 : ms[k]? with
          | none => rw [h1, h2] at hk; cases hk
          | some m =>
            rw [h1, h2] at hk
            have e := Option.some.inj hk
            have := shp_len (hs.2.2.1 kd (List.mem_of_getElem? h1)).2.2.2 (hok m (List.mem_of_getElem? h2)).2.2.1
            show rows.length ≤ _
            rw [← e]
            exact Nat.le_trans this (by decide)
    rw [rdCargo_eq] at hP
    generalize hab : shapes su.kinds ms = ab at hP hsl hpw hpw2 hlen ⊢
    rfl'
    refine we_fm (ds := enD (ab.map lrD)) (es := (List.range ab.length).map fun k => if decide (0 < (ab.getD k []).length) = true then some (nD k) else none) (own2 (by decide) (by decide)) (by simp [enD_len]) (by rw [enD_len, List.length_map]; omega) ?_ ?_ ?_
    · rfl'
      rfl
    · rintro i d o hd ho1
      obtain ⟨x, hx, rfl⟩ := enD_at hd
      obtain ⟨rows, hr1, rfl⟩ := mapAt hx
      have hi : i < ab.length := (List.getElem?_eq_some_iff.mp hr1).1
      have ho1 : o = if decide (0 < rows.length) = true then some (nD i) else none := by
        rw [List.getElem?_map, List.getElem?_range hi] at ho1
        rw [← Option.some.inj ho1]
        show (if decide (0 < (ab.getD i []).length) = true then some (nD i) else none) = _
        rw [List.getD_eq_getElem?_getD, hr1]
        rfl
      rfl'
      refine we_lst (wa_nil ⟨[], rfl, Nat.zero_le _, ?_⟩)
      rfl'
      refine ⟨(lrD_sh _).s, (lrD_sh []).s, ?_⟩
      cases rows with
      | nil =>
        rw [if_neg (by decide)] at ho1
        subst ho1
        exact ⟨_, rfl, rfl, rfl⟩
      | cons r rows =>
        rw [if_pos (decide_eq_true (show 0 < (r :: rows).length from Nat.succ_pos _))] at ho1
        subst ho1
        refine ⟨_, rfl, rfl, ?_⟩
        rfl'
        rfl
    have hkk : keepO ((List.range ab.length).map fun k => if decide (0 < (ab.getD k []).length) = true then some (nD k) else none) = (kindsOf ab).map nD := by
      rw [kindsOf, ← keepO_if]
    rw [hkk]
    rfl'
    refine we_lst (wa_nil ⟨[], rfl, Nat.zero_le _, ?_⟩)
    rfl'
    refine ⟨(kndD_sh _).s, (izD_sh []).s, ?_⟩
    have hkn2 := hkk
    cases hkn : kindsOf ab with
    | nil =>
      rw [hkn] at hP
      rfl'
      refine ite_F rfl ?_
      have hP : P (.d (raD ((rdT os q 0).bind fun n q => rdRep (rdItem os ab (kindsOf ab)) n [] q))) rs := by
        rw [hkn]
        exact hP
      rw [← rdO_range] at hP
      rfl'
      rw [hkn] at hkn2
      rfl'
      refine ⟨os, q, List.range (0 + 1), rfl, ?_⟩
      cases hr2 : rdO os q (List.range (0 + 1)) with
      | err f =>
        rw [hr2] at hP
        unfold rvD
        rfl'
        refine ite_T rfl ?_
        rfl'
        exact hP
      | ok n q1 =>
        rw [hr2] at hP
        have hn : n ≤ 0 := by
          have := List.mem_range.mp (rdO_mem hr2)
          omega
        have hq1 := rdO_pos hr2
        subst hq1
        have hP : P (.d (raD (rdRep (rdItem os ab (kindsOf ab)) n [] (q + 1)))) rs := hP
        unfold rvD
        rfl'
        refine ite_F rfl ?_
        rfl'
        refine ws_for (Iv := fun i sl rs1 => ∃ (p : Nat) (acc : List (Nat × Span)) (q5 q9 q10 : Option DV), sl = [some (.d (suD su)), some (.d (octD os)), some (.d (lmsD ms)), some (.d (nD p)), some (.d .none), q5, some (.d (.list (ab.map lrD))), some (.d (.list ((kindsOf ab).map nD))), some (.d (nD n)), q9, q10, none, none, none] ∧ rs1 = rs ∧ rdRep (rdItem os ab (kindsOf ab)) (n - i) acc p = rdRep (rdItem os ab (kindsOf ab)) n [] (q + 1)) (xs := rgD 0 n) ?_ ?_ ?_
        · rfl'
          exact ⟨by omega, by omega, rfl, q + 1, [], none, none, none, by rw [hkn]; rfl, rfl, rfl⟩
        · rintro i d sl rs1 hd ⟨p, acc, q5, q9, q10, rfl, rfl, hr3⟩
          obtain ⟨hi, rfl⟩ := rgD_at hd
          have e1 : n - i = (n - (i + 1)) + 1 := by omega
          rw [← hr3, e1] at hP
          have hP : P (.d (raD ((rdItem os ab (kindsOf ab) p).bind fun v q2 => rdRep (rdItem os ab (kindsOf ab)) (n - (i + 1)) (acc ++ [v]) q2))) rs1 := hP
          have hgo : ∀ v q2, rdItem os ab (kindsOf ab) p = .ok v q2 → rdRep (rdItem os ab (kindsOf ab)) (n - (i + 1)) (acc ++ [v]) q2 = rdRep (rdItem os ab (kindsOf ab)) n [] (q + 1) := fun v q2 h => by
            rw [← hr3, e1]
            show _ = (rdItem os ab (kindsOf ab) p).bind _
            rw [h]
            rfl
          have herr : ∀ f, rdItem os ab (kindsOf ab) p = .err f → P (.d (.tuple [.none, nD f])) rs1 := fun f h => by
            rw [h] at hP
            exact hP
          rw [rdItem_eq] at hgo herr
          rfl'
          refine ⟨os, p, kindsOf ab, rfl, ?_⟩
          cases h1 : rdO os p (kindsOf ab) with
          | err f =>
            unfold rvD
            rfl'
            refine ite_T rfl ?_
            rfl'
            exact herr f (by rw [h1]; rfl)
          | ok k p1 =>
            have hk := rdO_mem h1
            have hp1 := rdO_pos h1
            subst hp1
            obtain ⟨hk1, hk2⟩ := List.mem_filter.mp hk
            have hk1 : k < ab.length := List.mem_range.mp hk1
            have hk2 : 0 < (ab.getD k []).length := of_decide_eq_true hk2
            have hat : atI (ab.map lrD) (k : Int) = some (lrD (ab.getD k [])) := atI_nat (by
              rw [List.getElem?_map, List.getD_eq_getElem?_getD, List.getElem?_eq_getElem hk1]
              rfl)
            have hll := hlen k
            unfold rvD
            rfl'
            refine ite_F rfl ?_
            rfl'
            refine ⟨_, _, lrD (ab.getD k []), .d _, rfl, hat, ?_⟩
            rfl'
            refine ⟨by omega, by rw [List.length_map]; omega, ?_⟩
            rfl'
            have hge : (ab.getD k []).length = ((ab.getD k []).length - 1) + 1 := by omega
            refine ⟨os, p + 1, List.range (((ab.getD k []).length - 1) + 1), by rw [← hge, List.length_map, Int.toNat_natCast, rgD_nD]; rfl, ?_⟩
            rw [rdO_range]
            cases h2 : rdT os (p + 1) ((ab.getD k []).length - 1) with
            | err f =>
              unfold rvD
              rfl'
              refine ite_T rfl ?_
              rfl'
              exact herr f (by rw [h1]; show Rd.bind (rdT os (p + 1) ((ab.getD k []).length - 1)) _ = _; rw [h2]; rfl)
            | ok j p2 =>
              have hj := rdT_le h2
              have hp2 := rdT_pos h2
              subst hp2
              have hg : (ab.getD k [])[j]? = some ((ab.getD k []).getD j (0, 0)) := by
                rw [List.getD_eq_getElem?_getD (l := ab.getD k []), List.getElem?_eq_getElem (show j < (ab.getD k []).length by omega)]
                rfl
              have hpw3 := hpw2 k j _ hg
              unfold rvD
              rfl'
              refine ite_F rfl ?_
              rfl'
              refine ⟨_, _, lrD (ab.getD k []), .d _, rfl, hat, ?_⟩
              rfl'
              refine ⟨_, _, rowD ((ab.getD k []).getD j (0, 0)), .d _, rfl, atI_nat (by rw [List.getElem?_map, hg]; rfl), ?_⟩
              rfl'
              refine ⟨os, p + 1 + 1, ((ab.getD k []).getD j (0, 0)).1, ((ab.getD k []).getD j (0, 0)).2, rfl, ho, hpw3, ?_⟩
              cases h3 : rdSpan os ((ab.getD k []).getD j (0, 0)).1 ((ab.getD k []).getD j (0, 0)).2 (p + 1 + 1) with
              | err f =>
                unfold raD
                rfl'
                refine ite_T rfl ?_
                rfl'
                exact herr f (by rw [h1]; show Rd.bind (rdT os (p + 1) ((ab.getD k []).length - 1)) _ = _; rw [h2]; show Rd.bind (rdSpan os ((ab.getD k []).getD j (0, 0)).1 ((ab.getD k []).getD j (0, 0)).2 (p + 1 + 1)) _ = _; rw [h3]; rfl)
              | ok s p3 =>
                unfold raD
                rfl'
                refine ite_F rfl ?_
                rfl'
                exact ⟨p3, acc ++ [(k, s)], _, _, _, rfl, rfl, hgo _ _ (by rw [h1]; show Rd.bind (rdT os (p + 1) ((ab.getD k []).length - 1)) _ = _; rw [h2]; show Rd.bind (rdSpan os ((ab.getD k []).getD j (0, 0)).1 ((ab.getD k []).getD j (0, 0)).2 (p + 1 + 1)) _ = _; rw [h3]; rfl)⟩
        · rintro sl rs1 ⟨p, acc, q5, q9, q10, rfl, rfl, hr3⟩
          rw [rgD_len, Nat.sub_self] at hr3
          have hr3 : Rd.ok acc p = rdRep (rdItem os ab (kindsOf ab)) n [] (q + 1) := hr3
          rw [← hr3] at hP
          rfl'
          exact hP
    | cons k0 kr =>
      rw [hkn, if_pos (show 0 < (k0 :: kr).length from Nat.succ_pos _)] at hP
      rfl'
      refine ite_T rfl ?_
      have hP : P (.d (raD ((rdT os q 100).bind fun n q => rdRep (rdItem os ab (kindsOf ab)) n [] q))) rs := by
        rw [hkn]
        exact hP
      rw [← rdO_range] at hP
      rfl'
      rw [hkn] at hkn2
      rfl'
      refine ⟨os, q, List.range (100 + 1), by rw [show (101 : Int).toNat = 101 by decide, rgD_nD], ?_⟩
      cases hr2 : rdO os q (List.range (100 + 1)) with
      | err f =>
        rw [hr2] at hP
        unfold rvD
        rfl'
        refine ite_T rfl ?_
        rfl'
        exact hP
      | ok n q1 =>
        rw [hr2] at hP
        have hn : n ≤ 100 := by
          have := List.mem_range.mp (rdO_mem hr2)
          omega
        have hq1 := rdO_pos hr2
        subst hq1
        have hP : P (.d (raD (rdRep (rdItem os ab (kindsOf ab)) n [] (q + 1)))) rs := hP
        unfold rvD
        rfl'
        refine ite_F rfl ?_
        rfl'
        refine ws_for (Iv := fun i sl rs1 => ∃ (p : Nat) (acc : List (Nat × Span)) (q5 q9 q10 : Option DV), sl = [some (.d (suD su)), some (.d (octD os)), some (.d (lmsD ms)), some (.d (nD p)), some (.d .none), q5, some (.d (.list (ab.map lrD))), some (.d (.list ((kindsOf ab).map nD))), some (.d (nD n)), q9, q10, none, none, none] ∧ rs1 = rs ∧ rdRep (rdItem os ab (kindsOf ab)) (n - i) acc p = rdRep (rdItem os ab (kindsOf ab)) n [] (q + 1)) (xs := rgD 0 n) ?_ ?_ ?_
        · rfl'
          exact ⟨by omega, by omega, rfl, q + 1, [], none, none, none, by rw [hkn]; rfl, rfl, rfl⟩
        · rintro i d sl rs1 hd ⟨p, acc, q5, q9, q10, rfl, rfl, hr3⟩
          obtain ⟨hi, rfl⟩ := rgD_at hd
          have e1 : n - i = (n - (i + 1)) + 1 := by omega
          rw [← hr3, e1] at hP
          have hP : P (.d (raD ((rdItem os ab (kindsOf ab) p).bind fun v q2 => rdRep (rdItem os ab (kindsOf ab)) (n - (i + 1)) (acc ++ [v]) q2))) rs1 := hP
          have hgo : ∀ v q2, rdItem os ab (kindsOf ab) p = .ok v q2 → rdRep (rdItem os ab (kindsOf ab)) (n - (i + 1)) (acc ++ [v]) q2 = rdRep (rdItem os ab (kindsOf ab)) n [] (q + 1) := fun v q2 h => by
            rw [← hr3, e1]
            show _ = (rdItem os ab (kindsOf ab) p).bind _
            rw [h]
            rfl
          have herr : ∀ f, rdItem os ab (kindsOf ab) p = .err f → P (.d (.tuple [.none, nD f])) rs1 := fun f h => by
            rw [h] at hP
            exact hP
          rw [rdItem_eq] at hgo herr
          rfl'
          refine ⟨os, p, kindsOf ab, rfl, ?_⟩
          cases h1 : rdO os p (kindsOf ab) with
          | err f =>
            unfold rvD
            rfl'
            refine ite_T rfl ?_
            rfl'
            exact herr f (by rw [h1]; rfl)
          | ok k p1 =>
            have hk := rdO_mem h1
            have hp1 := rdO_pos h1
            subst hp1
            obtain ⟨hk1, hk2⟩ := List.mem_filter.mp hk
            have hk1 : k < ab.length := List.mem_range.mp hk1
            have hk2 : 0 < (ab.getD k []).length := of_decide_eq_true hk2
            have hat : atI (ab.map lrD) (k : Int) = some (lrD (ab.getD k [])) := atI_nat (by
              rw [List.getElem?_map, List.getD_eq_getElem?_getD, List.getElem?_eq_getElem hk1]
              rfl)
            have hll := hlen k
            unfold rvD
            rfl'
            refine ite_F rfl ?_
            rfl'
            refine ⟨_, _, lrD (ab.getD k []), .d _, rfl, hat, ?_⟩
            rfl'
            refine ⟨by omega, by rw [List.length_map]; omega, ?_⟩
            rfl'
            have hge : (ab.getD k []).length = ((ab.getD k []).length - 1) + 1 := by omega
            refine ⟨os, p + 1, List.range (((ab.getD k []).length - 1) + 1), by rw [← hge, List.length_map, Int.toNat_natCast, rgD_nD]; rfl, ?_⟩
            rw [rdO_range]
            cases h2 : rdT os (p + 1) ((ab.getD k []).length - 1) with
            | err f =>
              unfold rvD
              rfl'
              refine ite_T rfl ?_
              rfl'
              exact herr f (by rw [h1]; show Rd.bind (rdT os (p + 1) ((ab.getD k []).length - 1)) _ = _; rw [h2]; rfl)
            | ok j p2 =>
              have hj := rdT_le h2
              have hp2 := rdT_pos h2
              subst hp2
              have hg : (ab.getD k [])[j]? = some ((ab.getD k []).getD j (0, 0)) := by
                rw [List.getD_eq_getElem?_getD (l := ab.getD k []), List.getElem?_eq_getElem (show j < (ab.getD k []).length by omega)]
                rfl
              have hpw3 := hpw2 k j _ hg
              unfold rvD
              rfl'
              refine ite_F rfl ?_
              rfl'
              refine ⟨_, _, lrD (ab.getD k []), .d _, rfl, hat, ?_⟩
              rfl'
              refine ⟨_, _, rowD ((ab.getD k []).getD j (0, 0)), .d _, rfl, atI_nat (by rw [List.getElem?_map, hg]; rfl), ?_⟩
              rfl'
              refine ⟨os, p + 1 + 1, ((ab.getD k []).getD j (0, 0)).1, ((ab.getD k []).getD j (0, 0)).2, rfl, ho, hpw3, ?_⟩
              cases h3 : rdSpan os ((ab.getD k []).getD j (0, 0)).1 ((ab.getD k []).getD j (0, 0)).2 (p + 1 + 1) with
              | err f =>
                unfold raD
                rfl'
                refine ite_T rfl ?_
                rfl'
                exact herr f (by rw [h1]; show Rd.bind (rdT os (p + 1) ((ab.getD k []).length - 1)) _ = _; rw [h2]; show Rd.bind (rdSpan os ((ab.getD k []).getD j (0, 0)).1 ((ab.getD k []).getD j (0, 0)).2 (p + 1 + 1)) _ = _; rw [h3]; rfl)
              | ok s p3 =>
                unfold raD
                rfl'
                refine ite_F rfl ?_
                rfl'
                exact ⟨p3, acc ++ [(k, s)], _, _, _, rfl, rfl, hgo _ _ (by rw [h1]; show Rd.bind (rdT os (p + 1) ((ab.getD k []).length - 1)) _ = _; rw [h2]; show Rd.bind (rdSpan os ((ab.getD k []).getD j (0, 0)).1 ((ab.getD k []).getD j (0, 0)).2 (p + 1 + 1)) _ = _; rw [h3]; rfl)⟩
        · rintro sl rs1 ⟨p, acc, q5, q9, q10, rfl, rfl, hr3⟩
          rw [rgD_len, Nat.sub_self] at hr3
          have hr3 : Rd.ok acc p = rdRep (rdItem os ab (kindsOf ab)) n [] (q + 1) := hr3
          rw [← hr3] at hP
          rfl'
          exact hP
end
end Fw
end
section
set_option Elab.async false
set_option autoImplicit false
set_option linter.all false
set_option maxRecDepth 100000
set_option maxHeartbeats 1000000
set_option pp.maxSteps 1500
/-! P19: what is heard of a frame asked for. -/
namespace Fw
open PySem PySem.Spec PyProof.Rows L2 Dl Mx
/-- what the clauses stand on -/
structure Fe (K : PySem.W.Frag) (mg : Str → Option Value) : Prop where
  gF : mg "FarError" = some (.ref (He.ga K "FarError"))
  exm : ∀ x ∈ (["Broken", "BadOctets", "Refused", "BadSetup"] : List Str), ∀ y ∈ (["Broken", "BadOctets", "Refused", "BadSetup"] : List Str), PySem.W.exmOne K (.ref (He.ga K x)) (.ref (He.ga K y)) = some (decide (x = y))
  exc : ∀ x ∈ (["Broken", "BadOctets", "Refused", "BadSetup"] : List Str), L2.ExcC K (He.ga K x)
  kit : ∀ x ∈ (["Broken", "BadOctets", "Refused", "BadSetup"] : List Str), PySem.W.kitOne K (.ref (He.ga K x)) (.ref (He.ga K "FarError")) = some true
abbrev NH : List Str := ["_law_ask", "_law_fault"]
/-- one clause's suite: (label, fault.at, isinstance(fault, FarError)) -/
def tsA (K : PySem.W.Frag) (C : Addr) (lbl : Str) (a : Addr) (cls : Value) (d : Option Addr) : TS := fun D σ H => cls = .ref C ∧ (2 = σ.length → (tRet (tTup (tCons (tC (.str lbl)) (tCons (tXf a cls d C "at" (tVar 1)) (tCons (tCB (Rx.rIsED K C a d) (tCons (tVar 1) (tCons (tC (.ref (He.ga K "FarError"))) tNil))) tNil))))) D σ H)
/-- the same with repr -/
def tsR (K : PySem.W.Frag) (C : Addr) (lbl : Str) (a : Addr) (cls : Value) (d : Option Addr) : TS := fun D σ H => cls = .ref C ∧ (2 = σ.length → (tRet (tTup (tCons (tC (.str lbl)) (tCons (tCB (fun xs H Q => ∃ x t, xs = [x] ∧ Rx.repV x = some t ∧ Q (.str t) H) (tCons (tXf a cls d C "at" (tVar 1)) tNil)) (tCons (tCB (Rx.rIsED K C a d) (tCons (tVar 1) (tCons (tC (.ref (He.ga K "FarError"))) tNil))) tNil))))) D σ H)
section
variable {X : Cx}
theorem suite_len {ss : List Stmt} {t : TS} {cls : Value} {C : Addr} (hN : X.N.length = 2) (h : cls = .ref C → PSs X ss t) : PSs X ss (fun D σ H => cls = .ref C ∧ (2 = σ.length → t D σ H)) := by
  refine ⟨fun pins s σ H D I ⟨e, q⟩ => ?_⟩
  exact (h e).run pins s σ H D I (q (by rw [I.len, hN]))
def lH (K : PySem.W.Frag) : List (Value × (Addr → Value → Option Addr → TS)) := [(.ref (He.ga K "Broken"), tsA K (He.ga K "Broken") "broken"), (.ref (He.ga K "BadOctets"), tsA K (He.ga K "BadOctets") "octets"), (.ref (He.ga K "Refused"), tsR K (He.ga K "Refused") "refused"), (.ref (He.ga K "BadSetup"), tsA K (He.ga K "BadSetup") "setup")]
def HearE (K : PySem.W.Frag) (Q : VK) (cls : Value) (d : Option Addr) (H : Hp) : Prop := ∀ (D : Ends) (σ : L2.St), D.rt = Q → Rx.wManyA K 1 (fun _ _ _ _ => False) D (lH K) cls d σ H
def TTheard (K : PySem.W.Frag) : (XK → Hp → VK → Prop) → Hp → VK → Prop := fun tl H Q => ∃ Ech : XK, (∀ cls d H', Ech cls d H' → HearE K Q cls d H') ∧ tl Ech H (fun v H1 => [V.str "told", v].length ≤ sizeLine ∧ ∀ l, H1 l = none → Q (.ref l) (upd H1 l (.tup [.str "told", v])))
theorem heard_gives (A : Fs X.prog X.K X.mg) (B : Fe X.K X.mg) {cdg : Value} {q : Str} : LamX.GivesTo X NH "_law_heard" (defScope s_law_heard) (fF X.K ("_law_heard", none)) cdg (defBody s_law_heard) "_law_ask" q (TTheard X.K) := by
  intro f c' s H Q tl act hc h
  obtain ⟨Ech, hE, h⟩ := h
  refine ⟨_, pss_one (Rx.ps_try_manyA (i := 1) (n := "_law_fault") (l := lH X.K) (X := (cxOf C8.CX0 X.prog X.w X.K X.mg X.base NH "_law_heard" (defScope s_law_heard) (fF X.K ("_law_heard", none)) cdg X.A X.stack s H C8.E0).nox)
      (tb := fun W D σ H => ∃ Ech : XK, (∀ cls d σ' H', Ech cls d H' → W cls d σ' H') ∧ σ[0]? = some (some (.ref f)) ∧ H c' = some (LamX.CodeO c' q) ∧ tl Ech H (fun v H1 => [V.str "told", v].length ≤ sizeLine ∧ ∀ l, H1 l = none → D.rt (.ref l) (upd H1 l (.tup [.str "told", v]))))
      rfl rfl sc_law_heard.nd rfl rfl LamX.takes0 (fun W pn xe tk _ => ?_) ?_), ?_⟩
  · refine ⟨fun pins s' σ H' D I h' => ?_⟩
    obtain ⟨Ech, hW, h1, h2, h3⟩ := h'
    refine PSs.run (pss_one (ps_ret (pe_tup (pa_cons pe_str (pa_cons (act W pn xe Ech _ _ tk hW) pa_nil))))) pins s' σ H' D I ?_
    exact ⟨h1, h2, h3⟩
  · refine .cons ⟨rfl, rfl, .inl A.x_Broken.gC⟩ (fun a oe cls d pn hz hf => suite_len rfl fun e => pss_one (ps_ret (pe_tup (pa_cons pe_str (pa_cons (pe_xf A.x_Broken.xf A.x_Broken.no hz hf (pv 1)) (pa_cons (pe_callB (Rx.call_isED (B.exc "Broken" (by decide)) e hz hf) (by rfl) A.b_isinstance (by decide +kernel) (pa_cons (pv 1) (pa_cons (pe_glob rfl B.gF rfl) pa_nil))) pa_nil)))))) ?_
    refine .cons ⟨rfl, rfl, .inl A.x_BadOctets.gC⟩ (fun a oe cls d pn hz hf => suite_len rfl fun e => pss_one (ps_ret (pe_tup (pa_cons pe_str (pa_cons (pe_xf A.x_BadOctets.xf A.x_BadOctets.no hz hf (pv 1)) (pa_cons (pe_callB (Rx.call_isED (B.exc "BadOctets" (by decide)) e hz hf) (by rfl) A.b_isinstance (by decide +kernel) (pa_cons (pv 1) (pa_cons (pe_glob rfl B.gF rfl) pa_nil))) pa_nil)))))) ?_
    refine .cons ⟨rfl, rfl, .inl A.x_Refused.gC⟩ (fun a oe cls d pn hz hf => suite_len rfl fun e => pss_one (ps_ret (pe_tup (pa_cons pe_str (pa_cons (pe_callB Rx.call_reprD (by rfl) A.b_repr (by decide +kernel) (pa_cons (pe_xf A.x_Refused.xf A.x_Refused.no hz hf (pv 1)) pa_nil)) (pa_cons (pe_callB (Rx.call_isED (B.exc "Refused" (by decide)) e hz hf) (by rfl) A.b_isinstance (by decide +kernel) (pa_cons (pv 1) (pa_cons (pe_glob rfl B.gF rfl) pa_nil))) pa_nil)))))) ?_
    refine .cons ⟨rfl, rfl, .inl A.x_BadSetup.gC⟩ (fun a oe cls d pn hz hf => suite_len rfl fun e => pss_one (ps_ret (pe_tup (pa_cons pe_str (pa_cons (pe_xf A.x_BadSetup.xf A.x_BadSetup.no hz hf (pv 1)) (pa_cons (pe_callB (Rx.call_isED (B.exc "BadSetup" (by decide)) e hz hf) (by rfl) A.b_isinstance (by decide +kernel) (pa_cons (pv 1) (pa_cons (pe_glob rfl B.gF rfl) pa_nil))) pa_nil)))))) ?_
    exact .nil
  · exact ⟨Ech, fun cls d σ' H' e => hE cls d H' e _ σ' rfl, rfl, hc, h⟩
theorem ts_ok {K : PySem.W.Frag} {mg : Str → Option Value} (B : Fe K mg) {x : Str} (hx : x ∈ (["Broken", "BadOctets", "Refused", "BadSetup"] : List Str)) {lbl : Str} {a dd : Addr} {D : Ends} {σ : L2.St} {H : Hp} {v : V} {Q : VK} (hD : D.rt = Q) (hd : H dd = some (.xd [("at", v)])) (hQ : ∀ l, H l = none → Q (.ref l) (upd H l (.tup [.str lbl, v, .bl true]))) :
    tsA K (He.ga K x) lbl a (.ref (He.ga K x)) (some dd) (Rx.dGone 1 D) (σ.set 1 (some (.ref a))) H := by
  refine ⟨rfl, fun hl => ?_⟩
  have h1 : (σ.set 1 (some (V.ref a)))[1]? = some (some (.ref a)) := by
    rw [List.getElem?_set_self]
    rw [List.length_set] at hl
    omega
  refine ⟨_, h1, rfl, rfl, dd, _, v, rfl, hd, rfl, _, h1, .ref (He.ga K "FarError"), .ref (He.ga K "FarError"), true, dd, _, rfl, ?_, B.kit x hx, rfl, hd, ?_, ?_⟩
  · intro u hu
    exact hu
  · exact Nat.le_of_ble_eq_true rfl
  · intro l hn
    show D.rt _ _
    rw [hD]
    exact hQ l hn
theorem tsR_ok {K : PySem.W.Frag} {mg : Str → Option Value} (B : Fe K mg) {x : Str} (hx : x ∈ (["Broken", "BadOctets", "Refused", "BadSetup"] : List Str)) {lbl r : Str} {a dd : Addr} {D : Ends} {σ : L2.St} {H : Hp} {v : V} {Q : VK} (hD : D.rt = Q) (hd : H dd = some (.xd [("at", v)])) (hr : Rx.repV v = some r) (hQ : ∀ l, H l = none → Q (.ref l) (upd H l (.tup [.str lbl, .str r, .bl true]))) :
    tsR K (He.ga K x) lbl a (.ref (He.ga K x)) (some dd) (Rx.dGone 1 D) (σ.set 1 (some (.ref a))) H := by
  refine ⟨rfl, fun hl => ?_⟩
  have h1 : (σ.set 1 (some (V.ref a)))[1]? = some (some (.ref a)) := by
    rw [List.getElem?_set_self]
    rw [List.length_set] at hl
    omega
  refine ⟨_, h1, rfl, rfl, dd, _, v, rfl, hd, rfl, v, r, rfl, hr, _, h1, .ref (He.ga K "FarError"), .ref (He.ga K "FarError"), true, dd, _, rfl, ?_, B.kit x hx, rfl, hd, ?_, ?_⟩
  · intro u hu
    exact hu
  · exact Nat.le_of_ble_eq_true rfl
  · intro l hn
    show D.rt _ _
    rw [hD]
    exact hQ l hn
/-- what an exception of the asking ends in -/
theorem hear {K : PySem.W.Frag} {mg : Str → Option Value} (B : Fe K mg) {x lbl : Str} (hx : (x, lbl) ∈ ([("Broken", "broken"), ("BadOctets", "octets"), ("BadSetup", "setup")] : List (Str × Str))) {dd : Addr} {H : Hp} {v : V} {Q : VK} (hd : H dd = some (.xd [("at", v)])) (hQ : ∀ l, H l = none → Q (.ref l) (upd H l (.tup [.str lbl, v, .bl true]))) : HearE K Q (.ref (He.ga K x)) (some dd) H := by
  intro D σ hD
  simp only [List.mem_cons, List.not_mem_nil, or_false, Prod.mk.injEq] at hx
  rcases hx with ⟨rfl, rfl⟩ | ⟨rfl, rfl⟩ | ⟨rfl, rfl⟩
  · exact ⟨true, (B.exm _ (by decide) _ (by decide)).trans (by decide), fun _ a _ => ts_ok B (by decide) hD hd hQ, fun h => by cases h⟩
  · exact ⟨false, (B.exm _ (by decide) _ (by decide)).trans (by decide), (fun h => by cases h), fun _ => ⟨true, (B.exm _ (by decide) _ (by decide)).trans (by decide), fun _ a _ => ts_ok B (by decide) hD hd hQ, fun h => by cases h⟩⟩
  · exact ⟨false, (B.exm _ (by decide) _ (by decide)).trans (by decide), (fun h => by cases h), fun _ => ⟨false, (B.exm _ (by decide) _ (by decide)).trans (by decide), (fun h => by cases h), fun _ => ⟨false, (B.exm _ (by decide) _ (by decide)).trans (by decide), (fun h => by cases h), fun _ => ⟨true, (B.exm _ (by decide) _ (by decide)).trans (by decide), fun _ a _ => ts_ok B (by decide) hD hd hQ, fun h => by cases h⟩⟩⟩⟩
theorem hearR {K : PySem.W.Frag} {mg : Str → Option Value} (B : Fe K mg) {r : Str} {dd : Addr} {H : Hp} {v : V} {Q : VK} (hd : H dd = some (.xd [("at", v)])) (hr : Rx.repV v = some r) (hQ : ∀ l, H l = none → Q (.ref l) (upd H l (.tup [.str "refused", .str r, .bl true]))) : HearE K Q (.ref (He.ga K "Refused")) (some dd) H := by
  intro D σ hD
  exact ⟨false, (B.exm _ (by decide) _ (by decide)).trans (by decide), (fun h => by cases h), fun _ => ⟨false, (B.exm _ (by decide) _ (by decide)).trans (by decide), (fun h => by cases h), fun _ => ⟨true, (B.exm _ (by decide) _ (by decide)).trans (by decide), fun _ a _ => tsR_ok B (by decide) hD hd hr hQ, fun h => by cases h⟩⟩⟩
end
end Fw
end
section
set_option Elab.async false
set_option autoImplicit false
set_option linter.all false
set_option maxRecDepth 100000
set_option maxHeartbeats 0
/-! Hf (printed by gen.py): the facts that the defs stand on. -/
namespace Hx
open PySem PySem.Spec PyProof.Rows L2 Fw
section
variable {K : Fr} {h : Heap} {mg : Str → Option Value}
theorem is_BadOctets : (⟨"BadOctets", "BadOctets.__init__", s_BadOctets___init__⟩ : Er).Is "no such octets" := ⟨⟨_, _, _, _, _, _, _, _, _, _, _, _, rfl, rfl, fun env => ⟨_, rfl⟩⟩, rfl⟩
theorem is_BadSetup : (⟨"BadSetup", "BadSetup.__init__", s_BadSetup___init__⟩ : Er).Is "no such setup" := ⟨⟨_, _, _, _, _, _, _, _, _, _, _, _, rfl, rfl, fun env => ⟨_, rfl⟩⟩, rfl⟩
theorem is_Refused : (⟨"Refused", "Refused.__init__", s_Refused___init__⟩ : Er).Is "no such value here" := ⟨⟨_, _, _, _, _, _, _, _, _, _, _, _, rfl, rfl, fun env => ⟨_, rfl⟩⟩, rfl⟩
theorem is_Broken : (⟨"Broken", "Broken.__init__", s_Broken___init__⟩ : Er).Is "what lies there tells nothing" := ⟨⟨_, _, _, _, _, _, _, _, _, _, _, _, rfl, rfl, fun env => ⟨_, rfl⟩⟩, rfl⟩
theorem fs (X : K.In h) (G : h.Ns mainGlobals mg) (c : Says fl faL fnL esL h K) : Fs pg K mg where
  f_is_integer := c.d.def_ 0 (d := d_is_integer) rfl
  g_is_integer := He.glo_ok X G (c.d.fact 0 (f := .glo "is_integer") rfl)
  f_is_number := c.d.def_ 1 (d := d_is_number) rfl
  g_is_number := He.glo_ok X G (c.d.fact 1 (f := .glo "is_number") rfl)
  f_is_below := c.d.def_ 2 (d := d_is_below) rfl
  g_is_below := He.glo_ok X G (c.d.fact 2 (f := .glo "is_below") rfl)
  f_is_sequence := c.d.def_ 3 (d := d_is_sequence) rfl
  g_is_sequence := He.glo_ok X G (c.d.fact 3 (f := .glo "is_sequence") rfl)
  f_need_octets := c.d.def_ 4 (d := d_need_octets) rfl
  g_need_octets := He.glo_ok X G (c.d.fact 4 (f := .glo "need_octets") rfl)
  f_is_step := c.d.def_ 5 (d := d_is_step) rfl
  g_is_step := He.glo_ok X G (c.d.fact 5 (f := .glo "is_step") rfl)
  f_need_keep := c.d.def_ 6 (d := d_need_keep) rfl
  g_need_keep := He.glo_ok X G (c.d.fact 6 (f := .glo "need_keep") rfl)
  f_need_first := c.d.def_ 7 (d := d_need_first) rfl
  g_need_first := He.glo_ok X G (c.d.fact 7 (f := .glo "need_first") rfl)
  f_counts_of := c.d.def_ 8 (d := d_counts_of) rfl
  g_counts_of := He.glo_ok X G (c.d.fact 8 (f := .glo "counts_of") rfl)
  f_shape := c.d.def_ 9 (d := d_shape) rfl
  g_shape := He.glo_ok X G (c.d.fact 9 (f := .glo "shape") rfl)
  f_is_row_value := c.d.def_ 10 (d := d_is_row_value) rfl
  g_is_row_value := He.glo_ok X G (c.d.fact 10 (f := .glo "is_row_value") rfl)
  f_is_power := c.d.def_ 11 (d := d_is_power) rfl
  g_is_power := He.glo_ok X G (c.d.fact 11 (f := .glo "is_power") rfl)
  f_is_true_of := c.d.def_ 12 (d := d_is_true_of) rfl
  g_is_true_of := He.glo_ok X G (c.d.fact 12 (f := .glo "is_true_of") rfl)
  f_is_span := c.d.def_ 13 (d := d_is_span) rfl
  g_is_span := He.glo_ok X G (c.d.fact 13 (f := .glo "is_span") rfl)
  f_is_kind := c.d.def_ 14 (d := d_is_kind) rfl
  g_is_kind := He.glo_ok X G (c.d.fact 14 (f := .glo "is_kind") rfl)
  f_is_way := c.d.def_ 15 (d := d_is_way) rfl
  g_is_way := He.glo_ok X G (c.d.fact 15 (f := .glo "is_way") rfl)
  f_check_setup := c.d.def_ 16 (d := d_check_setup) rfl
  g_check_setup := He.glo_ok X G (c.d.fact 16 (f := .glo "check_setup") rfl)
  f_is_mark := c.d.def_ 17 (d := d_is_mark) rfl
  g_is_mark := He.glo_ok X G (c.d.fact 17 (f := .glo "is_mark") rfl)
  f_are_marks := c.d.def_ 18 (d := d_are_marks) rfl
  g_are_marks := He.glo_ok X G (c.d.fact 18 (f := .glo "are_marks") rfl)
  f_shapes_of := c.d.def_ 19 (d := d_shapes_of) rfl
  g_shapes_of := He.glo_ok X G (c.d.fact 19 (f := .glo "shapes_of") rfl)
  f_is_cargo := c.d.def_ 20 (d := d_is_cargo) rfl
  g_is_cargo := He.glo_ok X G (c.d.fact 20 (f := .glo "is_cargo") rfl)
  f_check_frame := c.d.def_ 21 (d := d_check_frame) rfl
  g_check_frame := He.glo_ok X G (c.d.fact 21 (f := .glo "check_frame") rfl)
  f_octets_for := c.d.def_ 22 (d := d_octets_for) rfl
  g_octets_for := He.glo_ok X G (c.d.fact 22 (f := .glo "octets_for") rfl)
  f_number_octets := c.d.def_ 23 (d := d_number_octets) rfl
  g_number_octets := He.glo_ok X G (c.d.fact 23 (f := .glo "number_octets") rfl)
  f_most_rest := c.d.def_ 24 (d := d_most_rest) rfl
  g_most_rest := He.glo_ok X G (c.d.fact 24 (f := .glo "most_rest") rfl)
  f_values_octets := c.d.def_ 25 (d := d_values_octets) rfl
  g_values_octets := He.glo_ok X G (c.d.fact 25 (f := .glo "values_octets") rfl)
  f_look_numbers := c.d.def_ 26 (d := d_look_numbers) rfl
  g_look_numbers := He.glo_ok X G (c.d.fact 26 (f := .glo "look_numbers") rfl)
  f_mark_octets := c.d.def_ 27 (d := d_mark_octets) rfl
  g_mark_octets := He.glo_ok X G (c.d.fact 27 (f := .glo "mark_octets") rfl)
  f_frame_octets := c.d.def_ 28 (d := d_frame_octets) rfl
  g_frame_octets := He.glo_ok X G (c.d.fact 28 (f := .glo "frame_octets") rfl)
  f_Octets___init__ := c.d.def_ 29 (d := d_Octets___init__) rfl
  f_Octets_take_of := c.d.def_ 30 (d := d_Octets_take_of) rfl
  m_Octets_take_of := He.meth_ok (c.d.fact 29 (f := .meth "Octets" "take_of") rfl)
  f_Octets_take := c.d.def_ 31 (d := d_Octets_take) rfl
  m_Octets_take := He.meth_ok (c.d.fact 30 (f := .meth "Octets" "take") rfl)
  f_Octets_take_number := c.d.def_ 32 (d := d_Octets_take_number) rfl
  m_Octets_take_number := He.meth_ok (c.d.fact 31 (f := .meth "Octets" "take_number") rfl)
  f_Octets_take_mark := c.d.def_ 33 (d := d_Octets_take_mark) rfl
  m_Octets_take_mark := He.meth_ok (c.d.fact 32 (f := .meth "Octets" "take_mark") rfl)
  f_Octets_take_span := c.d.def_ 34 (d := d_Octets_take_span) rfl
  m_Octets_take_span := He.meth_ok (c.d.fact 33 (f := .meth "Octets" "take_span") rfl)
  f_Octets_take_cargo := c.d.def_ 35 (d := d_Octets_take_cargo) rfl
  m_Octets_take_cargo := He.meth_ok (c.d.fact 34 (f := .meth "Octets" "take_cargo") rfl)
  f_octets_from := c.d.def_ 36 (d := d_octets_from) rfl
  g_octets_from := He.glo_ok X G (c.d.fact 35 (f := .glo "octets_from") rfl)
  f_frame_at := c.d.def_ 37 (d := d_frame_at) rfl
  g_frame_at := He.glo_ok X G (c.d.fact 36 (f := .glo "frame_at") rfl)
  f_law_box := c.d.def_ 38 (d := d_law_box) rfl
  g_law_box := He.glo_ok X G (c.d.fact 37 (f := .glo "_law_box") rfl)
  f_law_take := c.d.def_ 39 (d := d_law_take) rfl
  g_law_take := He.glo_ok X G (c.d.fact 38 (f := .glo "_law_take") rfl)
  f_law_pick := c.d.def_ 40 (d := d_law_pick) rfl
  g_law_pick := He.glo_ok X G (c.d.fact 39 (f := .glo "_law_pick") rfl)
  f_law_setup := c.d.def_ 41 (d := d_law_setup) rfl
  g_law_setup := He.glo_ok X G (c.d.fact 40 (f := .glo "_law_setup") rfl)
  f_law_shape := c.d.def_ 42 (d := d_law_shape) rfl
  g_law_shape := He.glo_ok X G (c.d.fact 41 (f := .glo "_law_shape") rfl)
  f_law_mark := c.d.def_ 43 (d := d_law_mark) rfl
  g_law_mark := He.glo_ok X G (c.d.fact 42 (f := .glo "_law_mark") rfl)
  f_law_span := c.d.def_ 44 (d := d_law_span) rfl
  g_law_span := He.glo_ok X G (c.d.fact 43 (f := .glo "_law_span") rfl)
  f_law_frame := c.d.def_ 45 (d := d_law_frame) rfl
  g_law_frame := He.glo_ok X G (c.d.fact 44 (f := .glo "_law_frame") rfl)
  f_law_need := c.d.def_ 46 (d := d_law_need) rfl
  g_law_need := He.glo_ok X G (c.d.fact 45 (f := .glo "_law_need") rfl)
  f_law_number := c.d.def_ 47 (d := d_law_number) rfl
  g_law_number := He.glo_ok X G (c.d.fact 46 (f := .glo "_law_number") rfl)
  f_law_marks := c.d.def_ 48 (d := d_law_marks) rfl
  g_law_marks := He.glo_ok X G (c.d.fact 47 (f := .glo "_law_marks") rfl)
  f_law_values := c.d.def_ 49 (d := d_law_values) rfl
  g_law_values := He.glo_ok X G (c.d.fact 48 (f := .glo "_law_values") rfl)
  f_law_octet := c.d.def_ 50 (d := d_law_octet) rfl
  g_law_octet := He.glo_ok X G (c.d.fact 49 (f := .glo "_law_octet") rfl)
  f_law_walk := c.d.def_ 51 (d := d_law_walk) rfl
  g_law_walk := He.glo_ok X G (c.d.fact 50 (f := .glo "_law_walk") rfl)
  f_law_heard := c.d.def_ 52 (d := d_law_heard) rfl
  g_law_heard := He.glo_ok X G (c.d.fact 51 (f := .glo "_law_heard") rfl)
  f_law_bent := c.d.def_ 53 (d := d_law_bent) rfl
  g_law_bent := He.glo_ok X G (c.d.fact 52 (f := .glo "_law_bent") rfl)
  f_law := c.d.def_ 54 (d := d_law) rfl
  g_law := He.glo_ok X G (c.d.fact 53 (f := .glo "law") rfl)
  g_Octets := He.glo_ok X G (c.d.fact 54 (f := .glo "Octets") rfl)
  cl_Octets := He.cls_ok (c.d.fact 55 (f := .cls "Octets") rfl)
  mk_Octets := He.mkr_ok (c.d.fact 56 (f := .mkr "Octets") rfl)
  na_octets := He.noat_ok (c.d.fact 57 (f := .noat "Octets" "octets") rfl)
  na_at := He.noat_ok (c.d.fact 58 (f := .noat "Octets" "at") rfl)
  x_BadOctets := txt_ok X G is_BadOctets (c.er 0 rfl) c.b (List.mem_of_getElem? (i := 0) rfl) (by decide +kernel)
  x_BadSetup := txt_ok X G is_BadSetup (c.er 1 rfl) c.b (List.mem_of_getElem? (i := 1) rfl) (by decide +kernel)
  x_Refused := txt_ok X G is_Refused (c.er 2 rfl) c.b (List.mem_of_getElem? (i := 2) rfl) (by decide +kernel)
  x_Broken := txt_ok X G is_Broken (c.er 3 rfl) c.b (List.mem_of_getElem? (i := 3) rfl) (by decide +kernel)
  b_abs := He.free_ok X G (c.d.fact 60 (f := .free "abs") rfl)
  b_all := He.free_ok X G (c.d.fact 61 (f := .free "all") rfl)
  b_any := He.free_ok X G (c.d.fact 62 (f := .free "any") rfl)
  b_bool := He.free_ok X G (c.d.fact 63 (f := .free "bool") rfl)
  b_enumerate := He.free_ok X G (c.d.fact 64 (f := .free "enumerate") rfl)
  b_int := He.free_ok X G (c.d.fact 65 (f := .free "int") rfl)
  b_isinstance := He.free_ok X G (c.d.fact 66 (f := .free "isinstance") rfl)
  b_len := He.free_ok X G (c.d.fact 67 (f := .free "len") rfl)
  b_list := He.free_ok X G (c.d.fact 68 (f := .free "list") rfl)
  b_max := He.free_ok X G (c.d.fact 69 (f := .free "max") rfl)
  b_min := He.free_ok X G (c.d.fact 70 (f := .free "min") rfl)
  b_range := He.free_ok X G (c.d.fact 71 (f := .free "range") rfl)
  b_repr := He.free_ok X G (c.d.fact 72 (f := .free "repr") rfl)
  b_set := He.free_ok X G (c.d.fact 73 (f := .free "set") rfl)
  b_sorted := He.free_ok X G (c.d.fact 74 (f := .free "sorted") rfl)
  b_super := He.free_ok X G (c.d.fact 75 (f := .free "super") rfl)
  b_tuple := He.free_ok X G (c.d.fact 76 (f := .free "tuple") rfl)
  b_zip := He.free_ok X G (c.d.fact 77 (f := .free "zip") rfl)
  k_MOST_OCTET := He.int_ok X G (c.d.fact 78 (f := .int "MOST_OCTET" 256) rfl)
  k_MOST_STEP := He.int_ok X G (c.d.fact 79 (f := .int "MOST_STEP" 1000) rfl)
  k_LEAST_KEEP := He.int_ok X G (c.d.fact 80 (f := .int "LEAST_KEEP" 2) rfl)
  k_MOST_KEEP := He.int_ok X G (c.d.fact 81 (f := .int "MOST_KEEP" 8) rfl)
  k_MOST_VALUE := He.int_ok X G (c.d.fact 82 (f := .int "MOST_VALUE" 1000000) rfl)
  k_MOST_KINDS := He.int_ok X G (c.d.fact 83 (f := .int "MOST_KINDS" 6) rfl)
  k_MOST_WAY := He.int_ok X G (c.d.fact 84 (f := .int "MOST_WAY" 10000) rfl)
  k_MOST_LAID := He.int_ok X G (c.d.fact 85 (f := .int "MOST_LAID" 100000) rfl)
  k_MOST_CARGO := He.int_ok X G (c.d.fact 86 (f := .int "MOST_CARGO" 100) rfl)
  k_COUNT_OCTETS := He.int_ok X G (c.d.fact 87 (f := .int "COUNT_OCTETS" 4) rfl)
  k_MOST_NUMBER := He.int_ok X G (c.d.fact 88 (f := .int "MOST_NUMBER" 4294967296) rfl)
  k_LAID_OCTETS := He.int_ok X G (c.d.fact 89 (f := .int "LAID_OCTETS" 3) rfl)
  k_VALUE_OCTETS := He.int_ok X G (c.d.fact 90 (f := .int "VALUE_OCTETS" 3) rfl)
theorem fe (X : K.In h) (G : h.Ns mainGlobals mg) (c : Says fl faL fnL esL h K) : Fe K mg where
  gF := He.glo_ok X G (c.d.fact 59 (f := .glo "FarError") rfl)
  exm := by
    intro x hx y hy
    simp only [List.mem_cons, List.not_mem_nil, or_false] at hx hy
    rcases hx with rfl | rfl | rfl | rfl <;> rcases hy with rfl | rfl | rfl | rfl
    · exact (He.exm_ok (c.d.fact 91 (f := .exm "Broken" "Broken" true) rfl)).trans (congrArg some (by decide))
    · exact (He.exm_ok (c.d.fact 92 (f := .exm "Broken" "BadOctets" false) rfl)).trans (congrArg some (by decide))
    · exact (He.exm_ok (c.d.fact 93 (f := .exm "Broken" "Refused" false) rfl)).trans (congrArg some (by decide))
    · exact (He.exm_ok (c.d.fact 94 (f := .exm "Broken" "BadSetup" false) rfl)).trans (congrArg some (by decide))
    · exact (He.exm_ok (c.d.fact 95 (f := .exm "BadOctets" "Broken" false) rfl)).trans (congrArg some (by decide))
    · exact (He.exm_ok (c.d.fact 96 (f := .exm "BadOctets" "BadOctets" true) rfl)).trans (congrArg some (by decide))
    · exact (He.exm_ok (c.d.fact 97 (f := .exm "BadOctets" "Refused" false) rfl)).trans (congrArg some (by decide))
    · exact (He.exm_ok (c.d.fact 98 (f := .exm "BadOctets" "BadSetup" false) rfl)).trans (congrArg some (by decide))
    · exact (He.exm_ok (c.d.fact 99 (f := .exm "Refused" "Broken" false) rfl)).trans (congrArg some (by decide))
    · exact (He.exm_ok (c.d.fact 100 (f := .exm "Refused" "BadOctets" false) rfl)).trans (congrArg some (by decide))
    · exact (He.exm_ok (c.d.fact 101 (f := .exm "Refused" "Refused" true) rfl)).trans (congrArg some (by decide))
    · exact (He.exm_ok (c.d.fact 102 (f := .exm "Refused" "BadSetup" false) rfl)).trans (congrArg some (by decide))
    · exact (He.exm_ok (c.d.fact 103 (f := .exm "BadSetup" "Broken" false) rfl)).trans (congrArg some (by decide))
    · exact (He.exm_ok (c.d.fact 104 (f := .exm "BadSetup" "BadOctets" false) rfl)).trans (congrArg some (by decide))
    · exact (He.exm_ok (c.d.fact 105 (f := .exm "BadSetup" "Refused" false) rfl)).trans (congrArg some (by decide))
    · exact (He.exm_ok (c.d.fact 106 (f := .exm "BadSetup" "BadSetup" true) rfl)).trans (congrArg some (by decide))
  exc := by
    intro x hx
    simp only [List.mem_cons, List.not_mem_nil, or_false] at hx
    rcases hx with rfl | rfl | rfl | rfl
    · exact exc_ok c.b (List.mem_of_getElem? (i := 3) rfl)
    · exact exc_ok c.b (List.mem_of_getElem? (i := 0) rfl)
    · exact exc_ok c.b (List.mem_of_getElem? (i := 2) rfl)
    · exact exc_ok c.b (List.mem_of_getElem? (i := 1) rfl)
  kit := by
    intro x hx
    simp only [List.mem_cons, List.not_mem_nil, or_false] at hx
    rcases hx with rfl | rfl | rfl | rfl
    · exact of_decide_eq_true (Er.b c.b (List.mem_of_getElem? (i := 3) rfl) 18 rfl)
    · exact of_decide_eq_true (Er.b c.b (List.mem_of_getElem? (i := 0) rfl) 18 rfl)
    · exact of_decide_eq_true (Er.b c.b (List.mem_of_getElem? (i := 2) rfl) 18 rfl)
    · exact of_decide_eq_true (Er.b c.b (List.mem_of_getElem? (i := 1) rfl) 18 rfl)
end
end Hx
end
section
set_option Elab.async false
set_option autoImplicit false
set_option linter.all false
set_option maxRecDepth 100000
set_option maxHeartbeats 1000000
/-! R9: a lambda handed to a def: what its making changes is told to the object. -/
namespace Rx
open PySem PySem.Spec PyProof.Rows L2 LamX
/-- nothing is new, or one code object is, and it stands in the table at T -/
def LamNew (T : Addr) (q : Str) (H G : Hp) : Prop := G = H ∨ ∃ (z : Addr) (ps more : Array Value), H z = none ∧ H T = some (.tbl ps) ∧ TriplesOk (ps ++ more).toList ∧ (∀ (p : Pos) (cv : Value), codeAmong p (ps ++ more).toList = some cv → codeAmong p ps.toList = some cv ∨ cv = .ref z) ∧ G = upd (upd H T (.tbl (ps ++ more))) z (CodeO z q)
section
variable {X : Cx} {pins : List (Addr × Obj)} {σ : L2.St} {H : Hp} {s : Shared}
theorem lam_new {cc T : Addr} {pr : Arguments} {bd : Expr} {ls : Scope} {lp : Pos} {E R : Value → Shared → Prop} (I : Inv X pins σ H s) (B : TabB X.base X.mg cc T) (hcc : X.env.code = .ref cc)
    (t : TabS H T (X.env.qual ++ "<lambda>")) (hdf : defaultsOf pr X.env = ([], [])) (hfr : ∀ y ∈ ls.names, y.2 = .free → ∃ c, X.env.cells.lookup y.1 = some c)
    (go : ∀ (f z : Addr) (pm ctv : Value) (G : Hp) (s' : Shared), Inv X pins σ G s' → LamNew T (X.env.qual ++ "<lambda>") H G → TabS G T (X.env.qual ++ "<lambda>") →
      s'.heap.get? f = some (PySem.W.kla_obj "<lambda>" (X.env.qual ++ "<lambda>") pr bd ls (cloFrom X.env.cells ls.names []) pm z ctv) → G f = none → f ∉ frs X.stack → G z = some (CodeO z (X.env.qual ++ "<lambda>")) → R (.ref f) s') :
    wpAny (model X.prog X.w) X.A (eval (.Lambda pr bd ls lp) X.env) R E s := by
  obtain ⟨ps, hT, h3, hall⟩ := t
  refine PySem.W.kla_eval hdf ?_
  have bT : s.heap.BuiltinsAt X.mg T := B.bm.keeps I.bk
  have gT : s.heap.get? T = some { cls := .none, data := .fields ps } := I.hok T _ hT
  have out : ∀ f, s.heap.objs.size ≤ f → f ∉ frs X.stack := by
    intro f hf hm
    rcases List.mem_cons.mp (I.stkSub _ hm) with rfl | e
    · exact absurd I.lt (Nat.not_lt.mpr hf)
    · exact I.nofs hf e
  cases hq : codeAmong lp ps.toList with
  | some cv =>
    obtain ⟨z, rfl, hz⟩ := hall lp cv hq
    refine PySem.W.kla_makeFunctionHit (mg := X.mg) (c := cc) (P := T) (ps := ps) (closure_ok hfr) I.ok.glob (I.mod.glob.keeps I.bk) hcc (B.code.keeps I.bk) gT h3 hq bT fun ctv h' tk hx hsz => ?_
    have J : Inv X pins σ H { s with heap := h'.push (PySem.W.kla_obj "<lambda>" (X.env.qual ++ "<lambda>") pr bd ls (cloFrom X.env.cells ls.names []) ((X.mg "__name__").getD .none) z ctv), toks := tk } := I.kept fun b o e => Heap.get?_push_of_some _ (hx b o e)
    exact go _ z _ ctv H _ J (.inl rfl) ⟨ps, hT, h3, hall⟩ (Heap.get?_push_size _ rfl) (I.hok.fresh hsz) (out _ hsz) hz
  | none =>
    refine PySem.W.kla_makeFunction (mg := X.mg) (c := cc) (P := T) (ps := ps) (closure_ok hfr) I.ok.glob (I.mod.glob.keeps I.bk) hcc (B.code.keeps I.bk) gT h3 hq B.gP bT fun z ctv h' tk hx hge hlt hrec htb => ?_
    obtain ⟨z2, oc, vs, tt, e2, hoc, hd, hv⟩ := hrec
    cases e2
    have hsz : s.heap.objs.size ≤ h'.objs.size := by omega
    have nz : H z = none := I.hok.fresh hge
    have J := inv_table (t' := tk) (more := #[rawInt lp.line, rawInt lp.col, .ref z]) (h' := h'.push (PySem.W.kla_obj "<lambda>" (X.env.qual ++ "<lambda>") pr bd ls (cloFrom X.env.cells ls.names []) ((X.mg "__name__").getD .none) z ctv)) I hT
      (fun b o hb e => Heap.get?_push_of_some _ (hx b o hb e)) (Heap.get?_push_of_some _ htb) hge ⟨oc, vs, tt, Heap.get?_push_of_some _ hoc, hd, hv⟩
    have keepC : ∀ b, H b = some (CodeO b (X.env.qual ++ "<lambda>")) → upd (upd H T (.tbl (ps ++ #[rawInt lp.line, rawInt lp.col, .ref z]))) z (CodeO z (X.env.qual ++ "<lambda>")) b = some (CodeO b (X.env.qual ++ "<lambda>")) := by
      intro b e
      rw [upd_ne (ne_of_none e nz), upd_ne (fun w => codeO_ne ps (Option.some.inj (e.symm.trans (by rw [w]; exact hT))))]
      exact e
    have tri : TriplesOk (ps ++ #[rawInt lp.line, rawInt lp.col, .ref z]).toList := by
      rw [Array.toList_append]
      exact PySem.TriplesOk_snoc _ _ _ _ h3
    have among : ∀ (p' : Pos) (cv : Value), codeAmong p' (ps ++ #[rawInt lp.line, rawInt lp.col, .ref z]).toList = some cv → codeAmong p' ps.toList = some cv ∨ cv = .ref z := fun p' cv hcv => by
      rw [Array.toList_append] at hcv
      exact among_app _ h3 hcv
    refine go _ z _ ctv _ _ J (.inr ⟨z, ps, _, nz, hT, tri, among, rfl⟩) ⟨_, by rw [upd_ne (ne_of_none hT nz), upd_same], tri, fun p' cv hcv => ?_⟩ (Heap.get?_push_size _ rfl) ?_ (out _ hsz) upd_same
    · rcases among p' cv hcv with w | w
      · obtain ⟨c0, e1, e2⟩ := hall p' cv w
        exact ⟨c0, e1, keepC _ e2⟩
      · exact ⟨z, w, upd_same⟩
    · have n2 : h'.objs.size ≠ T := Nat.ne_of_gt (Nat.lt_of_lt_of_le (Heap.lt_size gT) hsz)
      rw [upd_ne (Nat.ne_of_gt hlt), upd_ne n2]
      exact I.hok.fresh hsz
end
/-- f(lambda: e): T, the table of the code object that is run -/
def tLam1 (T : Addr) (q : Str) (TT : (XK → Hp → VK → Prop) → Hp → VK → Prop) (t : XK → TE) : TE := fun σ H Q => TabS H T q ∧ ∀ G, LamNew T q H G → TabS G T q → TT (fun E H' Q' => t E σ H' Q') G Q
section
variable {X : Cx}
theorem pe_lam1 {TT : (XK → Hp → VK → Prop) → Hp → VK → Prop} {x a : Str} {g cc T : Addr} {k : Nat} {pg : Arguments} {bg : List Stmt} {sg : Scope} {dV kV doc pm cdv ct oc : Value} {an od : Option Addr} {osl : Array (Option Value)} {Ng : List Str}
    {pr : Arguments} {bd : Expr} {ls : Scope} {t : XK → TE} {p lp pos : Pos} (hg : Gl X x) (hm : X.mg x = some (.ref g)) (hk : PySem.W.keepIn X.K (.ref g) = true)
    (lk : X.K.lookup g = some ⟨oc, od, .func (PySem.W.fnOf x x pg bg sg dV kV doc pm an cdv ct), osl⟩) (hcg : PySem.W.codeIn X.K cdv x = true) (hb : L2.Binds X.K (PySem.W.fnOf x x pg bg sg dV kV doc pm an cdv ct) [a] []) (Sg : FnScope Ng [a] sg) (hNg : Ng[0]? = some a) (hva : Vis sg a)
    (gives : GivesTo X Ng x sg g cdv bg a (X.env.qual ++ "<lambda>") TT) (B : TabB X.base X.mg cc T) (hcc : X.env.code = .ref cc) (room : Room (k + 2) X.A) (L : LamS X.env.scope ls) (hdf : defaultsOf pr X.env = ([], []))
    (hbind : ∀ (q : Str) (cl : List (Str × Addr)) (pm cv ctv : Value), bindArgs (PySem.W.kla_fn "<lambda>" q pr bd ls cl pm cv ctv) ⟨[], []⟩ = pure [])
    (body : ∀ (A : Around) (outer : List Env) (s : Shared) (H : Hp) (E : XK) (f z : Addr), Room k (A.deeper (lamEnv X ls s.heap.objs.size f z)) → PE (lamCx X A outer s H E ls f z) bd (t E))
    (hdb : (x == ("__debug__" : Str)) = false := by decide) (hd : (a == ("__debug__" : Str)) = false := by decide) (hcd : (a == ("__classdict__" : Str)) = false := by decide) :
    PE X (.Call (.Name x p) [.Lambda pr bd ls lp] [] pos) (tLam1 T (X.env.qual ++ "<lambda>") TT t) := by
  constructor
  rintro pins s σ H Q I ⟨hT, h⟩
  refine wpAny_Call_Name_kw (ld_glob I hg hm ?_ hdb)
  refine PySem.W.callWith_K (h₀ := X.base) I.ok.mod.kin hk ?_ (by rfl) (by rfl)
  show wpAny _ _ (spliced ((false, eval (.Lambda pr bd ls lp) X.env) :: backTo pos (starEach [] X.env))) _ _ s
  refine Calls.spliced_cons (lam_new I B hcc hT hdf (L.has I.ok) fun f z pm' ctv G s' J new TG hf hfn hfr hz => ?_)
  refine Calls.spliced_nil ⟨J.kIn, ?_⟩
  have done : codeAny (model X.prog X.w) X.A (.call (.ref g) ⟨[.ref f], []⟩) (CR C8.CX0 X.stack X.prog X.w G s' Q C8.E0) s' := by
    refine run_ofS (N := Ng) (ps := [a]) (us := [.ref f]) (vs := [.ref f]) lk hcg Sg room J.env0 (hb s' [.ref f] J.kIn rfl) (.cons rfl .nil) rfl fun room' => ?_
    obtain ⟨t', p1, p2⟩ := gives f z s' G Q (fun E H' Q' => t E σ H' Q') (fun W pn xe E p1 p2 tk hW => pe_act (i := 0) J L hf hfn hfr (hbind _ _ _ _ _) tk hW room' (fun A outer s H r2 => body A outer s H E f z r2) hNg hva hd hcd) hz (h G new TG)
    exact ⟨t', p1.nox, p2⟩
  refine wpAny_call (codeAny_mono done fun r s2 hq => ?_)
  rcases r with e | (u | _ | _ | _)
  all_goals first
    | exact J.after hq
    | exact False.elim hq
end
end Rx
end
section
set_option Elab.async false
set_option autoImplicit false
set_option linter.all false
set_option maxRecDepth 100000
set_option maxHeartbeats 1000000
set_option pp.maxSteps 1500
/-! P20a: a lambda handed to a def, told by data; what is heard of it. -/
namespace Rx
open PySem PySem.Spec PyProof.Rows L2
theorem op_catAK {X : Cx} {K : PySem.W.Frag} (e : X.K = K) : OpR X (binaryOp .Add) (rCatA K) := by
  subst e
  exact op_catA
end Rx
namespace Dl
open PySem PySem.Spec PyProof.Rows L2 Evl LamX
section
variable {K : Fg} {E : XK} {W : Wd K E} {sl : Sl} {rs : Rs} {P : DV → Rs → Prop}
theorem tab_of {F H : Hp} {σ : L2.St} {i : Nat} {T : Addr} {q : Str} (k : KnL K F H σ sl rs) (hi : rs[i]? = some (T, .tab q)) : TabS H T q := by
  obtain ⟨ps, h1, h2, h3⟩ := (k.gr _ (List.mem_of_getElem? hi)).2
  refine ⟨ps, h1, h2, fun pos cv hc => ?_⟩
  obtain ⟨c, e1, e2⟩ := h3 pos cv hc
  exact ⟨c, e1, k.ex _ _ e2⟩
/-- the making of a lambda -/
theorem lam_kn {F H G : Hp} {σ : L2.St} {i : Nat} {T : Addr} {q : Str} (k : KnL K F H σ sl rs) (hi : rs[i]? = some (T, .tab q)) (n : Rx.LamNew T q H G) : ∃ F', Stp F H rs F' G rs ∧ KnL K F' G σ sl rs := by
  rcases n with rfl | ⟨z, ps, more, hz, hT, tri, among, rfl⟩
  · exact ⟨F, .refl, k⟩
  · have hne : T ≠ z := ne_of_none hT hz
    have k1 := k.new (o := CodeAt z q) hz
    have s1 := Stp.new (o := CodeAt z q) k hz
    have eG : upd (upd H T (.tbl (ps ++ more))) z (CodeO z q) = upd (upd H z (CodeAt z q)) T (.tbl (ps ++ more)) := by
      funext b
      by_cases hb : b = z
      · subst hb
        rw [upd_same, upd_ne (Ne.symm hne), upd_same]
        rfl
      · rw [upd_ne hb]
        by_cases hb2 : b = T
        · subst hb2
          rw [upd_same, upd_same]
        · rw [upd_ne hb2, upd_ne hb2, upd_ne hb]
    obtain ⟨ps0, h1, h2, h3⟩ := (k.gr _ (List.mem_of_getElem? hi)).2
    have h1 : H T = some (.tbl ps0) := h1
    rw [hT] at h1
    cases h1
    have es : rs.set i (T, .tab q) = rs := by
      obtain ⟨hl, e⟩ := List.getElem?_eq_some_iff.mp hi
      rw [← e, List.set_getElem_self]
    have hold : Hold (upd F z (CodeAt z q)) (upd (upd H z (CodeAt z q)) T (.tbl (ps ++ more))) T (.tab q) := by
      refine ⟨_, upd_same, tri, fun pos cv hc => ?_⟩
      rcases among pos cv hc with w | rfl
      · obtain ⟨c, e1, e2⟩ := h3 pos cv w
        exact ⟨c, e1, s1.up _ _ e2⟩
      · exact ⟨z, rfl, upd_same⟩
    have k2 := k1.wr hi hold
    have s2 := Stp.wr (o := .tbl (ps ++ more)) (r' := .tab q) k1 hi
    rw [es] at k2 s2
    rw [eG]
    exact ⟨_, s1.trans s2, k2⟩
/-- what is raised, as data; what it ends in -/
def repD : PyData → Option Str
  | .none => some "None"
  | .bool b => some (if b then "True" else "False")
  | .int i => if i.natAbs.log2 < 1920 then some (toString i) else Option.none
  | .str x => if (reprText x).length ≤ sizeLine then some (reprText x) else Option.none
  | _ => Option.none
theorem rep_dq {F : Hp} {v : V} {d : PyData} {r : Str} (h : Dq F v d) (e : repD d = some r) : Rx.repV v = some r := by
  cases h with
  | non => exact e
  | bl b => exact e
  | int i => exact e
  | str x => exact e
  | lst _ _ => cases e
  | tup _ _ => cases e
  | zt _ _ _ => cases e
theorem we_repr {tr : TA} (h : WA W tr sl rs fun xs rs1 => ∃ d r, xs = [.d d] ∧ repD d = some r ∧ P (.d (.str r)) rs1) : WE W (tCB (fun xs H Q => ∃ x t, xs = [x] ∧ Rx.repV x = some t ∧ Q (.str t) H) tr) sl rs P := fun F H σ k Q q =>
  h F H σ k _ fun F1 H1 vs xs rs1 s1 k1 i1 ⟨d, r, e, hr, p⟩ => by
    subst e
    cases i1 with
    | cons i1 t =>
      cases t
      exact ⟨_, r, rfl, rep_dq i1 hr, q F1 H1 _ _ rs1 s1 k1 (isS r) p⟩
end
end Dl
namespace Fw
open PySem PySem.Spec PyProof.Rows L2 Dl Mx
abbrev told3 (x : Str) (d : PyData) : DV := .d (.tuple [.str x, d, .bool true])
/-- what is wanted where the asking raises -/
def HearX (K : PySem.W.Frag) (P : DV → Rs → Prop) (C : Addr) (x : PyData) (rs : Rs) : Prop :=
  (C = He.ga K "Broken" ∧ P (told3 "broken" x) rs) ∨ (C = He.ga K "BadOctets" ∧ P (told3 "octets" x) rs) ∨ (C = He.ga K "Refused" ∧ ∃ r, repD x = some r ∧ P (told3 "refused" (.str r)) rs) ∨ (C = He.ga K "BadSetup" ∧ P (told3 "setup" x) rs)
theorem we_heard {K : PySem.W.Frag} {mg : Str → Option Value} {E : XK} {W : Wd K E} {sl : Sl} {rs : Rs} {P : DV → Rs → Prop} {i : Nat} {T : Addr} {q : Str} {t : XK → TE} (B : Fe K mg) (hi : rs[i]? = some (T, .tab q))
    (h : ∀ (E2 : XK) (W2 : Wd K E2), W2.X = HearX K P → WE W2 (t E2) sl rs fun dv rs1 => ∃ d, dv = .d d ∧ P (.d (.tuple [.str "told", d])) rs1) : WE W (Rx.tLam1 T q (TTheard K) t) sl rs P := by
  intro F H σ k Q qq
  refine ⟨tab_of k.1 hi, fun G n _ => ?_⟩
  obtain ⟨F1, s1, k1⟩ := lam_kn k.1 hi n
  -- a tuple of three is told
  have fin : ∀ (lbl : Str) (F' H' : Hp) (d : PyData) (v : V) (rs' : Rs), Stp F1 G rs F' H' rs' → KnL K F' H' [] [] rs' → Dq F' v d → P (told3 lbl d) rs' → ∀ l, H' l = none → Q (.ref l) (upd H' l (.tup [.str lbl, v, .bl true])) := by
    intro lbl F' H' d v rs' s k' dq p l hl
    have kk : KnL K F' H' σ sl rs' := k'.slots (fun j dv e => by
      obtain ⟨u, h1, h2⟩ := k1.gs j dv e
      exact ⟨u, h1, h2.up s.up⟩) k1.ln
    refine qq _ _ _ (told3 lbl d) rs' ((s1.trans s).trans (.new kk hl)) (kk.new hl) ?_ p
    exact Dq.tup upd_same (.cons (.str _) (.cons (Dq.up (Evl.Ex.new (kk.fn hl)) _ _ dq) (.cons (.bl _) .nil)))
  refine ⟨fun cls d H' => HearE K Q cls d H', fun _ _ _ z => z, ?_⟩
  let W2 : Wd K (fun cls d H' => HearE K Q cls d H') := ⟨F1, G, rs, HearX K P, fun F' H' C x xv dd rs' s k' hX hd dq => by
    rcases hX with ⟨rfl, p⟩ | ⟨rfl, p⟩ | ⟨rfl, r, hr, p⟩ | ⟨rfl, p⟩
    · exact hear B (lbl := "broken") (by decide) hd (fin _ F' H' x xv rs' s k' dq p)
    · exact hear B (lbl := "octets") (by decide) hd (fin _ F' H' x xv rs' s k' dq p)
    · exact hearR B hd (rep_dq dq hr) (fin _ F' H' (.str r) (.str r) rs' s k' (.str _) p)
    · exact hear B (lbl := "setup") (by decide) hd (fin _ F' H' x xv rs' s k' dq p)⟩
  refine h _ W2 rfl F1 G σ ⟨k1, .refl⟩ _ fun F' H' v dv rs' s k' iv hp => ?_
  obtain ⟨d, rfl, p⟩ := hp
  refine ⟨Nat.le_of_ble_eq_true rfl, fun l hl => ?_⟩
  refine qq _ _ _ _ rs' ((s1.trans s).trans (.new k' hl)) (k'.new hl) ?_ p
  exact Dq.tup upd_same (.cons (.str _) (.cons (Dq.up (Evl.Ex.new (k'.fn hl)) _ _ iv) .nil))
end Fw
end
section
set_option Elab.async false
set_option autoImplicit false
set_option linter.all false
set_option maxRecDepth 100000
set_option maxHeartbeats 1000000
/-! M6: frames one octet further on; the first twelve octets. -/
namespace Mx
open PySem Dl
def Rd.up {α : Type} : Rd α → Rd α
  | .err f => .err (f + 1)
  | .ok v p => .ok v (p + 1)
theorem bind_up {α β : Type} {x y : Rd α} {f g : α → Nat → Rd β} (h : y = x.up) (hf : ∀ v p, f v (p + 1) = (g v p).up) : y.bind f = (x.bind g).up := by
  subst h
  cases x with
  | err e => rfl
  | ok v p => exact hf v p
section
variable {c : Nat} {os : List Nat}
theorem up_at (p : Nat) : (c :: os)[p + 1]? = os[p]? := by simp
theorem rdL_up {ds : List Nat} : ∀ {p found : Nat} {full : Bool}, rdL (c :: os) (p + 1) ds full found = (rdL os p ds full found).up := by
  induction ds with
  | nil => intros; rfl
  | cons g ds ih =>
    intro p found full
    rw [rdL, rdL, up_at]
    cases os[p]? with
    | none => rfl
    | some o =>
      dsimp only
      by_cases hc : o ≤ (if full = true then g else 255)
      · rw [if_pos hc, if_pos hc, ih]
      · rw [if_neg hc, if_neg hc]
        rfl
theorem rdN_up {p many most : Nat} : rdN (c :: os) (p + 1) many most = (rdN os p many most).up := rdL_up
theorem rdRep_up {α : Type} {f g : Nat → Rd α} (h : ∀ p, f (p + 1) = (g p).up) : ∀ (n : Nat) (acc : List α) (p : Nat), rdRep f n acc (p + 1) = (rdRep g n acc p).up
  | 0, _, _ => rfl
  | n + 1, acc, p => bind_up (h p) fun v q => rdRep_up h n (acc ++ [v]) q
theorem rdMark_up {p : Nat} : rdMark (c :: os) (p + 1) = (rdMark os p).up := by
  unfold rdMark
  refine bind_up rdN_up fun laid q => bind_up rdN_up fun first r => ?_
  by_cases h : laid > 0
  · rw [if_pos h, if_pos h]
    exact bind_up rdN_up fun _ _ => rfl
  · rw [if_neg h, if_neg h]
    rfl
theorem rdSpan_up {first many p : Nat} : rdSpan (c :: os) first many (p + 1) = (rdSpan os first many p).up := by
  unfold rdSpan
  refine bind_up rdN_up fun lw q => ?_
  by_cases h : many = 1
  · rw [if_pos h, if_pos h]
    rfl
  · rw [if_neg h, if_neg h]
    exact bind_up rdN_up fun h r => bind_up rdN_up fun _ _ => rfl
theorem rdItem_up {ab : List Rows} {ks : List Nat} {p : Nat} : rdItem (c :: os) ab ks (p + 1) = (rdItem os ab ks p).up := by
  unfold rdItem
  rw [up_at, up_at]
  cases os[p]? with
  | none => rfl
  | some k =>
    dsimp only
    by_cases hk : k ∈ ks
    · rw [if_pos hk, if_pos hk]
      cases os[p + 1]? with
      | none => rfl
      | some j =>
        dsimp only
        cases (ab.getD k [])[j]? with
        | none => rfl
        | some r => exact bind_up rdSpan_up fun _ _ => rfl
    · rw [if_neg hk, if_neg hk]
      rfl
theorem rdCargo_up {ab : List Rows} {p : Nat} : rdCargo (c :: os) ab (p + 1) = (rdCargo os ab p).up := by
  unfold rdCargo
  rw [up_at]
  cases os[p]? with
  | none => rfl
  | some n =>
    dsimp only
    by_cases h : n ≤ (if 0 < (kindsOf ab).length then 100 else 0)
    · rw [if_pos h, if_pos h]
      exact rdRep_up (fun p => rdItem_up) _ _ _
    · rw [if_neg h, if_neg h]
      rfl
theorem rdHead_up {su : Setup} {p : Nat} : rdHead su (c :: os) (p + 1) = (rdHead su os p).up := by
  unfold rdHead
  exact bind_up (rdRep_up (f := fun q => rdN (c :: os) q 4 M4) (g := fun q => rdN os q 4 M4) (fun p => rdN_up) _ _ _) fun ns q => bind_up (rdRep_up (f := rdMark (c :: os)) (g := rdMark os) (fun p => rdMark_up) _ _ _) fun _ _ => rfl
theorem rdFrame_up {su : Setup} {p : Nat} : rdFrame su (c :: os) (p + 1) = (rdFrame su os p).up := by
  unfold rdFrame
  exact bind_up rdHead_up fun h q => bind_up rdCargo_up fun _ _ => rfl
end
/-- four octets are any number -/
theorem rdN4 {os : List Nat} {p : Nat} (ho : ∀ o ∈ os, o < 256) : (p + 4 ≤ os.length → ∃ n, rdN os p 4 M4 = .ok n (p + 4)) ∧ (os.length < p + 4 → p ≤ os.length → rdN os p 4 M4 = .err os.length) := by
  have hd : digs 4 M4 = [255, 255, 255, 255] := by decide
  have step : ∀ (q : Nat) (ds : List Nat) (full : Bool) (found : Nat), (q < os.length → rdL os q (255 :: ds) full found = rdL os (q + 1) ds (full && decide (os.getD q 0 = 255)) (found * 256 + os.getD q 0)) ∧ (os.length ≤ q → rdL os q (255 :: ds) full found = .err os.length) := by
    intro q ds full found
    constructor
    · intro h
      have hos : os[q]? = some (os.getD q 0) := by
        rw [List.getD_eq_getElem?_getD, List.getElem?_eq_getElem h]
        rfl
      have hob : os.getD q 0 < 256 := ho _ (List.mem_of_getElem? hos)
      rw [rdL, hos]
      dsimp only
      rw [if_pos (by split <;> omega)]
    · intro h
      rw [rdL, List.getElem?_eq_none h]
  unfold rdN
  rw [hd]
  constructor
  · intro h
    rw [(step _ _ _ _).1 (by omega), (step _ _ _ _).1 (by omega), (step _ _ _ _).1 (by omega), (step _ _ _ _).1 (by omega)]
    exact ⟨_, rfl⟩
  · intro h h0
    by_cases c0 : os.length ≤ p
    · rw [(step _ _ _ _).2 c0]
    rw [(step _ _ _ _).1 (by omega)]
    by_cases c1 : os.length ≤ p + 1
    · rw [(step _ _ _ _).2 c1]
    rw [(step _ _ _ _).1 (by omega)]
    by_cases c2 : os.length ≤ p + 1 + 1
    · rw [(step _ _ _ _).2 c2]
    rw [(step _ _ _ _).1 (by omega), (step _ _ _ _).2 (by omega)]
theorem rdHead_at {su : Setup} {os : List Nat} (ho : ∀ o ∈ os, o < 256) : (os.length < 12 → rdHead su os 0 = .err os.length) ∧ (12 ≤ os.length → ∃ ns, rdRep (fun q => rdN os q 4 M4) 3 [] 0 = .ok ns 12 ∧ rdHead su os 0 = (rdRep (rdMark os) su.kinds.length [] 12).bind fun ms r => .ok (ns, ms) r) := by
  have e : rdRep (fun q => rdN os q 4 M4) 3 [] 0 = (rdN os 0 4 M4).bind fun a q => (rdN os q 4 M4).bind fun b r => (rdN os r 4 M4).bind fun c s => .ok [a, b, c] s := rfl
  constructor
  · intro h
    have : rdRep (fun q => rdN os q 4 M4) 3 [] 0 = .err os.length := by
      rw [e]
      by_cases c0 : os.length < 0 + 4
      · rw [(rdN4 ho).2 c0 (by omega)]
        rfl
      obtain ⟨a, ha⟩ := (rdN4 (p := 0) ho).1 (by omega)
      rw [ha]
      show (rdN os (0 + 4) 4 M4).bind _ = _
      by_cases c1 : os.length < 0 + 4 + 4
      · rw [(rdN4 ho).2 c1 (by omega)]
        rfl
      obtain ⟨b, hb⟩ := (rdN4 (p := 0 + 4) ho).1 (by omega)
      rw [hb]
      show (rdN os (0 + 4 + 4) 4 M4).bind _ = _
      rw [(rdN4 ho).2 (by omega) (by omega)]
      rfl
    unfold rdHead
    rw [this]
    rfl
  · intro h
    obtain ⟨a, ha⟩ := (rdN4 (p := 0) ho).1 (by omega)
    obtain ⟨b, hb⟩ := (rdN4 (p := 0 + 4) ho).1 (by omega)
    obtain ⟨c, hc⟩ := (rdN4 (p := 0 + 4 + 4) ho).1 (by omega)
    have e2 : rdRep (fun q => rdN os q 4 M4) 3 [] 0 = .ok [a, b, c] 12 := by
      rw [e, ha]
      show (rdN os (0 + 4) 4 M4).bind _ = _
      rw [hb]
      show (rdN os (0 + 4 + 4) 4 M4).bind _ = _
      rw [hc]
      rfl
    refine ⟨[a, b, c], e2, ?_⟩
    unfold rdHead
    rw [e2]
    rfl
end Mx
end
section
set_option Elab.async false
set_option autoImplicit false
set_option linter.all false
set_option maxRecDepth 100000
set_option maxHeartbeats 1000000
/-! M7: what is read is written so again. -/
namespace Mx
open PySem Dl
def seg (os : List Nat) (p n : Nat) : List Nat := (os.drop p).take n
theorem seg_app (os : List Nat) (p a b : Nat) : seg os p (a + b) = seg os p a ++ seg os (p + a) b := by
  unfold seg
  rw [List.take_add, List.drop_drop]
def Wr (os : List Nat) (p q : Nat) (xs : List Nat) : Prop := q = p + xs.length ∧ xs = seg os p xs.length
theorem Wr.nil {os : List Nat} {p : Nat} : Wr os p p [] := ⟨rfl, by simp [seg]⟩
theorem Wr.app {os xs ys : List Nat} {p q r : Nat} (a : Wr os p q xs) (b : Wr os q r ys) : Wr os p r (xs ++ ys) := by
  obtain ⟨a1, a2⟩ := a
  obtain ⟨b1, b2⟩ := b
  refine ⟨by rw [List.length_append]; omega, ?_⟩
  rw [List.length_append, seg_app, ← a2, ← a1, ← b2]
theorem Wr.one {os : List Nat} {p o : Nat} (h : os[p]? = some o) : Wr os p (p + 1) [o] := by
  refine ⟨rfl, ?_⟩
  obtain ⟨hp, e⟩ := List.getElem?_eq_some_iff.mp h
  show [o] = (os.drop p).take 1
  rw [List.drop_eq_getElem_cons hp, e]
  rfl
theorem rdL_val {os ds : List Nat} : ∀ {p found v q : Nat} {full : Bool}, rdL os p ds full found = .ok v q → ∃ xs, xs.length = ds.length ∧ Wr os p q xs ∧ v = found * 256 ^ ds.length + val xs := by
  induction ds with
  | nil =>
    intro p found v q full h
    cases h
    exact ⟨[], rfl, .nil, by simp [val]⟩
  | cons g ds ih =>
    intro p found v q full h
    rw [rdL] at h
    cases ho : os[p]? with
    | none => rw [ho] at h; cases h
    | some o =>
      rw [ho] at h
      dsimp only at h
      by_cases hc : o ≤ (if full = true then g else 255)
      · rw [if_pos hc] at h
        obtain ⟨xs, h1, h2, h3⟩ := ih h
        refine ⟨o :: xs, by simp [h1], (Wr.one ho).app h2, ?_⟩
        rw [h3, val_cons, h1, List.length_cons, Nat.pow_succ, Nat.add_mul]
        have : found * 256 * 256 ^ ds.length = found * (256 ^ ds.length * 256) := by rw [Nat.mul_assoc, Nat.mul_comm 256]
        omega
      · rw [if_neg hc] at h
        cases h
theorem digs_val : ∀ (n : Nat) (xs : List Nat), xs.length = n → (∀ x ∈ xs, x < 256) → digs n (val xs) = xs
  | 0, xs, h, _ => by
    have : xs = [] := List.eq_nil_of_length_eq_zero h
    subst this
    rfl
  | n + 1, xs, h, hx => by
    have hne : xs ≠ [] := fun z => by rw [z] at h; cases h
    have e := List.dropLast_concat_getLast hne
    have hl : xs.dropLast.length = n := by rw [List.length_dropLast]; omega
    have hb := hx (xs.getLast hne) (List.getLast_mem hne)
    have ih := digs_val n xs.dropLast hl fun x hx2 => hx x (List.dropLast_subset _ hx2)
    generalize xs.getLast hne = b at e hb
    generalize xs.dropLast = ys at e ih
    rw [← e, val_app]
    unfold digs
    rw [show (val ys * 256 + b) / 256 = val ys by omega, show (val ys * 256 + b) % 256 = b by omega, ih]
section
variable {os : List Nat} (ho : ∀ o ∈ os, o < 256)
include ho
theorem rdN_wr {p many most v q : Nat} (h : rdN os p many most = .ok v q) : Wr os p q (digs many v) := by
  obtain ⟨xs, h1, h2, h3⟩ := rdL_val h
  rw [len_digs] at h1 h3
  rw [Nat.zero_mul, Nat.zero_add] at h3
  rw [h3, digs_val many xs h1 fun x hx => ?_]
  · exact h2
  · rw [h2.2] at hx
    exact ho x (List.mem_of_mem_drop (List.mem_of_mem_take hx))
theorem rdMark_wr {p q : Nat} {m : Mark} (h : rdMark os p = .ok m q) : Wr os p q (wrMark m) := by
  unfold rdMark at h
  obtain ⟨laid, p1, h1, h⟩ := bind_ok h
  obtain ⟨first, p2, h2, h⟩ := bind_ok h
  have a := (rdN_wr ho h1).app (rdN_wr ho h2)
  by_cases hc : laid > 0
  · rw [if_pos hc] at h
    obtain ⟨lst, p3, h3, h⟩ := bind_ok h
    cases h
    exact a.app (rdN_wr ho h3)
  · rw [if_neg hc] at h
    cases h
    exact a.app .nil
theorem rdSpan_wr {p q first many : Nat} {s : Span} (hm : many ∈ pws) (h : rdSpan os first many p = .ok s q) : Wr os p q (wrSpan s) ∧ s.ok ∧ s.first = first ∧ s.many = many := by
  have hm2 : 1 ≤ many ∧ many ≤ 32 := by
    revert hm
    generalize many = z
    revert z
    decide
  unfold rdSpan at h
  obtain ⟨lw, p1, h1, h⟩ := bind_ok h
  have l1 := rdN_le (by decide) h1
  have a := rdN_wr ho h1
  by_cases hc : many = 1
  · rw [if_pos hc] at h
    cases h
    refine ⟨?_, ⟨hm, by show (-1000000 : Int) ≤ (lw : Int) - 1000000; omega, by show (lw : Int) - 1000000 ≤ 1000000; omega, by show (-1000000 : Int) ≤ (lw : Int) - 1000000; omega, by show (lw : Int) - 1000000 ≤ 1000000; omega, ?_⟩, rfl, rfl⟩
    · unfold wrSpan
      show Wr os p _ (digs 3 ((lw : Int) - 1000000 + 1000000).toNat ++ (if many = 1 then [] else _))
      rw [if_pos hc, show ((lw : Int) - 1000000 + 1000000).toNat = lw by omega]
      exact a.app .nil
    · unfold trueOf
      rw [if_pos (by show (many : Int) = 1; omega)]
      simp
  · rw [if_neg hc] at h
    obtain ⟨hh, p2, h2, h⟩ := bind_ok h
    obtain ⟨rest, p3, h3, h⟩ := bind_ok h
    have l2 := rdN_le (show 2000000 - lw < 256 ^ 3 by omega) h2
    have l3 := rdN_le (octF_lt _) h3
    have b := rdN_wr ho h2
    have c := rdN_wr ho h3
    cases h
    have hr : ((lw : Int) - 1000000) * ((many : Int) - 1) + ((lw : Int) - 1000000) + (hh : Int) + (rest : Int) - ((lw : Int) - 1000000) * ((many : Int) - 1) - ((lw : Int) - 1000000 + (hh : Int)) = (rest : Int) := by omega
    refine ⟨?_, ⟨hm, by show (-1000000 : Int) ≤ (lw : Int) - 1000000; omega, by show (lw : Int) - 1000000 ≤ 1000000; omega, by show (-1000000 : Int) ≤ (lw : Int) - 1000000 + (hh : Int); omega, by show (lw : Int) - 1000000 + (hh : Int) ≤ 1000000; omega, ?_⟩, rfl, rfl⟩
    · unfold wrSpan
      show Wr os p _ (digs 3 ((lw : Int) - 1000000 + 1000000).toNat ++ (if many = 1 then [] else digs 3 ((lw : Int) - 1000000 + (hh : Int) - ((lw : Int) - 1000000)).toNat ++ digs (octF ((many - 2) * ((lw : Int) - 1000000 + (hh : Int) - ((lw : Int) - 1000000)).toNat)) (((lw : Int) - 1000000) * ((many : Int) - 1) + ((lw : Int) - 1000000) + (hh : Int) + (rest : Int) - ((lw : Int) - 1000000) * ((many : Int) - 1) - ((lw : Int) - 1000000 + (hh : Int))).toNat))
      rw [if_neg hc, hr, show ((lw : Int) - 1000000 + 1000000).toNat = lw by omega, show ((lw : Int) - 1000000 + (hh : Int) - ((lw : Int) - 1000000)).toNat = hh by omega, Int.toNat_natCast]
      exact a.app (b.app c)
    · show trueOf (many : Int) (((lw : Int) - 1000000) * ((many : Int) - 1) + ((lw : Int) - 1000000) + (hh : Int) + (rest : Int)) ((lw : Int) - 1000000) ((lw : Int) - 1000000 + (hh : Int)) = true
      unfold trueOf
      rw [if_neg (by omega)]
      simp only [Bool.and_eq_true, decide_eq_true_eq]
      simp only [pws, List.mem_cons, List.not_mem_nil, or_false] at hm
      rcases hm with rfl | rfl | rfl | rfl | rfl | rfl <;> omega
end
end Mx
end
section
set_option Elab.async false
set_option autoImplicit false
set_option linter.all false
set_option maxRecDepth 100000
set_option maxHeartbeats 1000000
/-! M8: frames read are frames, and are written so again. -/
namespace Mx
open PySem Dl
theorem rows_fst {sz : List Nat} : ∀ {f : Nat} {r : Nat × Nat}, r ∈ rowsOf f sz → f ≤ r.1 := by
  induction sz with
  | nil => intro f r h; cases h
  | cons s sz ih =>
    intro f r h
    rcases List.mem_cons.mp h with h | h
    · rw [h]
      exact Nat.le_refl _
    · have := ih h
      omega
theorem rows_idx {sz : List Nat} (hs : ∀ x ∈ sz, 0 < x) : ∀ {f j : Nat} {r : Nat × Nat}, (rowsOf f sz)[j]? = some r → (rowsOf f sz).idxOf r = j := by
  induction sz with
  | nil => intro f j r h; cases h
  | cons s sz ih =>
    intro f j r h
    have h0 := hs s List.mem_cons_self
    show ((f, s) :: rowsOf (f + s) sz).idxOf r = j
    rw [List.idxOf_cons]
    cases j with
    | zero =>
      have h : some (f, s) = some r := h
      rw [Option.some.inj h]
      simp
    | succ j =>
      have h : (rowsOf (f + s) sz)[j]? = some r := h
      have h1 := rows_fst (List.mem_of_getElem? h)
      have hne : ((f, s) == r) = false := beq_eq_false_iff_ne.mpr fun e => by
        rw [← e] at h1
        have h1 : f + s ≤ f := h1
        omega
      rw [hne, ih (fun x hx => hs x (List.mem_cons_of_mem _ hx)) h]
      rfl
/-- rows that are told apart by their places -/
def Apart (rows : Rows) : Prop := ∀ (j : Nat) (r : Nat × Nat), rows[j]? = some r → rows.idxOf r = j
theorem shapes_apart {su : Setup} {ms : List Mark} (hs : su.ok) (hm : ∀ m ∈ ms, m.ok) : ∀ rows ∈ shapes su.kinds ms, Apart rows := by
  intro rows hr
  unfold shapes at hr
  obtain ⟨i, hi⟩ := List.mem_iff_getElem?.mp hr
  rw [List.getElem?_zipWith] at hi
  cases hk : su.kinds[i]? with
  | none => rw [hk] at hi; cases hi
  | some k =>
    cases hm1 : ms[i]? with
    | none => rw [hk, hm1] at hi; cases hi
    | some m =>
      rw [hk, hm1] at hi
      rw [← Option.some.inj hi]
      have h2 := sizes_pws _ (hs.2.2.1 k (List.mem_of_getElem? hk)).2.2.2 (m.laid - m.first) (List.mem_range.mpr (by have := (hm m (List.mem_of_getElem? hm1)).2.2.1; omega))
      exact fun j r h => rows_idx (fun x hx => by
        have := h2 x hx
        revert this
        generalize x = z
        revert z
        decide) h
theorem rdRep_wr {os : List Nat} {α : Type} {f : Nat → Rd α} {enc : α → List Nat} (hf : ∀ p v q, f p = .ok v q → Wr os p q (enc v)) : ∀ (n : Nat) (acc : List α) (p : Nat) (vs : List α) (q : Nat), rdRep f n acc p = .ok vs q → ∃ ws, vs = acc ++ ws ∧ ws.length = n ∧ Wr os p q (ws.map enc).flatten
  | 0, acc, p, vs, q, h => by
    cases h
    exact ⟨[], by simp, rfl, .nil⟩
  | n + 1, acc, p, vs, q, h => by
    have h : (f p).bind (fun v q => rdRep f n (acc ++ [v]) q) = .ok vs q := h
    obtain ⟨v, p1, h1, h2⟩ := bind_ok h
    obtain ⟨ws, e1, e2, e3⟩ := rdRep_wr hf n _ _ _ _ h2
    exact ⟨v :: ws, by rw [e1]; simp, by simp [e2], (hf _ _ _ h1).app e3⟩
section
variable {os : List Nat} (ho : ∀ o ∈ os, o < 256)
include ho
theorem rdItem_wr {ab : List Rows} (ha : ∀ rows ∈ ab, Apart rows) (hp : ∀ rows ∈ ab, ∀ x ∈ rows, x.2 ∈ pws) {p q : Nat} {c : Nat × Span} (h : rdItem os ab (kindsOf ab) p = .ok c q) : Wr os p q (wrItem ab c) ∧ itOk ab c := by
  unfold rdItem at h
  cases h1 : os[p]? with
  | none => rw [h1] at h; cases h
  | some k =>
    rw [h1] at h
    dsimp only at h
    by_cases hk : k ∈ kindsOf ab
    · rw [if_pos hk] at h
      have hka : k < ab.length := List.mem_range.mp (List.mem_filter.mp hk).1
      have hrow : ab.getD k [] ∈ ab := by
        rw [List.getD_eq_getElem?_getD, List.getElem?_eq_getElem hka]
        exact List.getElem_mem _
      cases h2 : os[p + 1]? with
      | none => rw [h2] at h; cases h
      | some j =>
        rw [h2] at h
        dsimp only at h
        cases h3 : (ab.getD k [])[j]? with
        | none => rw [h3] at h; cases h
        | some r =>
          rw [h3] at h
          dsimp only at h
          obtain ⟨s, p2, h4, h5⟩ := bind_ok h
          cases h5
          have hr := List.mem_of_getElem? h3
          obtain ⟨w1, w2, w3, w4⟩ := rdSpan_wr ho (hp _ hrow r hr) h4
          have er : (s.first, s.many) = r := by rw [w3, w4]
          refine ⟨?_, hka, by show (s.first, s.many) ∈ ab.getD k []; rw [er]; exact hr, w2⟩
          unfold wrItem
          show Wr os p _ ([k, (ab.getD k []).idxOf (s.first, s.many)] ++ wrSpan s)
          rw [er, ha _ hrow j r h3]
          exact ((Wr.one h1).app (Wr.one h2)).app w1
    · rw [if_neg hk] at h
      cases h
theorem rdCargo_wr {ab : List Rows} (ha : ∀ rows ∈ ab, Apart rows) (hp : ∀ rows ∈ ab, ∀ x ∈ rows, x.2 ∈ pws) {p q : Nat} {cs : List (Nat × Span)} (h : rdCargo os ab p = .ok cs q) : Wr os p q ([cs.length] ++ (cs.map (wrItem ab)).flatten) ∧ cs.length ≤ 100 ∧ ∀ c ∈ cs, itOk ab c := by
  unfold rdCargo at h
  cases h1 : os[p]? with
  | none => rw [h1] at h; cases h
  | some n =>
    rw [h1] at h
    dsimp only at h
    by_cases hn : n ≤ (if 0 < (kindsOf ab).length then 100 else 0)
    · rw [if_pos hn] at h
      obtain ⟨ws, e1, e2, e3⟩ := rdRep_wr (fun p v q h => (rdItem_wr ho ha hp h).1) _ _ _ _ _ h
      obtain ⟨k1, k2⟩ := rdRep_all (S := itOk ab) (fun p v q h => (rdItem_wr ho ha hp h).2) _ _ _ _ _ h (fun _ h => by cases h)
      have e1 : cs = ws := by rw [e1]; rfl
      subst e1
      refine ⟨?_, by rw [e2]; exact Nat.le_trans hn (by split <;> omega), k1⟩
      rw [e2]
      exact (Wr.one h1).app e3
    · rw [if_neg hn] at h
      cases h
theorem rdFrame_wr {su : Setup} (hs : su.ok) {p q : Nat} {f : Frm} (hf : ∀ h q, rdHead su os p = .ok h q → fits h.2) (h : rdFrame su os p = .ok f q) : f.ok su ∧ Wr os p q (wrFrame su f) := by
  unfold rdFrame at h
  obtain ⟨hd, p1, h1, h2⟩ := bind_ok h
  obtain ⟨cs, p2, h3, h4⟩ := bind_ok h2
  cases h4
  obtain ⟨k1, k2, k3, k4⟩ := rdHead_ok h1 (hf _ _ h1)
  obtain ⟨c1, c2, c3⟩ := rdCargo_wr ho (shapes_apart hs k4) (shapes_pws hs k4) h3
  refine ⟨⟨k1, k2, k3, k4, c2, c3⟩, ?_⟩
  unfold rdHead at h1
  obtain ⟨ns, q1, a1, a2⟩ := bind_ok h1
  obtain ⟨ms, q2, b1, b2⟩ := bind_ok a2
  cases b2
  obtain ⟨ws, e1, e2, e3⟩ := rdRep_wr (fun p v q h => rdN_wr ho h) _ _ _ _ _ a1
  obtain ⟨wm, f1, f2, f3⟩ := rdRep_wr (fun p v q h => rdMark_wr ho h) _ _ _ _ _ b1
  have e1 : ns = ws := e1
  have f1 : ms = wm := f1
  subst e1 f1
  have := (e3.app f3).app c1
  unfold wrFrame
  rw [List.append_assoc _ _ (List.flatten _)]
  exact this
end
theorem wr_take {os xs : List Nat} {q : Nat} (h : Wr os 0 q xs) : xs = os.take q := by
  obtain ⟨h1, h2⟩ := h
  rw [h1, Nat.zero_add]
  exact h2
end Mx
end
section
set_option Elab.async false
set_option autoImplicit false
set_option linter.all false
set_option maxRecDepth 100000
set_option maxHeartbeats 1000000
/-! M9: forms of frames; places behind the end. -/
namespace Mx
open PySem Dl
theorem rdHead_far {su : Setup} {os : List Nat} {p : Nat} (h : os.length ≤ p) : rdHead su os p = .err os.length := by
  have h1 : rdN os p 4 M4 = .err os.length := by
    unfold rdN
    rw [show digs 4 M4 = [255, 255, 255, 255] by decide, rdL, List.getElem?_eq_none h]
  unfold rdHead
  have : rdRep (fun q => rdN os q 4 M4) 3 [] p = (rdN os p 4 M4).bind fun v q => rdRep (fun q => rdN os q 4 M4) 2 ([] ++ [v]) q := rfl
  rw [this, h1]
  rfl
theorem rdFrame_far {su : Setup} {os : List Nat} {p : Nat} (h : os.length ≤ p) : rdFrame su os p = .err os.length := by
  unfold rdFrame
  rw [rdHead_far h]
  rfl
def small (xs : List Nat) : Prop := ∀ x ∈ xs, x < 256
theorem small_app {a b : List Nat} (ha : small a) (hb : small b) : small (a ++ b) := fun o h => by
  rcases List.mem_append.mp h with h | h
  · exact ha o h
  · exact hb o h
theorem small_digs {m n : Nat} : small (digs m n) := fun _ h => digs_lt h
theorem small_flat {α : Type} {xs : List α} {f : α → List Nat} (h : ∀ x ∈ xs, small (f x)) : small (xs.map f).flatten := fun o ho => by
  obtain ⟨l, hl, h1⟩ := List.mem_flatten.mp ho
  obtain ⟨x, hx, rfl⟩ := List.mem_map.mp hl
  exact h x hx o h1
theorem len_flat {α : Type} {c : Nat} {xs : List α} {f : α → List Nat} (h : ∀ x ∈ xs, (f x).length ≤ c) : (xs.map f).flatten.length ≤ c * xs.length := by
  induction xs with
  | nil => exact Nat.le_refl _
  | cons x xs ih =>
    rw [List.map_cons, List.flatten_cons, List.length_append, List.length_cons, Nat.mul_add]
    have h1 := h x List.mem_cons_self
    have h2 := ih fun y hy => h y (List.mem_cons_of_mem _ hy)
    omega
theorem small_mark (m : Mark) : small (wrMark m) := by
  unfold wrMark
  refine small_app (small_app small_digs small_digs) ?_
  cases m.last with
  | none => exact fun _ h => by cases h
  | some l => exact small_digs
theorem small_span (s : Span) : small (wrSpan s) := by
  unfold wrSpan
  refine small_app small_digs ?_
  split
  · exact fun _ h => by cases h
  · exact small_app small_digs small_digs
theorem small_frame {su : Setup} {f : Frm} (hk : su.kinds.length ≤ 6) (hf : f.ok su) (hr : ∀ rows ∈ shapes su.kinds f.marks, rows.length ≤ 40) : small (wrFrame su f) := by
  obtain ⟨o1, o2, o3, o4, o5, o6⟩ := hf
  unfold wrFrame
  refine small_app (small_app (small_app (small_flat fun _ _ => small_digs) (small_flat fun m _ => small_mark m)) fun x hx => by rw [List.mem_singleton.mp hx]; omega) (small_flat fun c hc => ?_)
  obtain ⟨c1, c2, c3⟩ := o6 c hc
  unfold wrItem
  refine small_app (fun x hx => ?_) (small_span _)
  have hl : (shapes su.kinds f.marks).length ≤ su.kinds.length := by
    unfold shapes
    rw [List.length_zipWith]
    exact Nat.min_le_left _ _
  rcases List.mem_cons.mp hx with hx | hx
  · rw [hx]
    omega
  · rw [List.mem_singleton.mp hx]
    have h1 := List.idxOf_lt_length_of_mem c2
    have h2 := hr ((shapes su.kinds f.marks).getD c.1 []) (by
      rw [List.getD_eq_getElem?_getD, List.getElem?_eq_getElem c1]
      exact List.getElem_mem _)
    omega
end Mx
end
section
set_option Elab.async false
set_option autoImplicit false
set_option linter.all false
set_option maxRecDepth 100000
set_option maxHeartbeats 1000000
set_option pp.maxSteps 500
/-! P20: the law. -/
namespace Fw
open PySem PySem.Spec PyProof.Rows L2 Dl Mx
local macro_rules
  | `(tactic| fail) => `(tactic| first
    | with_reducible refine ws_seq ?_
    | with_reducible refine ws_set ?_
    | with_reducible refine ws_ret ?_
    | with_reducible refine ws_if ?_
    | with_reducible refine ws_next ?_
    | with_reducible refine ws_break ?_
    | with_reducible refine ws_cont ?_
    | with_reducible refine ws_drop ?_
    | with_reducible refine ws_retN ?_
    | with_reducible refine ws_par ?_
    | ((with_reducible refine ws_id ?_); (with_reducible apply ws_aug); rfl)
    | ((with_reducible refine ws_id ?_); (with_reducible apply ws_augR); rfl)
    | with_reducible refine ws_asg ?_
    | ((with_reducible refine we_id ?_); (with_reducible apply we_var); rfl)
    | with_reducible refine we_int ?_
    | with_reducible refine we_non ?_
    | with_reducible refine we_bl ?_
    | with_reducible refine we_str ?_
    | with_reducible refine we_ty ?_
    | with_reducible refine we_opI ?_
    | with_reducible refine we_opB ?_
    | with_reducible refine we_opIC ?_
    | with_reducible refine we_eq ?_
    | with_reducible refine we_ne ?_
    | with_reducible refine we_isN ?_
    | with_reducible refine we_notN ?_
    | with_reducible refine we_chainI ?_
    | with_reducible refine we_chainE ?_
    | with_reducible refine we_chain3 ?_
    | with_reducible refine we_neg ?_
    | with_reducible refine we_andV ?_
    | with_reducible refine we_orV ?_
    | with_reducible refine we_notV ?_
    | with_reducible refine we_if ?_
    | with_reducible refine wt_test ?_
    | with_reducible refine wt_B ?_
    | with_reducible refine wt_not ?_
    | with_reducible refine wt_and ?_
    | with_reducible refine wt_or ?_
    | with_reducible refine wt_yes ?_
    | with_reducible refine wa_nil ?_
    | with_reducible refine wa_cons ?_
    | with_reducible refine we_tup ?_
    | with_reducible refine we_ixT ?_
    | with_reducible refine we_ixL ?_
    | with_reducible refine we_len ?_
    | with_reducible refine we_isi ?_
    | with_reducible refine we_isiSq ?_
    | with_reducible refine wg_name ?_
    | with_reducible refine we_slT ?_
    | with_reducible refine we_tuple ?_
    | with_reducible refine we_slL ?_
    | with_reducible refine wo_none ?_
    | with_reducible refine wo_some ?_
    | with_reducible refine we_callP ?_
    | with_reducible refine we_min2 ?_
    | with_reducible refine we_max2 ?_
    | with_reducible refine we_abs ?_
    | with_reducible refine we_all ?_
    | with_reducible refine we_any ?_
    | with_reducible refine we_append ?_
    | with_reducible refine we_extend ?_
    | with_reducible refine we_catL ?_
    | with_reducible refine ws_raise ?_
    | with_reducible refine we_inZ ?_
    | with_reducible refine we_catT ?_
    | with_reducible refine we_in ?_
    | with_reducible refine we_notIn ?_
    | with_reducible refine wg_tup ?_
    | with_reducible refine wgs_cons ?_
    | with_reducible refine wgs_nil ?_
    | with_reducible refine wi_rng1 ?_
    | with_reducible refine wi_rng2 ?_
    | with_reducible refine wi_lst ?_
    | with_reducible refine wi_tup ?_
    | with_reducible refine wi_enT ?_
    | with_reducible refine wi_enL ?_
    | with_reducible refine wi_zpTT ?_
    | with_reducible refine wi_zpTL ?_
    | with_reducible refine we_toInt ?_
    | with_reducible refine we_callPX ?_
    | ((with_reducible refine Rx.ex_id ?_); first
      | with_reducible refine ⟨_, _, rfl, rfl, ?_⟩
      | with_reducible refine ⟨_, _, rfl, .t _, ?_⟩
      | with_reducible refine ⟨_, _, rfl, .l (.d _), ?_⟩
      | with_reducible refine ⟨_, rfl, ?_⟩
      | with_reducible refine ⟨_, _, rfl, ?_⟩
      | refine ⟨_, _, _, rfl, rfl, rfl, ?_⟩
      | refine ⟨[_], rfl, Nat.le_of_ble_eq_true rfl, ?_⟩
      | refine ⟨[_, _], rfl, Nat.le_of_ble_eq_true rfl, ?_⟩
      | refine ⟨[_, _, _], rfl, Nat.le_of_ble_eq_true rfl, ?_⟩
      | refine ⟨[_, _, _, _], rfl, Nat.le_of_ble_eq_true rfl, ?_⟩
      | refine ⟨[_, _, _, _, _], rfl, Nat.le_of_ble_eq_true rfl, ?_⟩
      | refine ⟨[_, _, _, _, _, _], rfl, Nat.le_of_ble_eq_true rfl, ?_⟩
      | refine ⟨[_, _, _, _, _, _, _], rfl, Nat.le_of_ble_eq_true rfl, ?_⟩)
    | ((with_reducible refine Rx.and_id ?_); first
      | refine ⟨⟨_, 0, rfl⟩, ?_⟩
      | refine ⟨rfl, ?_⟩))
  | `(tactic| rfl') => `(tactic| repeat fail)
local macro_rules
  | `(tactic| fail) => `(tactic| first
    | with_reducible refine ws_setL ?_
    | ((with_reducible refine Rx.ex_id ?_); first
      | refine ⟨_, _, _, .p ⟨0, rfl⟩, rfl, rfl, ?_⟩
      | refine ⟨0, 0, _, rfl, rfl, Nat.le_of_ble_eq_true rfl, ?_⟩
      | refine ⟨1, 0, _, rfl, rfl, Nat.le_of_ble_eq_true rfl, ?_⟩)
    | ((with_reducible refine Rx.and_id ?_); first
      | refine ⟨by decide, ?_⟩
      | refine ⟨.inr ⟨by decide, by decide⟩, ?_⟩
      | refine ⟨.inl ⟨by decide, by decide⟩, ?_⟩
      | refine ⟨⟨by decide, by decide⟩, ?_⟩
      | refine ⟨⟨by decide, by decide, by decide⟩, ?_⟩))
local macro_rules
  | `(tactic| fail) => `(tactic| first
    | with_reducible refine we_lst (tr := tCons _ _) ?_
    | with_reducible refine we_call (f := d_law_take) ?_
    | with_reducible refine we_call (f := d_law_pick) ?_
    | ((with_reducible refine Rx.ex_id ?_); first
      | refine ⟨[_], _, .refl _, _, _, _, _, rfl, rfl, Nat.le_of_ble_eq_true rfl, Nat.le_of_ble_eq_true rfl, ?_⟩
      | refine ⟨[_], [_], List.Perm.swap _ _ _, _, _, _, _, rfl, rfl, Nat.le_of_ble_eq_true rfl, Nat.le_of_ble_eq_true rfl, ?_⟩)
    | ((with_reducible refine Rx.and_id ?_); first
      | refine ⟨⟨_, 1, rfl⟩, ?_⟩))
local macro_rules
  | `(tactic| fail) => `(tactic| first
    | with_reducible refine we_neD ?_
    | with_reducible refine we_repr ?_
    | with_reducible refine we_call (f := d_law_setup) ?_
    | with_reducible refine we_call (f := d_law_frame) ?_
    | with_reducible refine we_call (f := d_law_bent) ?_
    | ((with_reducible refine Rx.ex_id ?_); first
      | refine ⟨[_], _, .refl _, _, _, _, rfl, rfl, ?_⟩))
/-! ### plain -/
theorem len_frame {su : Setup} {f : Frm} (hk : su.kinds.length ≤ 6) (hf : f.ok su) : (wrFrame su f).length ≤ 50000 := by
  obtain ⟨o1, o2, o3, o4, o5, o6⟩ := hf
  unfold wrFrame
  have h1 := len_flat (c := 4) (xs := f.nums) (f := digs 4) fun x _ => Nat.le_of_eq (len_digs 4 x)
  have h2 := len_flat (c := 10) (xs := f.marks) (f := wrMark) fun m hm => wrMark_len m (o4 m hm).1
  have h3 := len_flat (c := 12) (xs := f.cargo) (f := wrItem (shapes su.kinds f.marks)) fun c hc => by
    unfold wrItem
    rw [List.length_append]
    have := wrSpan_len c.2 (o6 c hc).2.2
    show 2 + _ ≤ _
    omega
  rw [List.length_append, List.length_append, List.length_append]
  show _ + _ + 1 + _ ≤ _
  omega
theorem octs_frame {su : Setup} {f : Frm} (hs : su.ok) (hf : f.ok su) : octs (wrFrame su f) := by
  refine small_frame hs.2.1 hf fun rows hr => ?_
  unfold shapes at hr
  obtain ⟨i, hi⟩ := List.mem_iff_getElem?.mp hr
  rw [List.getElem?_zipWith] at hi
  cases hk : su.kinds[i]? with
  | none => rw [hk] at hi; cases hi
  | some k =>
    cases hm : f.marks[i]? with
    | none => rw [hk, hm] at hi; cases hi
    | some m =>
      rw [hk, hm] at hi
      rw [← Option.some.inj hi]
      exact shp_len (hs.2.2.1 k (List.mem_of_getElem? hk)).2.2.2 (hf.2.2.2.1 m (List.mem_of_getElem? hm)).2.2.1
abbrev FitH (su : Setup) (os : List Nat) (p : Nat) : Prop := ∀ h q, rdHead su os p = .ok h q → fits h.2
theorem walk_cases {su : Setup} {os : List Nat} (ho : octs os) : (∃ f, walkD su os = .tuple [.none, nD f] ∧ rdFrame su os 0 = .err f ∧ FitH su os 0) ∨ (∃ fr q, walkD su os = .tuple [nD q, .none] ∧ rdFrame su os 0 = .ok fr q ∧ FitH su os 0) ∨ walkD su os = .tuple [.int 0, .none] := by
  obtain ⟨h1, h2⟩ := rdHead_at (su := su) ho
  unfold walkD
  by_cases hc : os.length < 12
  · rw [if_pos hc]
    have e := h1 hc
    exact .inl ⟨_, rfl, by unfold rdFrame; rw [e]; rfl, fun h q z => by rw [e] at z; cases z⟩
  · rw [if_neg hc]
    obtain ⟨ns, _, e⟩ := h2 (by omega)
    cases hm : rdRep (rdMark os) su.kinds.length [] 12 with
    | err f =>
      have e2 : rdHead su os 0 = .err f := by rw [e, hm]; rfl
      exact .inl ⟨f, rfl, by unfold rdFrame; rw [e2]; rfl, fun h q z => by rw [e2] at z; cases z⟩
    | ok ms q =>
      have e2 : rdHead su os 0 = .ok (ns, ms) q := by rw [e, hm]; rfl
      dsimp only
      by_cases hf : fits ms
      · rw [if_pos hf]
        have fit : FitH su os 0 := fun h q z => by rw [e2] at z; cases z; exact hf
        have e3 : rdFrame su os 0 = (rdCargo os (shapes su.kinds ms) q).bind fun c r => .ok ⟨ns, ms, c⟩ r := by unfold rdFrame; rw [e2]; rfl
        cases hcg : rdCargo os (shapes su.kinds ms) q with
        | err f => exact .inl ⟨f, rfl, by rw [e3, hcg]; rfl, fit⟩
        | ok c r => exact .inr (.inl ⟨_, r, rfl, by rw [e3, hcg]; rfl, fit⟩)
      · rw [if_neg hf]
        exact .inr (.inr rfl)
theorem fit_up {su : Setup} {os : List Nat} {c p : Nat} (h : FitH su os p) : FitH su (c :: os) (p + 1) := by
  intro hd q e
  rw [rdHead_up] at e
  cases hr : rdHead su os p with
  | err f => rw [hr] at e; cases e
  | ok v r =>
    rw [hr] at e
    cases e
    exact h _ _ hr
theorem fit_far {su : Setup} {os : List Nat} {p : Nat} (h : os.length ≤ p) : FitH su os p := fun hd q e => by
  rw [rdHead_far h] at e
  cases e
theorem sh_str {n : Nat} (x : Str) (hx : PyData.strOk x = true) : Sh n (.str x) := ⟨by simp [PyData.canLay0, hx], by simp [PyData.depth]⟩
theorem told_sh {n : Nat} {x : Str} {d : PyData} (hx : PyData.strOk x = true) (h : Sh n d) : Sh (n + 1) (.tuple [.str x, d, .bool true]) := sh_tup fun y hy => by
  rcases List.mem_cons.mp hy with rfl | hy
  · exact sh_str _ hx
  · rcases List.mem_cons.mp hy with rfl | hy
    · exact h
    · rw [List.mem_singleton.mp hy]
      exact sh_bool _
theorem ne_self {d : PyData} (h : SeqAt.shaped d = true) : (!PyData.eqv d d) = false := by
  rw [eqv_refl d (SeqAt.canLay_of_shaped h)]
  rfl
theorem ok_b : PyData.strOk "broken" = true := by decide +kernel
theorem ok_o : PyData.strOk "octets" = true := by decide +kernel
theorem ok_r : PyData.strOk "refused" = true := by decide +kernel
theorem ok_s : PyData.strOk "setup" = true := by decide +kernel
/-! ### the walk -/
abbrev lq : Str := (envOfC "law" (defScope s_law) 0 0 .none).qual ++ "<lambda>"
abbrev tb (T : Addr) : Addr × Res := (T, .tab lq)
abbrev d_law (T : Addr) : Dsp := fun xs rs P X => ∃ ns : List Int, xs = [.scr ns] ∧ rs = [tb T] ∧ ∀ rs', P (.d (.bool true)) rs'
theorem len_law (T : Addr) : Len (d_law T) 1 := fun _ _ _ _ ⟨_, e, _⟩ => by rw [e]; rfl
section
variable {P : Program} {w : World} {K : PySem.W.Frag} {mg : Str → Option Value} {base : Heap}
theorem law_ok (A : Fs P K mg) (B : Fe K mg) {fd : FuncData} (F : FnQ K "law" "law" s_law (fF K ("law", none)) fd) {cc T : Addr} (hcc : He.codeOf K ("law", none) = cc) (TB : LamX.TabB base mg cc T) : FnOk P w K mg base CX0 17 (fF K ("law", none)) fd ["_law_script"] (toSp K (d_law T)) := by
  obtain ⟨oc, od, dV, kV, doc, pm, an, cdv, ct, osl, rfl, lk, hcd, _, _⟩ := F.ex
  obtain ⟨fdh, Fh⟩ := A.f_law_heard
  have kpH := Fh.kp
  have bH := Fh.bindsN (ps := ["_law_ask"]) fun _ _ _ _ _ _ us hl => match us, hl with | [_], _ => rfl
  obtain ⟨ocH, odH, dVH, kVH, docH, pmH, anH, cdvH, ctH, oslH, rfl, lkH, hcH, _, _⟩ := Fh.ex
  obtain ⟨c1, rfl⟩ := He.codeIn_ref hcd
  have e1 := He.codeOf_eq (p := ("law", none)) lk rfl
  have e2 : c1 = cc := e1.symm.trans hcc
  subst e2
  obtain ⟨fd_frame_at, G_frame_at, p_frame_at, b_frame_at⟩ := cal_frame_at (P := P) (w := w) (base := base) A
  have g_frame_at := A.g_frame_at
  obtain ⟨fd_law_pick, G_law_pick, p_law_pick, b_law_pick⟩ := cal_law_pick (P := P) (w := w) (base := base) A
  have g_law_pick := A.g_law_pick
  obtain ⟨fd_law_take, G_law_take, p_law_take, b_law_take⟩ := cal_law_take (P := P) (w := w) (base := base) A
  have g_law_take := A.g_law_take
  obtain ⟨fd_frame_octets, G_frame_octets, p_frame_octets, b_frame_octets⟩ := cal_frame_octets (P := P) (w := w) (base := base) A
  have g_frame_octets := A.g_frame_octets
  obtain ⟨fd_law_walk, G_law_walk, p_law_walk, b_law_walk⟩ := cal_law_walk (P := P) (w := w) (base := base) A
  have g_law_walk := A.g_law_walk
  obtain ⟨fd_law_bent, G_law_bent, p_law_bent, b_law_bent⟩ := cal_law_bent (P := P) (w := w) (base := base) A
  have g_law_bent := A.g_law_bent
  obtain ⟨fd_law_frame, G_law_frame, p_law_frame, b_law_frame⟩ := cal_law_frame (P := P) (w := w) (base := base) A
  have g_law_frame := A.g_law_frame
  obtain ⟨fd_law_setup, G_law_setup, p_law_setup, b_law_setup⟩ := cal_law_setup (P := P) (w := w) (base := base) A
  have g_law_setup := A.g_law_setup
  obtain ⟨fd_law_box, G_law_box, p_law_box, b_law_box⟩ := cal_law_box (P := P) (w := w) (base := base) A
  have g_law_box := A.g_law_box
  refine fn_of (k := 16) lk hcd sc_law (toSp_len (len_law T)) (fun A0 outer s H vs Q E hr h => ⟨_, PSs.nox ((pss_cons (ps_for PassesOwn.never rfl (pi_range1 (by rfl) A.b_range (pa_cons pe_int pa_nil)) (pg_name (i := 1) sc_law.nd rfl (Or.inl rfl)) (pss_cons (ps_set (i := 7) sc_law.nd rfl (Or.inr rfl) (pe_call G_law_box (hr.mono (by decide)) rfl g_law_box p_law_box b_law_box .nil pass0 (pa_cons (pv 0) (pa_cons (pv 1) pa_nil)))) (pss_cons (ps_set (i := 11) sc_law.nd rfl (Or.inr rfl) (pe_call G_law_setup (hr.mono (by decide)) rfl g_law_setup p_law_setup b_law_setup .nil pass0 (pa_cons (pv 7) pa_nil))) (pss_cons (ps_set (i := 8) sc_law.nd rfl (Or.inr rfl) (pe_call G_frame_octets (hr.mono (by decide)) rfl g_frame_octets p_frame_octets b_frame_octets .nil pass0 (pa_cons (pv 11) (pa_cons (pe_call G_law_frame (hr.mono (by decide)) rfl g_law_frame p_law_frame b_law_frame .nil pass0 (pa_cons (pv 7) (pa_cons (pv 11) pa_nil))) pa_nil)))) (pss_cons (ps_for PassesOwn.never rfl (pi_range1 (by rfl) A.b_range (pa_cons pe_int pa_nil)) (pg_name (i := 2) sc_law.nd rfl (Or.inl rfl)) (pss_cons (ps_set (i := 9) sc_law.nd rfl (Or.inr rfl) (pe_call G_law_bent (hr.mono (by decide)) rfl g_law_bent p_law_bent b_law_bent .nil pass0 (pa_cons (pv 7) (pa_cons (pv 11) (pa_cons (pv 8) pa_nil))))) (pss_cons (ps_asg (pe_call G_law_walk (hr.mono (by decide)) rfl g_law_walk p_law_walk b_law_walk .nil pass0 (pa_cons (pv 11) (pa_cons (pv 9) pa_nil))) (pg_tup (n := 2) rfl (pgs_cons (pg_name (i := 3) sc_law.nd rfl (Or.inl rfl)) (pgs_cons (pg_name (i := 4) sc_law.nd rfl (Or.inl rfl)) pgs_nil)))) (pss_cons (ps_if (pt_cmpR op_eq (pv 3) pe_int (nomark _)) (pss_one ps_continue) pss_nil) (pss_cons (ps_set (i := 5) sc_law.nd rfl (Or.inl rfl) (Rx.pe_lam1 (k := 13) rfl A.g_law_heard kpH lkH hcH bH sc_law_heard rfl (Or.inl rfl) (heard_gives A B) TB rfl (hr.mono (by decide)) (LamX.lamS_by (sc := defScope s_law) (by decide +kernel)) rfl (fun _ _ _ _ _ => rfl) (fun A1 o1 s1 H1 E1 f1 z1 hr => (pe_call G_frame_at (hr.mono (by decide)) rfl g_frame_at p_frame_at b_frame_at .nil (passes_call (takes_of rfl rfl rfl rfl) (fun _ _ _ _ h => h)) (pa_cons (pv 11) (pa_cons (pv 9) (pa_cons pe_int pa_nil))))))) (pss_one (ps_if (pt_cmp (pc_notN (pv 4))) (pss_cons (ps_if (pt_cmpR (op_neD (hu64 hr)) (pv 5) (pe_tup (pa_cons pe_str (pa_cons (pv 4) (pa_cons pe_bl pa_nil)))) (nomark _)) (pss_one (ps_ret pe_bl)) pss_nil) (pss_one (ps_if (pt_cmpR (op_neD (hu64 hr)) (Rx.pe_lam1 (k := 13) rfl A.g_law_heard kpH lkH hcH bH sc_law_heard rfl (Or.inl rfl) (heard_gives A B) TB rfl (hr.mono (by decide)) (LamX.lamS_by (sc := defScope s_law) (by decide +kernel)) rfl (fun _ _ _ _ _ => rfl) (fun A1 o1 s1 H1 E1 f1 z1 hr => (pe_call G_frame_at (hr.mono (by decide)) rfl g_frame_at p_frame_at b_frame_at .nil (passes_call (takes_of rfl rfl rfl rfl) (fun _ _ _ _ h => h)) (pa_cons (pv 11) (pa_cons (pe_op (Rx.op_catAK (K := K) rfl) (pe_tup (pa_cons pe_int pa_nil)) (pv 9)) (pa_cons pe_int pa_nil)))))) (pe_tup (pa_cons pe_str (pa_cons (pe_op op_add (pv 4) pe_int) (pa_cons pe_bl pa_nil)))) (nomark _)) (pss_one (ps_ret pe_bl)) pss_nil))) (pss_one (ps_if (PW.pt (pw_or (pt_cmpR op_ne (pe_ix ix_tup (pv 5) pe_int (fun _ _ => rfl)) pe_str (nomark _)) (pw_or (pt_cmpR op_ne (pe_ix ix_tup (pe_ix ix_tup (pv 5) pe_int (fun _ _ => rfl)) pe_int (fun _ _ => rfl)) (pv 3) (nomark _)) (pw_or1 (pt_cmpR (op_neD (hu64 hr)) (pe_call G_frame_octets (hr.mono (by decide)) rfl g_frame_octets p_frame_octets b_frame_octets .nil pass0 (pa_cons (pv 11) (pa_cons (pe_ix ix_tup (pe_ix ix_tup (pv 5) pe_int (fun _ _ => rfl)) pe_int (fun _ _ => rfl)) pa_nil))) (pe_slice sl_tupA (pv 9) po_none (po_some (pv 3))) (nomark _)))))) (pss_one (ps_ret pe_bl)) pss_nil))))))))) (pss_cons (ps_if (pt_cmpR (op_neD (hu64 hr)) (Rx.pe_lam1 (k := 13) rfl A.g_law_heard kpH lkH hcH bH sc_law_heard rfl (Or.inl rfl) (heard_gives A B) TB rfl (hr.mono (by decide)) (LamX.lamS_by (sc := defScope s_law) (by decide +kernel)) rfl (fun _ _ _ _ _ => rfl) (fun A1 o1 s1 H1 E1 f1 z1 hr => (pe_call G_frame_at (hr.mono (by decide)) rfl g_frame_at p_frame_at b_frame_at .nil (passes_call (takes_of rfl rfl rfl rfl) (fun _ _ _ _ h => h)) (pa_cons (pv 11) (pa_cons (pv 8) (pa_cons (pe_op op_add (pe_callB (Rx.call_lenK (K := K) rfl) (by rfl) A.b_len (by decide +kernel) (pa_cons (pv 8) pa_nil)) (pe_call G_law_take (hr.mono (by decide)) rfl g_law_take p_law_take b_law_take .nil pass0 (pa_cons (pv 7) (pa_cons pe_int pa_nil)))) pa_nil)))))) (pe_tup (pa_cons pe_str (pa_cons (pe_callB call_len_seq (by rfl) A.b_len (by decide +kernel) (pa_cons (pv 8) pa_nil)) (pa_cons pe_bl pa_nil)))) (nomark _)) (pss_one (ps_ret pe_bl)) pss_nil) (pss_cons (ps_set (i := 6) sc_law.nd rfl (Or.inr rfl) (pe_call G_law_pick (hr.mono (by decide)) rfl g_law_pick p_law_pick b_law_pick .nil pass0 (pa_cons (pv 7) (pa_cons (pe_lst (pa_cons (pe_op op_catA (pv 8) (pe_tup (pa_cons pe_int pa_nil))) (pa_cons (pe_op op_catA (pv 8) (pe_tup (pa_cons pe_non pa_nil))) (pa_cons (pe_op op_catA (pv 8) (pe_tup (pa_cons pe_bl pa_nil))) pa_nil)))) pa_nil)))) (pss_cons (ps_if (pt_cmpR (op_neD (hu64 hr)) (Rx.pe_lam1 (k := 13) rfl A.g_law_heard kpH lkH hcH bH sc_law_heard rfl (Or.inl rfl) (heard_gives A B) TB rfl (hr.mono (by decide)) (LamX.lamS_by (sc := defScope s_law) (by decide +kernel)) rfl (fun _ _ _ _ _ => rfl) (fun A1 o1 s1 H1 E1 f1 z1 hr => (pe_call G_frame_at (hr.mono (by decide)) rfl g_frame_at p_frame_at b_frame_at .nil (passes_call (takes_of rfl rfl rfl rfl) (fun _ _ _ _ h => h)) (pa_cons (pv 11) (pa_cons (pv 6) (pa_cons pe_non pa_nil)))))) (pe_tup (pa_cons pe_str (pa_cons (pe_callB call_len_seq (by rfl) A.b_len (by decide +kernel) (pa_cons (pv 8) pa_nil)) (pa_cons pe_bl pa_nil)))) (nomark _)) (pss_one (ps_ret pe_bl)) pss_nil) (pss_cons (ps_set (i := 10) sc_law.nd rfl (Or.inr rfl) (pe_call G_law_pick (hr.mono (by decide)) rfl g_law_pick p_law_pick b_law_pick .nil pass0 (pa_cons (pv 7) (pa_cons (pe_lst (pa_cons pe_non (pa_cons (pe_op op_sub pe_int pe_int) (pa_cons pe_bl (pa_cons pe_str pa_nil))))) pa_nil)))) (pss_cons (ps_if (pt_cmpR (op_neD (hu64 hr)) (Rx.pe_lam1 (k := 13) rfl A.g_law_heard kpH lkH hcH bH sc_law_heard rfl (Or.inl rfl) (heard_gives A B) TB rfl (hr.mono (by decide)) (LamX.lamS_by (sc := defScope s_law) (by decide +kernel)) rfl (fun _ _ _ _ _ => rfl) (fun A1 o1 s1 H1 E1 f1 z1 hr => (pe_call G_frame_at (hr.mono (by decide)) rfl g_frame_at p_frame_at b_frame_at .nil (passes_call (takes_of rfl rfl rfl rfl) (fun _ _ _ _ h => h)) (pa_cons (pv 11) (pa_cons (pv 8) (pa_cons (pv 10) pa_nil)))))) (pe_tup (pa_cons pe_str (pa_cons (pe_callB Rx.call_reprD (by rfl) A.b_repr (by decide +kernel) (pa_cons (pv 10) pa_nil)) (pa_cons pe_bl pa_nil)))) (nomark _)) (pss_one (ps_ret pe_bl)) pss_nil) (pss_one (ps_if (pt_cmpR (op_neD (hu64 hr)) (Rx.pe_lam1 (k := 13) rfl A.g_law_heard kpH lkH hcH bH sc_law_heard rfl (Or.inl rfl) (heard_gives A B) TB rfl (hr.mono (by decide)) (LamX.lamS_by (sc := defScope s_law) (by decide +kernel)) rfl (fun _ _ _ _ _ => rfl) (fun A1 o1 s1 H1 E1 f1 z1 hr => (pe_call G_frame_at (hr.mono (by decide)) rfl g_frame_at p_frame_at b_frame_at .nil (passes_call (takes_of rfl rfl rfl rfl) (fun _ _ _ _ h => h)) (pa_cons pe_non (pa_cons pe_non (pa_cons (pv 10) pa_nil)))))) (pe_tup (pa_cons pe_str (pa_cons (pe_op op_sub pe_int pe_int) (pa_cons pe_bl pa_nil)))) (nomark _)) (pss_one (ps_ret pe_bl)) pss_nil)))))))))))) (pss_one (ps_ret pe_bl)))), to_body h fun W xs rs P hf => ?_⟩)
  obtain ⟨ns, rfl, rfl, hP⟩ := hf
  change WS W _ [some (.scr ns), none, none, none, none, none, none, none, none, none, none, none] [tb T] _
  clear kpH bH lkH hcH Fh lk F hcd G_frame_at G_law_pick G_law_take G_frame_octets G_law_walk G_law_bent G_law_frame G_law_setup G_law_box b_frame_at b_law_pick b_law_take b_frame_octets b_law_walk b_law_bent b_law_frame b_law_setup b_law_box
  rfl'
  refine ws_for (Iv := fun i sl rs1 => ∃ q1 q2 q3 q4 q5 q6 q7 q8 q9 q10 q11 : Option DV, sl = [some (.scr ns), q1, q2, q3, q4, q5, q6, q7, q8, q9, q10, q11] ∧ ∃ junk, rs1 = junk ++ [tb T]) (xs := rgD 0 2) ?_ ?_ ?_
  · rfl'
    exact ⟨_, _, _, _, _, _, _, _, _, _, _, rfl, [], rfl⟩
  · rintro i d sl rs1 hd ⟨q1, q2, q3, q4, q5, q6, q7, q8, q9, q10, q11, rfl, junk, rfl⟩
    obtain ⟨hi, rfl⟩ := rgD_at hd
    rw [Int.zero_add]
    refine wg_name (ws_seq (ws_set (we_dropE ?_)))
    rfl'
    refine ⟨hi, fun a g s => ⟨[bx a g s, tb T], List.Sublist.cons_cons _ (List.sublist_append_right _ _), ?_⟩⟩
    rfl'
    intro g s su hs
    rfl'
    refine ⟨[_], _, .refl _, a, g, s, su, rfl, rfl, hs, fun g s f hf => ?_⟩
    rfl'
    refine ⟨hs, hf, ?_⟩
    have hl := len_frame hs.2.1 hf
    have ho := octs_frame hs hf
    clear hf
    generalize wrFrame su f = form at hl ho ⊢
    rfl'
    refine ws_for (Iv := fun j sl rs1 => ∃ (g s : Int) (q2 q3 q4 q5 q9 : Option DV), sl = [some (.scr ns), some (.d (nD i)), q2, q3, q4, q5, q6, some (.p a), some (.d (octD form)), q9, q10, some (.d (suD su))] ∧ rs1 = [bx a g s, tb T]) (xs := rgD 0 5) ?_ ?_ ?_
    · rfl'
      exact ⟨_, _, _, _, _, _, _, rfl, rfl⟩
    · rintro j d sl rs1 hd ⟨g, s, q2, q3, q4, q5, q9, rfl, rfl⟩
      rfl'
      refine ⟨[_], _, .refl _, a, g, s, su, form, rfl, rfl, hs, ho, hl, fun g s os hos hosl => ?_⟩
      rfl'
      refine ⟨hs, hos, ?_⟩
      rcases walk_cases (su := su) hos with ⟨f, e, e2, fit⟩ | ⟨fr, q, e, e2, fit⟩ | e
      · rw [e]
        rfl'
        refine ite_F rfl ?_
        rfl'
        refine we_dropE (we_heard B (i := 1) rfl fun E2 W2 hX => ?_)
        rfl'
        refine .inl ⟨su, os, 0, rfl, hs, hos, fit, ?_⟩
        rw [e2]
        intro rs'
        show W2.X _ _ _
        rw [hX]
        refine .inl ⟨rfl, [bx a g s, tb T], List.sublist_append_right _ _, ?_⟩
        rfl'
        refine ite_T rfl ?_
        rfl'
        refine ⟨(told_sh (n := 1) ok_b (sh_nD _)).s, (told_sh (n := 1) ok_b (sh_nD _)).s, ?_⟩
        refine ⟨_, rfl, ite_F (ne_self (told_sh (n := 1) ok_b (sh_nD _)).s) ?_⟩
        rfl'
        refine we_dropE (we_heard B (i := 1) rfl fun E2 W2 hX => ?_)
        rfl'
        refine ⟨by rw [List.length_map]; show 1 + _ ≤ _; omega, ?_⟩
        rfl'
        refine .inl ⟨su, 7 :: os, 0 + 1, rfl, hs, octs_app (a := [7]) (fun o h => by rw [List.mem_singleton.mp h]; decide) hos, fit_up fit, ?_⟩
        rw [rdFrame_up, e2]
        intro rs'
        show W2.X _ _ _
        rw [hX]
        refine .inl ⟨rfl, [bx a g s, tb T], List.sublist_append_right _ _, ?_⟩
        rfl'
        refine ⟨(told_sh (n := 1) ok_b (sh_nD _)).s, (told_sh (n := 1) ok_b (sh_int _)).s, ?_⟩
        have e4 : PyData.int ((f : Int) + 1) = nD (f + 1) := rfl
        rw [e4]
        refine ⟨_, rfl, ite_F (ne_self (told_sh (n := 1) ok_b (sh_nD _)).s) ?_⟩
        rfl'
        exact ⟨g, s, _, _, _, _, _, rfl, rfl⟩
      · rw [e]
        rfl'
        refine ite_both (fun _ => ?_) (fun _ => ?_)
        · rfl'
          exact ⟨g, s, _, _, _, _, _, rfl, rfl⟩
        rfl'
        refine we_dropE (we_heard B (i := 1) rfl fun E2 W2 hX => ?_)
        rfl'
        refine .inl ⟨su, os, 0, rfl, hs, hos, fit, ?_⟩
        rw [e2]
        refine ⟨_, rfl, _, List.Sublist.refl _, ?_⟩
        obtain ⟨fok, hw⟩ := rdFrame_wr hos hs fit e2
        have hw := wr_take hw
        rfl'
        refine ite_F rfl ?_
        rfl'
        refine ite_F (by simp [deq]) ?_
        rfl'
        refine ite_F (by simp [deq]) ?_
        rfl'
        refine ⟨hs, fok, ?_⟩
        rfl'
        have e5 : PyData.tuple (cutD (os.map nD) none (some (q : Int))) = octD (wrFrame su fr) := by
          rw [cutD_take (by omega), Int.toNat_natCast, ← List.map_take, ← hw]
          rfl
        rw [e5]
        refine ⟨(sh_oct _).s, (sh_oct _).s, _, rfl, ite_F (ne_self (sh_oct _).s) ?_⟩
        rfl'
        exact ⟨g, s, _, _, _, _, _, rfl, rfl⟩
      · rw [e]
        rfl'
        refine ite_T rfl ?_
        rfl'
        exact ⟨g, s, _, _, _, _, _, rfl, rfl⟩
    · rintro sl rs1 ⟨g, s, q2, q3, q4, q5, q9, rfl, rfl⟩
      rfl'
      refine we_dropE (we_heard B (i := 1) rfl fun E2 W2 hX => ?_)
      rfl'
      intro g s k hk
      have hk : k < 3 := hk
      rw [List.length_map]
      rfl'
      refine .inl ⟨su, form, form.length + k, rfl, hs, ho, fit_far (by omega), ?_⟩
      rw [rdFrame_far (by omega)]
      intro rs'
      show W2.X _ _ _
      rw [hX]
      refine .inl ⟨rfl, [bx a g s, tb T], List.sublist_append_right _ _, ?_⟩
      rfl'
      rw [List.length_map]
      refine ⟨(told_sh (n := 1) ok_b (sh_nD _)).s, (told_sh (n := 1) ok_b (sh_nD _)).s, _, rfl, ite_F (ne_self (told_sh (n := 1) ok_b (sh_nD _)).s) ?_⟩
      rfl'
      refine ⟨by rw [List.length_map]; show _ + 1 ≤ _; omega, ?_⟩
      rfl'
      refine ⟨by rw [List.length_map]; show _ + 1 ≤ _; omega, ?_⟩
      rfl'
      refine ⟨by rw [List.length_map]; show _ + 1 ≤ _; omega, ?_⟩
      rfl'
      intro g s z hz
      obtain ⟨bad, hb, rfl⟩ : ∃ bad, isBelow bad 256 = false ∧ z = badD form bad := by
        simp only [List.mem_cons, List.not_mem_nil, or_false] at hz
        rcases hz with rfl | rfl | rfl
        · exact ⟨_, by decide, rfl⟩
        · exact ⟨_, by decide, rfl⟩
        · exact ⟨_, by decide, rfl⟩
      clear hz
      rfl'
      refine we_dropE (we_heard B (i := 1) rfl fun E2 W2 hX => ?_)
      rfl'
      refine .inr (.inr (.inl ⟨su, form, bad, .none, rfl, hs, ho, hb, fun rs' => ?_⟩))
      show W2.X _ _ _
      rw [hX]
      refine .inr (.inl ⟨rfl, [bx a g s, tb T], List.sublist_append_right _ _, ?_⟩)
      rfl'
      rw [List.length_map]
      refine ⟨(told_sh (n := 1) ok_o (sh_nD _)).s, (told_sh (n := 1) ok_o (sh_nD _)).s, _, rfl, ite_F (ne_self (told_sh (n := 1) ok_o (sh_nD _)).s) ?_⟩
      rfl'
      intro g s z hz
      obtain ⟨r, hn, hr, hk⟩ : ∃ r, isNum z = false ∧ repD z = some r ∧ PyData.strOk r = true := by
        simp only [List.mem_cons, List.not_mem_nil, or_false] at hz
        rcases hz with rfl | rfl | rfl | rfl
        · exact ⟨_, rfl, rfl, by decide +kernel⟩
        · exact ⟨_, rfl, by unfold repD; exact if_pos (by decide), by decide +kernel⟩
        · exact ⟨_, rfl, rfl, by decide +kernel⟩
        · exact ⟨_, rfl, by unfold repD; exact if_pos (by decide +kernel), by decide +kernel⟩
      clear hz
      rfl'
      refine we_dropE (we_heard B (i := 1) rfl fun E2 W2 hX => ?_)
      rfl'
      refine .inr (.inr (.inr ⟨su, form, z, rfl, hs, ho, hn, fun rs' => ?_⟩))
      show W2.X _ _ _
      rw [hX]
      refine .inr (.inr (.inl ⟨rfl, r, hr, [bx a g s, tb T], List.sublist_append_right _ _, ?_⟩))
      rfl'
      refine ⟨z, r, rfl, hr, ?_⟩
      rfl'
      refine ⟨(told_sh (n := 1) ok_r (sh_str _ hk)).s, (told_sh (n := 1) ok_r (sh_str _ hk)).s, _, rfl, ite_F (ne_self (told_sh (n := 1) ok_r (sh_str _ hk)).s) ?_⟩
      rfl'
      refine we_dropE (we_heard B (i := 1) rfl fun E2 W2 hX => ?_)
      rfl'
      refine .inr (.inl ⟨_, _, rfl, fun rs' => ?_⟩)
      show W2.X _ _ _
      rw [hX]
      refine .inr (.inr (.inr ⟨rfl, [bx a g s, tb T], List.sublist_append_right _ _, ?_⟩))
      rfl'
      refine ⟨(told_sh (n := 1) ok_s (sh_int _)).s, (told_sh (n := 1) ok_s (sh_int _)).s, _, rfl, ite_F (ne_self (told_sh (n := 1) ok_s (sh_int _)).s) ?_⟩
      rfl'
      exact ⟨_, _, _, _, _, _, _, _, _, _, _, rfl, [bx a g s], rfl⟩
  · rintro sl rs1 ⟨q1, q2, q3, q4, q5, q6, q7, q8, q9, q10, q11, rfl, junk, rfl⟩
    rfl'
    exact hP _
end
end Fw
end
set_option Elab.async false
set_option autoImplicit false
set_option linter.all false
set_option maxRecDepth 100000
set_option maxHeartbeats 0
/-! Z: the end. -/
namespace Hx
open PySem PySem.Spec PyProof.Rows L2 Dl Fw
/-- at law's call: the script is frozen, the table may grow -/
theorem law_sp {K : Fr} {H : Hp} {a T : Addr} {ns : List Int} (hT : H T = some (.tbl #[])) (hS : SqL K H a (ns.map V.int)) : toSp K (Fw.d_law T) [.ref a] H (fun v _ => v = .bl true) fun _ _ _ => False := by
  let F : Hp := fun b => match H b with
    | some (.tbl _) => none
    | o => o
  have up : ∀ b o, F b = some o → H b = some o := fun b o e => by
    have e : (match H b with
      | some (.tbl _) => none
      | o => o) = some o := e
    split at e
    · cases e
    · exact e
  have fz : ∀ b o, H b = some o → (∀ q, o ≠ .tbl q) → F b = some o := fun b o e n => by
    show (match H b with
      | some (.tbl _) => none
      | o => o) = some o
    rw [e]
    cases o with
    | tbl q => exact (n q rfl).elim
    | _ => rfl
  have fT : F T = none := by
    show (match H T with
      | some (.tbl _) => none
      | o => o) = none
    rw [hT]
  have hF : SqL K F a (ns.map V.int) := by
    rcases hS with (h | ⟨o, h⟩) | h
    · exact .inl (.inl (fz _ _ h fun _ z => nomatch z))
    · exact .inl (.inr ⟨o, fz _ _ h fun _ z => nomatch z⟩)
    · exact .inr h
  refine ⟨F, [.scr ns], [tb T], fun dv _ => dv = .d (.bool true), fun _ _ _ => False, ⟨up, fun i dv e => by simp at e, rfl, fun q hq => ?_, by simp⟩, .cons ⟨a, rfl, hF⟩ .nil, ⟨ns, rfl, rfl, fun _ => rfl⟩, fun F' H' v dv rs' _ _ iv e => ?_, fun _ _ _ _ _ _ _ _ _ z => z.elim⟩
  · rw [List.mem_singleton.mp hq]
    refine ⟨fT, #[], hT, True.intro, fun pos cv hc => ?_⟩
    have z : codeAmong pos [] = some cv := hc
    simp [codeAmong] at z
  · subst e
    exact is_bl iv
theorem law_at (w : World) (mg : Str → Option Value) (fa : Addr) (h : Heap) (Y : hk.says w h) (G : h.Ns mainGlobals mg) (hm : mg ("law" : Str) = some (.ref fa)) : ∃ K : Fr, K.In h ∧ LamX.LawAtS PySem.Challenge.rw_farstory_k23_whole_where_no_frame_goes_o w K CX0 17 63 "_law_script" mg fa h := by
  obtain ⟨K, X, c⟩ := Y
  have A := fs X G c
  have B := fe X G c
  obtain ⟨fd, F⟩ := A.f_law
  cases hm.symm.trans A.g_law
  refine ⟨K, X, fd, [lawT K], toSp K (Fw.d_law (lawT K).2), ?_, ?_, ?_, ?_, ?_, ?_⟩
  · intro p hp
    rw [List.mem_singleton.mp hp]
    exact c.nil
  · intro p hp
    rw [List.mem_singleton.mp hp]
    exact c.out
  · intro p hp
    rw [List.mem_singleton.mp hp]
    exact PySem.W.codeHd_of_K X c.hd
  · exact fun s u => FunD.bindsA (ps := ["_law_script"]) F (fun _ _ _ _ _ _ us hl => match us, hl with | [_], _ => rfl) s [u] rfl
  · intro H a ns _ _ hH hS
    exact law_sp (hH _ (List.mem_singleton.mpr rfl)) hS
  · intro base _ _ hB
    exact law_ok (P := pg) (w := w) A B F rfl (hB _ (List.mem_singleton.mpr rfl))
end Hx
open PySem PySem.W PySem.Calls PyProof.Rows
theorem PySem.Challenge.cw_farstory_k23_whole_where_no_frame_goes_o_holds : PySem.Challenge.rw_farstory_k23_whole_where_no_frame_goes_o.Holds := by
  refine Hx.by_call (LamX.walk_ofTsE (l := PySem.Challenge.rw_farstory_k23_whole_where_no_frame_goes_o) (n := 63) (k := 17) (x := "_law_script") (CX := fun _ => L2.CX0) rfl (by decide) Hx.no_dfl ⟨rfl, by decide, by decide⟩ ?F (fun _ _ _ _ _ z => z))
  intro w mg fa h Y G hm
  refine Hx.law_at w mg fa h Y G ?_
  rw [← Hx.nm_law]
  exact hm
