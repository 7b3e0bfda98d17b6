import PyProof.Rows.All
import Wide.All
import OpenK.AllK
import Wide.FinOn
import HandS.ForMost
import HandS.TupAny
import HandS.Style
import HandS.Text
import HandS.Codes
import HandS.RaiseMore
import HandS.TupMul
import HandS.Dict
import HandS.Wide
import KE.DataMinMax
import HandS.SetFor
import HandS.Strs
import HandS.SortInts
import PyProof.Rows.EqBoolInt
import HandS.IsInst
import HandS.Conv
import HandS.Zip
import KE.GoesMore
import HandS.Defaults
import HandS.HeadHook2
import HandS.Ends
import HandS.More
import HandS.Words
import HandS.Head0
import HandS.Head1
import HandS.Head2
import HandS.HeadEnd
import HandS.HeadHook1
import PySem.Challenge.RW_coinchutes_k03_whole_places_and_shares_o
set_option Elab.async false
set_option linter.all false
set_option maxRecDepth 100000
set_option maxHeartbeats 4000000
namespace CC
open PySem PySem.Spec PyProof.Rows L2
abbrev D := PyData
/-! ### data without lists -/
mutual
def td : D → Bool
  | .none => true
  | .bool _ => true
  | .int _ => true
  | .str _ => true
  | .list _ => false
  | .dict _ => false
  | .tuple ds => tdA ds
def tdA : List D → Bool
  | [] => true
  | d :: ds => td d && tdA ds
end
theorem tdA_append : ∀ xs ys : List D, tdA (xs ++ ys) = (tdA xs && tdA ys)
  | [], _ => by simp [tdA]
  | x :: xs, ys => by
    show (td x && tdA (xs ++ ys)) = _
    rw [tdA_append xs ys, tdA, Bool.and_assoc]
abbrev HZ : Hp := fun _ => none
/-! ### dicts of ints by ints -/
def dkV (kvs : List (Int × Int)) : List (Key × V) := kvs.map fun p => ((.inl p.1 : Key), V.int p.2)
def dkD (kvs : List (Int × Int)) : List (D × D) := kvs.map fun p => (.int p.1, .int p.2)
/-! ### no dict within -/
mutual
def ndl : D → Bool
  | .dict _ => false
  | .list ds => ndlA ds
  | .tuple ds => ndlA ds
  | _ => true
def ndlA : List D → Bool
  | [] => true
  | d :: ds => ndl d && ndlA ds
end
mutual
theorem ndl_of : ∀ d : D, PyData.canLay0 d = true → ndl d = true
  | .none, _ => rfl
  | .bool _, _ => rfl
  | .int _, _ => rfl
  | .str _, _ => rfl
  | .list ds, h => by show ndlA ds = true; exact ndlA_of ds (by simpa [PyData.canLay0] using h)
  | .tuple ds, h => by show ndlA ds = true; exact ndlA_of ds (by simpa [PyData.canLay0] using h)
  | .dict _, h => by simp [PyData.canLay0] at h
theorem ndlA_of : ∀ ds : List D, PyData.canLayAll0 ds = true → ndlA ds = true
  | [], _ => rfl
  | d :: ds, h => by
    have h : PyData.canLay0 d = true ∧ PyData.canLayAll0 ds = true := by simpa [PyData.canLayAll0] using h
    show (ndl d && ndlA ds) = true
    rw [ndl_of d h.1, ndlA_of ds h.2]; rfl
end
theorem ndl_shaped {d : D} (h : SeqAt.shaped d = true) : ndl d = true := ndl_of d (SeqAt.canLay_of_shaped h)
theorem ndlA_map {α : Type} {enc : α → D} (h : ∀ a, ndl (enc a) = true) : ∀ xs : List α, ndlA (xs.map enc) = true
  | [] => rfl
  | x :: r => by show (ndl (enc x) && ndlA (r.map enc)) = true; rw [h x, ndlA_map h r]; rfl
/-! ### what a value is as data; W: the addresses that it keeps clear of -/
mutual
inductive Rp (K : PySem.W.Frag) (W : List Addr) (H : Hp) : V → D → Prop
  | non : Rp K W H .non .none
  | bl (b : Bool) : Rp K W H (.bl b) (.bool b)
  | int (i : Int) : Rp K W H (.int i) (.int i)
  | str (x : Str) : Rp K W H (.str x) (.str x)
  | lst {a : Addr} {xs : List V} {ds : List D} : ((Rd H a (.lst xs) ∧ a ∉ W) ∨ SqL K HZ a xs) → xs.length ≤ sizeLine → RpA K W H xs ds → Rp K W H (.ref a) (.list ds)
  | tup {a : Addr} {xs : List V} {ds : List D} : ((Rd H a (.tup xs) ∧ a ∉ W) ∨ SqT K HZ a xs) → xs.length ≤ sizeLine → RpA K W H xs ds → Rp K W H (.ref a) (.tuple ds)
  | dct {a : Addr} {kvs : List (Int × Int)} : H a = some (.dK (dkV kvs)) → a ∉ W → Rp K W H (.ref a) (.dict (dkD kvs))
inductive RpA (K : PySem.W.Frag) (W : List Addr) (H : Hp) : List V → List D → Prop
  | nil : RpA K W H [] []
  | cons {v : V} {vs : List V} {d : D} {ds : List D} : Rp K W H v d → RpA K W H vs ds → RpA K W H (v :: vs) (d :: ds)
end
theorem rd_none {a : Addr} {u : HO} (h : Rd HZ a u) : False := by
  rcases h with h | ⟨_, h⟩ <;> cases h
theorem sqL_of {K : PySem.W.Frag} {W : List Addr} {H : Hp} {a : Addr} {xs : List V} (h : (Rd H a (.lst xs) ∧ a ∉ W) ∨ SqL K HZ a xs) : SqL K H a xs := by
  rcases h with h | h | h
  · exact .inl h.1
  · exact (rd_none h).elim
  · exact .inr h
theorem sqT_of {K : PySem.W.Frag} {W : List Addr} {H : Hp} {a : Addr} {xs : List V} (h : (Rd H a (.tup xs) ∧ a ∉ W) ∨ SqT K HZ a xs) : SqT K H a xs := by
  rcases h with h | h | h
  · exact .inl h.1
  · exact (rd_none h).elim
  · exact .inr h
section
variable {K : PySem.W.Frag} {W W' : List Addr} {H H' : Hp}
theorem RpA.length : ∀ {vs : List V} {ds : List D}, RpA K W H vs ds → vs.length = ds.length
  | _, _, .nil => rfl
  | _, _, .cons _ t => by rw [List.length_cons, List.length_cons, t.length]
theorem RpA.get : ∀ {vs : List V} {ds : List D} {i : Nat} {d : D}, RpA K W H vs ds → ds[i]? = some d → ∃ v, vs[i]? = some v ∧ Rp K W H v d
  | _, _, _, _, .nil, e => by simp at e
  | _, _, 0, _, .cons r _, e => by simp at e; subst e; exact ⟨_, rfl, r⟩
  | _, _, i + 1, d, .cons _ t, e => by
    obtain ⟨u, h1, h2⟩ := RpA.get (i := i) (d := d) t (by simpa using e)
    exact ⟨u, by simpa using h1, h2⟩
theorem RpA.get' : ∀ {vs : List V} {ds : List D} {i : Nat} {v : V}, RpA K W H vs ds → vs[i]? = some v → ∃ d, ds[i]? = some d ∧ Rp K W H v d
  | _, _, _, _, .nil, e => by simp at e
  | _, _, 0, _, .cons r _, e => by simp at e; subst e; exact ⟨_, rfl, r⟩
  | _, _, i + 1, d, .cons _ t, e => by
    obtain ⟨u, h1, h2⟩ := RpA.get' (i := i) (v := d) t (by simpa using e)
    exact ⟨u, by simpa using h1, h2⟩
theorem RpA.append : ∀ {xs ys : List V} {ds es : List D}, RpA K W H xs ds → RpA K W H ys es → RpA K W H (xs ++ ys) (ds ++ es)
  | _, _, _, _, .nil, s => s
  | _, _, _, _, .cons r t, s => .cons r (RpA.append t s)
theorem RpA.take : ∀ {xs : List V} {ds : List D} (n : Nat), RpA K W H xs ds → RpA K W H (xs.take n) (ds.take n)
  | _, _, 0, _ => by simp; exact .nil
  | _, _, _ + 1, .nil => by simp; exact .nil
  | _, _, n + 1, .cons r t => by simp; exact .cons r (RpA.take n t)
theorem RpA.drop : ∀ {xs : List V} {ds : List D} (n : Nat), RpA K W H xs ds → RpA K W H (xs.drop n) (ds.drop n)
  | _, _, 0, r => by simpa using r
  | _, _, _ + 1, .nil => by simp; exact .nil
  | _, _, n + 1, .cons _ t => by simp; exact RpA.drop n t
theorem RpA.reverse : ∀ {xs : List V} {ds : List D}, RpA K W H xs ds → RpA K W H xs.reverse ds.reverse
  | _, _, .nil => by simp; exact .nil
  | _, _, .cons r t => by
    rw [List.reverse_cons, List.reverse_cons]
    exact t.reverse.append (.cons r .nil)
mutual
theorem Rp.mono (hw : ∀ a ∈ W', a ∈ W) : ∀ {v : V} (d : D), Rp K W H v d → Rp K W' H v d
  | _, .none, h => by cases h; exact .non
  | _, .bool _, h => by cases h; exact .bl _
  | _, .int _, h => by cases h; exact .int _
  | _, .str _, h => by cases h; exact .str _
  | _, .list ds, h => by
    cases h with
    | lst q z t => exact .lst (q.imp (fun q => ⟨q.1, fun m => q.2 (hw _ m)⟩) id) z (RpA.mono hw ds t)
  | _, .tuple ds, h => by
    cases h with
    | tup q z t => exact .tup (q.imp (fun q => ⟨q.1, fun m => q.2 (hw _ m)⟩) id) z (RpA.mono hw ds t)
  | _, .dict _, h => by cases h with | dct q n => exact .dct q fun m => n (hw _ m)
theorem RpA.mono (hw : ∀ a ∈ W', a ∈ W) : ∀ {vs : List V} (ds : List D), RpA K W H vs ds → RpA K W' H vs ds
  | _, [], h => by cases h; exact .nil
  | _, d :: ds, h => by
    cases h with
    | cons r t => exact .cons (Rp.mono hw d r) (RpA.mono hw ds t)
end
/-- what is tracked and not in W is as it was; what was tracked is tracked -/
structure Ext (W : List Addr) (H H' : Hp) : Prop where
  keep : ∀ a o, a ∉ W → H a = some o → H' a = some o
  here : ∀ a, H a ≠ none → H' a ≠ none
theorem Ext.refl (W : List Addr) (H : Hp) : Ext W H H := ⟨fun _ _ _ h => h, fun _ h => h⟩
theorem Ext.trans {H1 H2 H3 : Hp} (a : Ext W H1 H2) (b : Ext W H2 H3) : Ext W H1 H3 := ⟨fun c o n h => b.keep c o n (a.keep c o n h), fun c h => b.here c (a.here c h)⟩
theorem Ext.mono {H1 H2 : Hp} (a : Ext W H1 H2) (h : ∀ x ∈ W, x ∈ W') : Ext W' H1 H2 := ⟨fun c o n e => a.keep c o (fun m => n (h c m)) e, a.here⟩
theorem Ext.none {H1 H2 : Hp} (a : Ext W H1 H2) {b : Addr} (h : H2 b = .none) : H1 b = .none := by
  cases e : H1 b with
  | none => rfl
  | some o => exact absurd h (a.here b (by rw [e]; exact fun z => nomatch z))
theorem Ext.new {p : Addr} {o : HO} (h : H p = Option.none) : Ext W H (upd H p o) :=
  ⟨fun a u _ e => by rw [upd_ne (ne_of_none e h)]; exact e, fun a e => by
    by_cases q : a = p
    · subst q; rw [upd_same]; exact fun z => nomatch z
    · rw [upd_ne q]; exact e⟩
theorem Ext.put {p : Addr} {o : HO} (h : p ∈ W) : Ext W H (upd H p o) :=
  ⟨fun a u n e => by rw [upd_ne (fun q => n (by rw [q]; exact h))]; exact e, fun a e => by
    by_cases q : a = p
    · subst q; rw [upd_same]; exact fun z => nomatch z
    · rw [upd_ne q]; exact e⟩
theorem rd_ext {a : Addr} {u : HO} (e : Ext W H H') (h : Rd H a u) (n : a ∉ W) : Rd H' a u := by
  rcases h with h | ⟨o, h⟩
  · exact .inl (e.keep _ _ n h)
  · exact .inr ⟨o, e.keep _ _ n h⟩
mutual
theorem Rp.ext (e : Ext W' H H') (hw : ∀ a ∈ W', a ∈ W) : ∀ {v : V} (d : D), Rp K W H v d → Rp K W H' v d
  | _, .none, h => by cases h; exact .non
  | _, .bool _, h => by cases h; exact .bl _
  | _, .int _, h => by cases h; exact .int _
  | _, .str _, h => by cases h; exact .str _
  | _, .list ds, h => by
    cases h with
    | lst q z t => exact .lst (q.imp (fun q => ⟨rd_ext e q.1 fun m => q.2 (hw _ m), q.2⟩) id) z (RpA.ext e hw ds t)
  | _, .tuple ds, h => by
    cases h with
    | tup q z t => exact .tup (q.imp (fun q => ⟨rd_ext e q.1 fun m => q.2 (hw _ m), q.2⟩) id) z (RpA.ext e hw ds t)
  | _, .dict _, h => by cases h with | dct q n => exact .dct (e.keep _ _ (fun m => n (hw _ m)) q) n
theorem RpA.ext (e : Ext W' H H') (hw : ∀ a ∈ W', a ∈ W) : ∀ {vs : List V} (ds : List D), RpA K W H vs ds → RpA K W H' vs ds
  | _, [], h => by cases h; exact .nil
  | _, d :: ds, h => by
    cases h with
    | cons r t => exact .cons (Rp.ext e hw d r) (RpA.ext e hw ds t)
end
/-- the addresses of W hold what is no tuple -/
def NoTup (W : List Addr) (H : Hp) : Prop := ∀ a ∈ W, H a ≠ none ∧ ∀ xs, ¬ Rd H a (.tup xs)
theorem NoTup.ext (e : Ext W' H H') (h : NoTup W H) (k : ∀ a ∈ W, a ∈ W' → ∀ xs, ¬ Rd H' a (.tup xs)) : NoTup W H' := fun a m => ⟨e.here a (h a m).1, fun xs r => by
  by_cases q : a ∈ W'
  · exact k a m q xs r
  · cases z : H a with
    | none => exact (h a m).1 z
    | some o =>
      have z' := e.keep a o q z
      rcases r with r | ⟨ob, r⟩
      · rw [z'] at r; cases r; exact (h a m).2 xs (.inl z)
      · rw [z'] at r; cases r; exact (h a m).2 xs (.inr ⟨ob, z⟩)⟩
theorem NoTup.mono (h : NoTup W H) (hw : ∀ a ∈ W', a ∈ W) : NoTup W' H := fun a m => h a (hw a m)
theorem NoTup.append (h : NoTup W H) (h' : NoTup W' H) : NoTup (W ++ W') H := fun a m => (List.mem_append.mp m).elim (h a) (h' a)
mutual
/-- data without lists keep clear of all that is no tuple -/
theorem Rp.td (n : NoTup W' H) : ∀ {v : V} (d : D), td d = true → Rp K W H v d → Rp K W' H v d
  | _, .none, _, h => by cases h; exact .non
  | _, .bool _, _, h => by cases h; exact .bl _
  | _, .int _, _, h => by cases h; exact .int _
  | _, .str _, _, h => by cases h; exact .str _
  | _, .list ds, z, _ => by simp [CC.td] at z
  | _, .tuple ds, z, h => by
    cases h with
    | tup q z' t => exact .tup (q.imp (fun q => ⟨q.1, fun m => (n _ m).2 _ q.1⟩) id) z' (RpA.td n ds (by simpa [CC.td] using z) t)
  | _, .dict _, z, _ => by simp [CC.td] at z
theorem RpA.td (n : NoTup W' H) : ∀ {vs : List V} (ds : List D), tdA ds = true → RpA K W H vs ds → RpA K W' H vs ds
  | _, [], _, h => by cases h; exact .nil
  | _, d :: ds, z, h => by
    have z' : CC.td d = true ∧ tdA ds = true := by simpa [CC.tdA] using z
    cases h with
    | cons r t => exact .cons (Rp.td n d z'.1 r) (RpA.td n ds z'.2 t)
end
mutual
/-- .. and of what is new -/
theorem Rp.clear {p : Addr} (n : H p = none) : ∀ {v : V} (d : D), Rp K W H v d → Rp K (p :: W) H v d
  | _, .none, h => by cases h; exact .non
  | _, .bool _, h => by cases h; exact .bl _
  | _, .int _, h => by cases h; exact .int _
  | _, .str _, h => by cases h; exact .str _
  | _, .list ds, h => by
    cases h with
    | lst q z t =>
      refine .lst (q.imp (fun q => ⟨q.1, fun m => ?_⟩) id) z (RpA.clear n ds t)
      rcases List.mem_cons.mp m with e | m
      · subst e
        rcases q.1 with r | ⟨o, r⟩ <;> (rw [n] at r; cases r)
      · exact q.2 m
  | _, .tuple ds, h => by
    cases h with
    | tup q z t =>
      refine .tup (q.imp (fun q => ⟨q.1, fun m => ?_⟩) id) z (RpA.clear n ds t)
      rcases List.mem_cons.mp m with e | m
      · subst e
        rcases q.1 with r | ⟨o, r⟩ <;> (rw [n] at r; cases r)
      · exact q.2 m
  | _, .dict _, h => by
    cases h with
    | dct q n' =>
      refine .dct q fun m => ?_
      rcases List.mem_cons.mp m with e | m
      · subst e
        rw [n] at q; cases q
      · exact n' m
theorem RpA.clear {p : Addr} (n : H p = none) : ∀ {vs : List V} (ds : List D), RpA K W H vs ds → RpA K (p :: W) H vs ds
  | _, [], h => by cases h; exact .nil
  | _, d :: ds, h => by
    cases h with
    | cons r t => exact .cons (Rp.clear n d r) (RpA.clear n ds t)
end
mutual
theorem Rp.dp : ∀ {v : V} (d : D), ndl d = true → Rp K W H v d → Dp K H v d
  | _, .none, _, h => by cases h; exact .non
  | _, .bool _, _, h => by cases h; exact .bl _
  | _, .int _, _, h => by cases h; exact .int _
  | _, .str _, _, h => by cases h; exact .str _
  | _, .list ds, nd, h => by
    cases h with
    | lst q z t => exact .lst (sqL_of q) (RpA.dp ds nd t)
  | _, .tuple ds, nd, h => by
    cases h with
    | tup q z t => exact .tup (sqT_of q) (RpA.dp ds nd t)
  | _, .dict _, nd, h => by cases nd
theorem RpA.dp : ∀ {vs : List V} (ds : List D), ndlA ds = true → RpA K W H vs ds → DpAll K H vs ds
  | _, [], _, h => by cases h; exact .nil
  | _, d :: ds, nd, h => by
    have nd : (ndl d && ndlA ds) = true := nd
    rw [Bool.and_eq_true] at nd
    cases h with
    | cons r t => exact .cons (Rp.dp d nd.1 r) (RpA.dp ds nd.2 t)
end
theorem Rp.newLst {p : Addr} {vs : List V} {ds : List D} (n : H p = none) (z : vs.length ≤ sizeLine) (nw : p ∉ W) (r : RpA K W H vs ds) : Rp K W (upd H p (.lst vs)) (.ref p) (.list ds) :=
  .lst (.inl ⟨.inl upd_same, nw⟩) z (RpA.ext (Ext.new (W := W) n) (fun _ m => m) ds r)
theorem Rp.newTup {p : Addr} {vs : List V} {ds : List D} (n : H p = none) (z : vs.length ≤ sizeLine) (nw : p ∉ W) (r : RpA K W H vs ds) : Rp K W (upd H p (.tup vs)) (.ref p) (.tuple ds) :=
  .tup (.inl ⟨.inl upd_same, nw⟩) z (RpA.ext (Ext.new (W := W) n) (fun _ m => m) ds r)
theorem NoTup.free {p : Addr} (h : NoTup W H) (n : H p = none) : p ∉ W := fun m => (h p m).1 n
end
/-! ### slots -/
/-- a thing that changes: a list of data without lists, or the bag of a law's draws (two ints) -/
inductive Cl
  | lst (ds : List D)
  | bag
  | dk (kvs : List (Int × Int))
inductive Sl
  | un
  | dat (d : D)
  | cell (a : Addr) (c : Cl)
abbrev SEnv := List Sl
def BagV (x y : Int) : Prop := 0 ≤ x ∧ 0 ≤ y ∧ y < 2147483179
def ClR (K : PySem.W.Frag) (W : List Addr) (H : Hp) (a : Addr) : Cl → Prop
  | .lst ds => ∃ vs, H a = some (.lst vs) ∧ vs.length ≤ sizeLine ∧ RpA K W H vs ds ∧ tdA ds = true
  | .bag => ∃ x y, H a = some (.lst [.int x, .int y]) ∧ BagV x y
  | .dk kvs => H a = some (.dK (dkV kvs))
def SlR (K : PySem.W.Frag) (W : List Addr) (H : Hp) (v : Option V) : Sl → Prop
  | .un => True
  | .dat d => ∃ u, v = some u ∧ Rp K W H u d
  | .cell a c => v = some (.ref a) ∧ ClR K W H a c
def slA : Sl → List Addr
  | .cell a _ => [a]
  | _ => []
def slX : Sl → List Addr
  | .cell a .bag => [a]
  | _ => []
/-- the addresses of all cells; of those that an expression may change -/
def cellA (ρ : SEnv) : List Addr := ρ.flatMap slA
def xA (ρ : SEnv) : List Addr := ρ.flatMap slX
theorem mem_cellA {ρ : SEnv} {a : Addr} : a ∈ cellA ρ ↔ ∃ (i : Nat) (c : Cl), ρ[i]? = some (.cell a c) := by
  constructor
  · intro h
    obtain ⟨s, hs, ha⟩ := List.mem_flatMap.mp h
    obtain ⟨i, hi⟩ := List.mem_iff_getElem?.mp hs
    cases s with
    | cell b c => simp [slA] at ha; subst ha; exact ⟨i, c, hi⟩
    | un => simp [slA] at ha
    | dat d => simp [slA] at ha
  · rintro ⟨i, c, h⟩
    exact List.mem_flatMap.mpr ⟨_, List.mem_of_getElem? h, by simp [slA]⟩
theorem mem_xA {ρ : SEnv} {a : Addr} : a ∈ xA ρ ↔ ∃ (i : Nat), ρ[i]? = some (.cell a .bag) := by
  constructor
  · intro h
    obtain ⟨s, hs, ha⟩ := List.mem_flatMap.mp h
    obtain ⟨i, hi⟩ := List.mem_iff_getElem?.mp hs
    cases s with
    | cell b c =>
      cases c with
      | bag => simp [slX] at ha; subst ha; exact ⟨i, hi⟩
      | lst ds => simp [slX] at ha
      | dk kvs => simp [slX] at ha
    | un => simp [slX] at ha
    | dat d => simp [slX] at ha
  · rintro ⟨i, h⟩
    exact List.mem_flatMap.mpr ⟨_, List.mem_of_getElem? h, by simp [slX]⟩
theorem xA_sub {ρ : SEnv} {a : Addr} (h : a ∈ xA ρ) : a ∈ cellA ρ := by
  obtain ⟨i, h⟩ := mem_xA.mp h
  exact mem_cellA.mpr ⟨i, _, h⟩
/-- W0: what the callers want to be kept clear of -/
structure EnvR (K : PySem.W.Frag) (W0 : List Addr) (H : Hp) (σ : L2.St) (ρ : SEnv) : Prop where
  len : σ.length = ρ.length
  slot : ∀ (i : Nat) (s : Sl), ρ[i]? = some s → ∃ o, σ[i]? = some o ∧ SlR K (W0 ++ cellA ρ) H o s
  one : ∀ (i j : Nat) (a : Addr) (c c' : Cl), ρ[i]? = some (.cell a c) → ρ[j]? = some (.cell a c') → i = j
  nt : NoTup W0 H
  ow : ∀ (i : Nat) (a : Addr) (c : Cl), ρ[i]? = some (.cell a c) → c ≠ .bag → a ∉ W0
theorem ClR.mut {K : PySem.W.Frag} {W : List Addr} {H : Hp} {a : Addr} {c : Cl} (h : ClR K W H a c) : H a ≠ none ∧ ∀ xs, ¬ Rd H a (.tup xs) := by
  cases c with
  | lst ds =>
    obtain ⟨vs, e, _⟩ := h
    refine ⟨by simp [e], fun xs r => ?_⟩
    rcases r with r | ⟨o, r⟩ <;> (rw [e] at r; cases r)
  | bag =>
    obtain ⟨x, y, e, _⟩ := h
    refine ⟨by simp [e], fun xs r => ?_⟩
    rcases r with r | ⟨o, r⟩ <;> (rw [e] at r; cases r)
  | dk kvs =>
    have e : H a = some (.dK (dkV kvs)) := h
    refine ⟨by simp [e], fun xs r => ?_⟩
    rcases r with r | ⟨o, r⟩ <;> (rw [e] at r; cases r)
section
variable {K : PySem.W.Frag} {W W' W0 : List Addr} {H H' : Hp} {σ : L2.St} {ρ ρ' : SEnv}
theorem EnvR.ntc (E : EnvR K W0 H σ ρ) : NoTup (cellA ρ) H := fun a m => by
  obtain ⟨i, c, h⟩ := mem_cellA.mp m
  obtain ⟨o, _, _, r⟩ := E.slot i _ h
  exact r.mut
theorem EnvR.nta (E : EnvR K W0 H σ ρ) : NoTup (W0 ++ cellA ρ) H := E.nt.append E.ntc
theorem ClR.mono (hw : ∀ a ∈ W', a ∈ W) {a : Addr} {c : Cl} (h : ClR K W H a c) : ClR K W' H a c := by
  cases c with
  | lst ds => obtain ⟨vs, e, z, r, t⟩ := h; exact ⟨vs, e, z, RpA.mono hw ds r, t⟩
  | bag => exact h
  | dk kvs => exact h
theorem SlR.mono (hw : ∀ a ∈ W', a ∈ W) {o : Option V} {s : Sl} (h : SlR K W H o s) : SlR K W' H o s := by
  cases s with
  | un => trivial
  | dat d => obtain ⟨u, e, r⟩ := h; exact ⟨u, e, Rp.mono hw d r⟩
  | cell a c => exact ⟨h.1, h.2.mono hw⟩
/-- a list cell bears more that it keeps clear of -/
theorem ClR.more (n : NoTup W' H) {a : Addr} {c : Cl} (h : ClR K W H a c) : ClR K W' H a c := by
  cases c with
  | lst ds => obtain ⟨vs, e, z, r, t⟩ := h; exact ⟨vs, e, z, RpA.td n ds t r, t⟩
  | bag => exact h
  | dk kvs => exact h
/-- what is not changed of a cell -/
theorem ClR.ext (e : Ext W' H H') (hw : ∀ a ∈ W', a ∈ W) {a : Addr} {c : Cl} (n : a ∉ W') (h : ClR K W H a c) : ClR K W H' a c := by
  cases c with
  | lst ds => obtain ⟨vs, q, z, r, t⟩ := h; exact ⟨vs, e.keep _ _ n q, z, RpA.ext e hw ds r, t⟩
  | bag => obtain ⟨x, y, q, b⟩ := h; exact ⟨x, y, e.keep _ _ n q, b⟩
  | dk kvs => exact e.keep _ _ n h
/-- every tracked thing stands as it stood -/
theorem EnvR.grow (E : EnvR K W0 H σ ρ) (e : Ext [] H H') : EnvR K W0 H' σ ρ := by
  refine ⟨E.len, fun i s h => ?_, E.one, E.nt.ext e fun _ _ m => (nomatch m), E.ow⟩
  obtain ⟨o, ho, r⟩ := E.slot i s h
  refine ⟨o, ho, ?_⟩
  cases s with
  | un => trivial
  | dat d => obtain ⟨u, q, r⟩ := r; exact ⟨u, q, Rp.ext e (fun _ m => nomatch m) d r⟩
  | cell a c => exact ⟨r.1, r.2.ext e (fun _ m => nomatch m) (fun m => nomatch m)⟩
/-- the bags may have turned -/
theorem EnvR.turn (E : EnvR K W0 H σ ρ) (e : Ext (xA ρ) H H') (b : ∀ a ∈ xA ρ, ClR K [] H' a .bag) : EnvR K W0 H' σ ρ := by
  have sub : ∀ a ∈ xA ρ, a ∈ W0 ++ cellA ρ := fun a m => List.mem_append_right _ (xA_sub m)
  refine ⟨E.len, fun i s h => ?_, E.one, E.nt.ext e fun a _ m xs => (b a m).mut.2 xs, E.ow⟩
  obtain ⟨o, ho, r⟩ := E.slot i s h
  refine ⟨o, ho, ?_⟩
  cases s with
  | un => trivial
  | dat d => obtain ⟨u, q, r⟩ := r; exact ⟨u, q, Rp.ext e sub d r⟩
  | cell a c =>
    refine ⟨r.1, ?_⟩
    cases c with
    | bag => exact b a (mem_xA.mpr ⟨i, h⟩)
    | lst ds =>
      refine r.2.ext e sub fun m => ?_
      obtain ⟨j, hj⟩ := mem_xA.mp m
      have := E.one i j a _ _ h hj
      subst this
      rw [h] at hj; cases hj
    | dk ds =>
      refine r.2.ext e sub fun m => ?_
      obtain ⟨j, hj⟩ := mem_xA.mp m
      have := E.one i j a _ _ h hj
      subst this
      rw [h] at hj; cases hj
end
end CC

namespace CC
open PySem PySem.Spec PyProof.Rows L2
/-! ### sorted(a set of hI), any many -/
section
variable {P : Program} {w : World} {A : Around} {E : Value → Shared → Prop} {s : Shared} {a : Addr}
theorem sset_any {S : Int → Bool} {n : Nat} {Q : Value → Shared → Prop} (hS : SetR w s.heap a S n) (calm : A.handled = none) (few : n ≤ 4000)
    (fin : ∀ s' p (out : Array Value) (c : Nat) (ns : List Int), (∀ b o, s.heap.get? b = some o → s'.heap.get? b = some o) → s'.gens = s.gens → s'.os = s.os → s.heap.objs.size ≤ p →
      s'.heap.get? p = some (seqObj "list" out c) → IntsAre out.toList ns → ns.Pairwise (· < ·) → (∀ k, k ∈ ns ↔ S k = true) → ns.length = n → Q (.ref p) s') :
    wpAny (model P w) A (call (.builtin "sorted") [.ref a]) Q E s := by
  obtain ⟨o, es, ep, t, lo, ex, da, gd, nodup, mem, bd, fr, cnt, rs, ls⟩ := hS
  refine Calls.call_function_entry PyProof.Rows.kind_sorted PyProof.Rows.plain_sorted PyProof.Rows.entry_sorted (args_sorted1 _) ?_
  unfold Builtin.«sorted»
  refine wpAny_bind (m := checkCount "sorted" 1 1 _)
    (wpAny_pure ?_)
  refine wpAny_bind (collect_set (A := A.in1) calm ⟨o, lo, ex.1, da⟩ fr bd rs ls fun s1 vs old low gen os1 perm => ?_)
  have len : vs.length = n := by rw [perm.length_eq, List.length_map, Array.length_toList, cnt]
  have small : vs.length ≤ sizeLine := by rw [len, sizeLine_eq]; omega
  have hI : IntsAre vs (vs.map Builtin.Re.reRawOf) := ints_of vs fun v m => by
    obtain ⟨e, me, q⟩ := List.mem_map.mp (perm.mem_iff.mp m)
    obtain ⟨k, tk, h1, -⟩ := gd e me
    exact ⟨k, tk, q ▸ h1⟩
  have keys : (vs.map Builtin.Re.reRawOf).Perm (es.toList.map keyOf) := (List.map_map (f := fun e : Int × Value => e.2) (g := Builtin.Re.reRawOf) (l := es.toList)) ▸ perm.map Builtin.Re.reRawOf
  refine wpAny_bind (wpAny_newList ?_ small)
  have here : (s1.heap.push (seqObj "list" vs.toArray 0)).get? s1.heap.objs.size = some (seqObj "list" vs.toArray 0) := Heap.get?_push_size _ rfl
  refine wpAny_bind (wpAny_holding (wpAny_call_entry slot_list_sort ⟨_, here, rfl⟩ entry_list_sort (SrtO.list_sort_ord SrtO.swo_int here small (fun two => SrtO.ints_sortable hI two) fun out h1 h2 => ⟨_, rfl, ?_⟩) (args_list_sort _)))
  obtain ⟨k1, k2, k3⟩ := SrtO.ints_out hI h1 h2
  obtain ⟨c, hc⟩ := sortedHeap_at (vs := vs) (out := out.toArray) here
  have pn : (out.map SrtO.iv).Perm (es.toList.map keyOf) := k2.trans keys
  refine wpAny_pure ⟨_, rfl, fin _ s1.heap.objs.size out.toArray c (out.map SrtO.iv) (fun b u e => ?_) gen os1 low hc k1 (lt_of_le_nodup _ k3 (pn.nodup_iff.mpr nodup)) (fun k => by rw [pn.mem_iff, ← mem k]) ?_⟩
  · have q := old b u e
    have lt := Heap.lt_size q
    show (sortedHeap (s1.heap.push (seqObj "list" vs.toArray 0)) s1.heap.objs.size vs out.toArray).get? b = some u
    rw [sortedHeap_old (Nat.ne_of_lt lt) (by rw [size_push']; exact Nat.lt_succ_of_lt lt)]
    exact Heap.get?_push_of_some _ q
  · rw [pn.length_eq, List.length_map, Array.length_toList, cnt]
end
section
variable {X : Cx}
def rSetAny (w : World) : List V → Hp → VK → Prop := fun vs H Q => ∃ (a : Addr) (S : Int → Bool) (n : Nat), vs = [V.ref a] ∧ H a = some (SetO w a S n) ∧ n ≤ 4000 ∧
  ∀ (ns : List Int) (p : Addr), ns.Pairwise (· < ·) → (∀ k : Int, k ∈ ns ↔ S k = true) → ns.length = n → H p = none → Q (.ref p) (upd H p (.lst (ns.map V.int)))
theorem cr_ssetAny (hc : X.calm = true) : CallR X (.builtin "sorted") (rSetAny X.w) := by
  intro pins s σ H vs us Q I r h
  obtain ⟨a, S, n, rfl, at_, few, q⟩ := h
  have R := setO_get I at_
  rw [Vals.ref1 r]
  refine sset_any R (I.ok.hd hc) few fun s' p out c ns old gen os1 low get hI srt mem len => ?_
  have z : (ns.map V.int).length ≤ sizeLine := by rw [List.length_map, len, sizeLine_eq]; omega
  have nw : H p = none := I.hok.fresh low
  have J : Inv X pins σ (upd H p (.lst (ns.map V.int))) { s with heap := s'.heap, gens := s'.gens, drawn := s'.drawn, toks := s'.toks } :=
    I.call (ch := []) (Un.laid old low nw) (I.hok.laid old low ⟨z, out.toList, c, vals_of_ints hI, get⟩) (by rw [gen]; exact I.bare) (fun _ z => nomatch z)
  have same : s' = { s with heap := s'.heap, gens := s'.gens, drawn := s'.drawn, toks := s'.toks } := by
    cases s'; cases s; cases os1; rfl
  rw [same]
  exact ⟨.ref p, _, J, rfl, q ns p srt mem len nw⟩
/-- min(xs), max(xs): data that compare -/
def rBest (K : PySem.W.Frag) (best : PyData → List PyData → PyData) : List V → Hp → VK → Prop := fun vs H Q => ∃ (a : Addr) (xs : List V) (d : PyData) (ds : List PyData), vs = [V.ref a] ∧ SqL K H a xs ∧ DpAll K H xs (d :: ds) ∧ (PySem.W.AlikeAll (d :: ds) ∧ PyData.depthAll (d :: ds) ≤ 60) ∧
  ∀ (i : Nat) v, xs[i]? = some v → (d :: ds)[i]? = some (best d ds) → Q v H
theorem best_at {xs : List PyData} {i : Nat} {d : PyData} (h : i < xs.length) (e : xs.getD i .none = d) : xs[i]? = some d := by
  rw [List.getD_eq_getElem?_getD, List.getElem?_eq_getElem h] at e
  rw [List.getElem?_eq_getElem h]
  exact congrArg some e
theorem cr_minDt (hc : X.calm = true) (hu : X.A.units + 64 < cLine) : CallR X (.builtin "min") (rBest X.K PySem.W.minD) := by
  intro pins s σ H vs us Q I r h
  obtain ⟨a, xs, d, ds, rfl, hs, hd, ⟨al, dp⟩, q⟩ := h
  obtain ⟨its, rv, hl, hz⟩ := I.list hs
  rw [Vals.ref1 r]
  obtain ⟨as, hr⟩ := Dp.readsAll I _ _ _ hd rv
  have hr' : ReadsAll s.heap its.toArray.toList (d :: ds) as := by simpa using hr
  have hn : its.toArray.size = ds.length + 1 := PySem.W.readsAll_len hr'
  refine call_min_walkH (PySem.W.iter_listW (A := X.A.in1) (I.ok.hd hc) hl.isList fun s₂ e W st hfp hw hk => ?_)
  refine ⟨_, _, _, _, _, _, _, s.heap, _, rfl, W, st, hfp, by omega, hw, hk, PySem.W.cmpIn_lt (A := X.A.in1) hr' al (by show X.A.units + 1 + _ < _; omega), fun v s' hP m => ?_⟩
  obtain ⟨h', tk, rfl, hk'⟩ := PySem.W.moved_old e rfl m
  have e2 := (PySem.W.argBest_fold PySem.W.dataLt PyData.none d ds ds.length (Nat.le_refl _)).2
  rw [List.take_length] at e2
  have e1 : its.toArray.size - 1 = ds.length := by omega
  rw [e1] at hP
  rw [List.getElem?_toArray] at hP
  obtain ⟨hi, -⟩ := List.getElem?_eq_some_iff.mp hP
  have hlen := rv.length
  obtain ⟨u, hu1, hu2⟩ := rv.get (i := argBest (fun i j => PySem.W.dataLt ((d :: ds).getD i .none) ((d :: ds).getD j .none)) ds.length) (x := xs[argBest (fun i j => PySem.W.dataLt ((d :: ds).getD i .none) ((d :: ds).getD j .none)) ds.length]'(by rw [hlen]; exact hi)) (List.getElem?_eq_getElem _)
  rw [hP] at hu1
  cases hu1
  refine ⟨_, H, I.kept hk', hu2, q _ _ (List.getElem?_eq_getElem _) (best_at ?_ ?_)⟩
  · rw [List.size_toArray] at hn
    rw [List.length_cons, ← hn]
    exact hi
  · unfold PySem.W.minD
    rw [← e2]
theorem cr_maxDt (hc : X.calm = true) (hu : X.A.units + 64 < cLine) : CallR X (.builtin "max") (rBest X.K PySem.W.maxD) := by
  intro pins s σ H vs us Q I r h
  obtain ⟨a, xs, d, ds, rfl, hs, hd, ⟨al, dp⟩, q⟩ := h
  obtain ⟨its, rv, hl, hz⟩ := I.list hs
  rw [Vals.ref1 r]
  obtain ⟨as, hr⟩ := Dp.readsAll I _ _ _ hd rv
  have hr' : ReadsAll s.heap its.toArray.toList (d :: ds) as := by simpa using hr
  have hn : its.toArray.size = ds.length + 1 := PySem.W.readsAll_len hr'
  refine call_max_walkH (PySem.W.iter_listW (A := X.A.in1) (I.ok.hd hc) hl.isList fun s₂ e W st hfp hw hk => ?_)
  refine ⟨_, _, _, _, _, _, _, s.heap, _, rfl, W, st, hfp, by omega, hw, hk, PySem.W.cmpIn_gt (A := X.A.in1) hr' al (by show X.A.units + 1 + _ < _; omega), fun v s' hP m => ?_⟩
  obtain ⟨h', tk, rfl, hk'⟩ := PySem.W.moved_old e rfl m
  have e2 := (PySem.W.argBest_fold (fun x y => PySem.W.dataLt y x) PyData.none d ds ds.length (Nat.le_refl _)).2
  rw [List.take_length] at e2
  have e1 : its.toArray.size - 1 = ds.length := by omega
  rw [e1] at hP
  rw [List.getElem?_toArray] at hP
  obtain ⟨hi, -⟩ := List.getElem?_eq_some_iff.mp hP
  have hlen := rv.length
  obtain ⟨u, hu1, hu2⟩ := rv.get (i := argBest (fun i j => PySem.W.dataLt ((d :: ds).getD j .none) ((d :: ds).getD i .none)) ds.length) (x := xs[argBest (fun i j => PySem.W.dataLt ((d :: ds).getD j .none) ((d :: ds).getD i .none)) ds.length]'(by rw [hlen]; exact hi)) (List.getElem?_eq_getElem _)
  rw [hP] at hu1
  cases hu1
  refine ⟨_, H, I.kept hk', hu2, q _ _ (List.getElem?_eq_getElem _) (best_at ?_ ?_)⟩
  · rw [List.size_toArray] at hn
    rw [List.length_cons, ← hn]
    exact hi
  · unfold PySem.W.maxD
    rw [← e2]
end
end CC

namespace CC
open PySem PySem.Spec PyProof.Rows L2
/-! ### the small language -/
inductive Ar | add | sub | mul | fdiv | mod | pow
  deriving DecidableEq
inductive Cm | eq | ne | lt | le | gt | ge | isin | notin | isN | notN
  deriving DecidableEq
inductive Bi | len | abs | int | str | bool | all | any | sum | min2 | max2 | minI | maxI | sortI | ssetI | srt | list | tuple | listR | tupleR
  deriving DecidableEq
inductive Ty | int | bool | str | tuple | list
  deriving DecidableEq
inductive Me | join | split | get
  deriving DecidableEq
inductive Pt
  | nm (i : Nat)
  | tp (ps : List Nat)
  | tp2 (ps qs : List Nat)
  deriving DecidableEq
mutual
inductive Ex
  | v (i : Nat)
  | k (d : D)
  | tup (es : Exs)
  | lst (es : Exs)
  | bin (o : Ar) (a b : Ex)
  | neg (a : Ex)
  | cmp (o : Cm) (a b : Ex)
  | chn (o p : Cm) (a b c : Ex)
  | and (a b : Ex)
  | or (a b : Ex)
  | not (a : Ex)
  | ite (t : Ts) (a b : Ex)
  | ix (a b : Ex)
  | sl (a lo hi : Ex)
  | sll (a lo : Ex)
  | slh (a hi : Ex)
  | rev (a : Ex)
  | rep (a b : Ex)
  | met (m : Me) (o : Ex) (es : Exs)
  | dsub (ks : List (Str × Int)) (e : Ex)
  | kix (ds : List D) (e : Ex)
  | bx (i n : Nat)
  | call (f : Nat) (es : Exs)
  | bi (b : Bi) (es : Exs)
  | isi (a : Ex) (t : Ty)
  | comp (e : Ex) (p : Pt) (it : It) (c : Ts) (vs : List Nat)
inductive Exs
  | nil
  | cons (e : Ex) (es : Exs)
inductive Ts
  | tt
  | of (e : Ex)
  | and (a b : Ts)
  | or (a b : Ts)
  | not (a : Ts)
inductive It
  | of (e : Ex)
  | rng1 (e : Ex)
  | rng2 (a b : Ex)
  | enum (e : Ex)
  | zip (a b : Ex)
end
mutual
inductive Sm
  | set (fz : Bool) (i : Nat) (e : Ex)
  | own (i : Nat) (e : Ex)
  | bag (i : Nat) (e : Ex)
  | app (i : Nat) (e : Ex)
  | dnew (i j : Nat) (n : Int)
  | dput (i : Nat) (k e : Ex)
  | bw (i n : Nat) (e : Ex)
  | par (fz : Bool) (i j : Nat) (a b : Ex)
  | tup (fz : Bool) (p : Pt) (e : Ex)
  | ex (e : Ex)
  | ret (e : Ex)
  | ite (t : Ts) (a b : Sms)
  | for_ (fz : Bool) (p : Pt) (it : It) (b : Sms)
  | while_ (t : Ts) (b : Sms)
  | never
inductive Sms
  | nil
  | cons (s : Sm) (ss : Sms)
end
@[simp] def Exs.len : Exs → Nat
  | .nil => 0
  | .cons _ es => es.len + 1
/-- an int, written -/
def nm (i : Int) : Str := toString i
/-! ### what it does, by data -/
inductive Arg
  | dat (d : D)
  | bag (a : Addr)
abbrev Spec := List Arg → (D → Prop) → Prop
def cut {α : Type} (xs : List α) (lo hi : Option Int) : List α := (xs.drop (HT.sIx xs.length 0 lo)).take (HT.sIx xs.length xs.length hi - HT.sIx xs.length 0 lo)
/-- data that == tells at once -/
def flatD : D → Bool
  | .none => true | .bool _ => true | .int _ => true | .str _ => true
  | _ => false
def isNone : D → Bool
  | .none => true
  | _ => false
def eqOk (a b : D) : Prop := (flatD a = true ∧ flatD b = true) ∨ (SeqAt.shaped a = true ∧ SeqAt.shaped b = true)
theorem CDivW.of {i j : Int} (h : CDiv i j) : CDivW i j := ⟨h.1, by
  have h1 : j.natAbs < 2 ^ 30 := by have := h.1; have := h.2; omega
  have : j.natAbs.log2 < 30 := (Nat.log2_lt (by have := h.1; omega)).mpr h1
  omega⟩
def binD : Ar → D → D → (D → Prop) → Prop
  | .add, .int i, .int j, Q => Q (.int (i + j))
  | .add, .str x, .str y, Q => x.length + y.length ≤ sizeLine ∧ Q (.str (x ++ y))
  | .add, .list xs, .list ys, Q => xs.length + ys.length ≤ sizeLine ∧ Q (.list (xs ++ ys))
  | .add, .tuple xs, .tuple ys, Q => xs.length + ys.length ≤ sizeLine ∧ Q (.tuple (xs ++ ys))
  | .sub, .int i, .int j, Q => Q (.int (i - j))
  | .mul, .int i, .int j, Q => CMul i j ∧ Q (.int (i * j))
  | .fdiv, .int i, .int j, Q => CDivW i j ∧ Q (.int (i / j))
  | .mod, .int i, .int j, Q => 0 < j ∧ Q (.int (i % j))
  | .pow, .int i, .int j, Q => CPow i j ∧ Q (.int (i ^ j.toNat))
  | _, _, _, _ => False
def repD : D → D → (D → Prop) → Prop
  | .list xs, .int k, Q => (-(2 ^ 63) ≤ k ∧ k < 2 ^ 63 ∧ xs.length * k.toNat ≤ sizeLine) ∧ Q (.list (List.replicate k.toNat xs).flatten)
  | _, _, _ => False
def isI (i : Int) : D → Bool
  | .int j => decide (j = i)
  | _ => false
def cmpD : Cm → D → D → (D → Prop) → Prop
  | .eq, a, b, Q => eqOk a b ∧ Q (.bool (PyData.eqv a b))
  | .ne, a, b, Q => eqOk a b ∧ Q (.bool (!PyData.eqv a b))
  | .lt, .int i, .int j, Q => Q (.bool (decide (i < j)))
  | .le, .int i, .int j, Q => Q (.bool (decide (i ≤ j)))
  | .gt, .int i, .int j, Q => Q (.bool (decide (j < i)))
  | .ge, .int i, .int j, Q => Q (.bool (decide (j ≤ i)))
  | .isin, a, .list ds, Q => (flatD a = true ∧ ds.all flatD = true) ∧ Q (.bool (ds.any fun z => PyData.eqv z a))
  | .isin, a, .tuple ds, Q => (flatD a = true ∧ ds.all flatD = true) ∧ Q (.bool (ds.any fun z => PyData.eqv z a))
  | .notin, a, .list ds, Q => (flatD a = true ∧ ds.all flatD = true) ∧ Q (.bool (!ds.any fun z => PyData.eqv z a))
  | .notin, a, .tuple ds, Q => (flatD a = true ∧ ds.all flatD = true) ∧ Q (.bool (!ds.any fun z => PyData.eqv z a))
  | .isin, a, .dict ks, Q => ∃ i, a = .int i ∧ Q (.bool (ks.any fun p => isI i p.1))
  | .notin, a, .dict ks, Q => ∃ i, a = .int i ∧ Q (.bool (!ks.any fun p => isI i p.1))
  | .isN, a, .none, Q => Q (.bool (isNone a))
  | .notN, a, .none, Q => Q (.bool (!isNone a))
  | _, _, _, _ => False
def ixD : D → D → (D → Prop) → Prop
  | .list ds, .int i, Q => ∃ d, atI ds i = some d ∧ Q d
  | .tuple ds, .int i, Q => ∃ d, atI ds i = some d ∧ Q d
  | _, _, _ => False
def slD : D → Option Int → Option Int → (D → Prop) → Prop
  | .list ds, lo, hi, Q => Q (.list (cut ds lo hi))
  | .tuple ds, lo, hi, Q => Q (.tuple (cut ds lo hi))
  | .str x, lo, hi, Q => x.length ≤ sizeLine ∧ Q (.str (cutS x lo hi))
  | _, _, _, _ => False
def revD : D → (D → Prop) → Prop
  | .list ds, Q => Q (.list ds.reverse)
  | .tuple ds, Q => Q (.tuple ds.reverse)
  | _, _ => False
def truD : D → (Bool → Prop) → Prop
  | .none, Q => Q false
  | .bool b, Q => Q b
  | .int i, Q => Q (i != 0)
  | .list ds, Q => Q (!ds.isEmpty)
  | .tuple ds, Q => Q (!ds.isEmpty)
  | _, _ => False
def boolD : D → (Bool → Prop) → Prop
  | .bool b, Q => Q b
  | _, _ => False
def itemsD : D → (List D → Prop) → Prop
  | .list ds, Q => Q ds
  | .tuple ds, Q => Q ds
  | _, _ => False
def tupD : D → (List D → Prop) → Prop
  | .tuple ds, Q => Q ds
  | _, _ => False
def intD : D → (Int → Prop) → Prop
  | .int i, Q => Q i
  | _, _ => False
def inR (i : Int) : Prop := -1000000 ≤ i ∧ i ≤ 1000000
def rngL (lo hi : Int) : List D := (List.range (hi - lo).toNat).map fun (n : Nat) => PyData.int (lo + (n : Int))
@[simp] def zipL : List D → List D → List D
  | x :: xs, y :: ys => .tuple [x, y] :: zipL xs ys
  | _, _ => []
@[simp] def enumL : Nat → List D → List D
  | _, [] => []
  | n, x :: xs => .tuple [.int (n : Int), x] :: enumL (n + 1) xs
def dC : D → Nat
  | .none => 0 | .bool _ => 1 | .int _ => 2 | .str _ => 3 | .list _ => 4 | .tuple _ => 5 | .dict _ => 6
def isiC : Ty → Nat → Bool
  | .int, 1 => true | .int, 2 => true
  | .bool, 1 => true
  | .str, 3 => true
  | .list, 4 => true
  | .tuple, 5 => true
  | _, _ => false
def isiD (T : Ty) (d : D) : Bool := isiC T (dC d)
def bestD (best : D → List D → D) : List D → (D → Prop) → Prop
  | d :: ds, Q => ((PySem.W.AlikeAll (d :: ds) ∧ PyData.depthAll (d :: ds) ≤ 60) ∧ ndlA (d :: ds) = true) ∧ Q (best d ds)
  | [], _ => False
def biD : Bi → List D → (D → Prop) → Prop
  | .len, [.list ds], Q => Q (.int ds.length)
  | .len, [.tuple ds], Q => Q (.int ds.length)
  | .len, [.str x], Q => x.length ≤ sizeLine ∧ Q (.int x.length)
  | .abs, [.int i], Q => Q (.int (if i < 0 then -i else i))
  | .int, [.int i], Q => Q (.int i)
  | .int, [.bool b], Q => Q (.int (if b then 1 else 0))
  | .str, [.int i], Q => i.natAbs.log2 < 1920 ∧ Q (.str (toString i))
  | .str, [.str x], Q => Q (.str x)
  | .bool, [.int i], Q => Q (.bool (i != 0))
  | .bool, [.bool b], Q => Q (.bool b)
  | .all, [.list ds], Q => ∃ bs : List Bool, ds = bs.map .bool ∧ Q (.bool (bs.all id))
  | .any, [.list ds], Q => ∃ bs : List Bool, ds = bs.map .bool ∧ Q (.bool (bs.any id))
  | .sum, [.list ds], Q => ∃ ns : List Int, ds = ns.map .int ∧ Q (.int ns.sum)
  | .min2, [.int i, .int j], Q => Q (.int (if j < i then j else i))
  | .max2, [.int i, .int j], Q => Q (.int (if j > i then j else i))
  | .minI, [.list ds], Q => bestD PySem.W.minD ds Q
  | .maxI, [.list ds], Q => bestD PySem.W.maxD ds Q
  | .ssetI, [.list ds], Q => ∃ ns L : List Int, ds = ns.map .int ∧ ns.length < 4000 ∧ L.length ≤ 4000 ∧ (∀ x, x ∈ ns → x ∈ L) ∧ ∀ ms : List Int, ms.Pairwise (· < ·) → (∀ x, x ∈ ms ↔ x ∈ ns) → Q (.list (ms.map .int))
  | .list, [.list ds], Q => Q (.list ds)
  | .list, [.tuple ds], Q => Q (.list ds)
  | .list, [.dict ks], Q => ks.length ≤ sizeLine ∧ Q (.list (ks.map (·.1)))
  | .srt, [.list ds], Q => ∃ ns : List Int, ds = ns.map .int ∧ ∀ ms : List Int, ms.Perm ns → ms.Pairwise (· ≤ ·) → Q (.list (ms.map .int))
  | .tuple, [.list ds], Q => Q (.tuple ds)
  | .tuple, [.tuple ds], Q => Q (.tuple ds)
  | .listR, [.int n], Q => inR n ∧ Q (.list (rngL 0 n))
  | .tupleR, [.int n], Q => inR n ∧ Q (.tuple (rngL 0 n))
  | _, _, _ => False
def meC : Me → Nat
  | .join => 3
  | .split => 3
  | .get => 6
def meD : Me → D → List D → (D → Prop) → Prop
  | .join, .str a, [.list ds], Q => ∃ ys : List Str, ds = ys.map .str ∧ (ys.map (·.length)).sum + ys.length * a.length ≤ 16777216 ∧ Q (.str (Txt.join a ys))
  | .split, .str a, [.str b], Q => (b.length == 0) = false ∧ a.length + 2 ≤ sizeLine ∧ Q (.list ((Txt.split a b).map .str))
  | .get, .dict ks, [.int i, .int z], Q => Q (((ks.find? fun p => isI i p.1).map (·.2)).getD (.int z))
  | _, _, _, _ => False
/-- t.index(x), t a constant of texts -/
def kixD (ds : List D) : D → (D → Prop) → Prop
  | .str z, Q => ∃ (ys : List Str) (j : Nat), ds = ys.map .str ∧ ys[j]? = some z ∧ (∀ m, m < j → ys[m]? ≠ some z) ∧ Q (.int (j : Nat))
  | _, _ => False
def dsubD (ks : List (Str × Int)) : D → (D → Prop) → Prop
  | .str x, Q => ∃ n, (ks.reverse.find? fun p => decide (p.1 = x)).map (·.2) = some n ∧ Q (.int n)
  | _, _ => False
@[simp] def setL : List Nat → List D → SEnv → (SEnv → Prop) → Prop
  | [], [], ρ, Q => Q ρ
  | i :: is, d :: ds, ρ, Q => setL is ds (ρ.set i (.dat d)) Q
  | _, _, _, _ => False
def Pt.bind : Pt → D → SEnv → (SEnv → Prop) → Prop
  | .nm i, d, ρ, Q => Q (ρ.set i (.dat d))
  | .tp ps, d, ρ, Q => tupD d fun ds => setL ps ds ρ Q
  | .tp2 ps qs, .tuple [a, b], ρ, Q => tupD a fun xs => setL ps xs ρ fun ρ => tupD b fun ys => setL qs ys ρ Q
  | _, _, _, _ => False
def putI (kvs : List (Int × Int)) (g z : Int) : List (Int × Int) := if (kvs.any fun p => decide (p.1 = g)) = true then kvs.map (fun p => if p.1 = g then (p.1, z) else p) else kvs ++ [(g, z)]
def bagD : D → Prop
  | .list [.int x, .int y] => BagV x y
  | _ => False
def hideS : Sl → Sl
  | .cell _ (.lst _) => .un
  | .cell _ (.dk _) => .un
  | s => s
def frozS : Sl → Sl
  | .cell _ (.lst ds) => .dat (.list ds)
  | .cell _ (.dk kvs) => .dat (.dict (dkD kvs))
  | s => s
@[simp] def hide (ρ : SEnv) : SEnv := ρ.map hideS
@[simp] def froz (ρ : SEnv) : SEnv := ρ.map frozS
@[simp] def wipeE (ρ : SEnv) : List Nat → SEnv
  | [] => ρ
  | v :: vs => (wipeE ρ vs).set v .un
def noCell : Option Sl → Bool
  | some (.cell _ _) => false
  | none => false
  | _ => true
@[simp] def okW (ρ : SEnv) (vs : List Nat) : Bool := vs.all fun i => noCell ρ[i]?
/-- a comprehension's turns: f gives out what a turn adds -/
@[simp] def compL (f : D → (List D → Prop) → Prop) : List D → List D → (List D → Prop) → Prop
  | [], acc, Q => Q acc
  | d :: ds, acc, Q => f d fun es => compL f ds (acc ++ es) Q
@[simp] def forL (f : D → SEnv → (SEnv → Prop) → Prop) : List D → SEnv → (SEnv → Prop) → Prop
  | [], ρ, Q => Q ρ
  | d :: ds, ρ, Q => f d ρ fun ρ' => forL f ds ρ' Q
@[simp] def argX : List Arg → List Addr
  | [] => []
  | .dat _ :: as => argX as
  | .bag a :: as => a :: argX as
def one1 : List Addr → Prop
  | [] => True
  | [_] => True
  | _ => False
def slD1 (s : Option Sl) (Q : D → Prop) : Prop :=
  match s with
  | some (.dat d) => Q d
  | some (.cell _ (.lst ds)) => Q (.list ds)
  | some (.cell _ (.dk kvs)) => Q (.dict (dkD kvs))
  | _ => False
def isBag (s : Option Sl) : Prop :=
  match s with
  | some (.cell _ .bag) => True
  | _ => False
def slArg (s : Option Sl) (Q : Arg → Prop) : Prop :=
  match s with
  | some (.dat d) => Q (.dat d)
  | some (.cell _ (.lst ds)) => Q (.dat (.list ds))
  | some (.cell _ (.dk kvs)) => Q (.dat (.dict (dkD kvs)))
  | some (.cell a .bag) => Q (.bag a)
  | _ => False
section
@[simp] theorem binD_add_i {i j : Int} {Q : D → Prop} : binD .add (.int i) (.int j) Q = Q (.int (i + j)) := rfl
@[simp] theorem binD_sub_i {i j : Int} {Q : D → Prop} : binD .sub (.int i) (.int j) Q = Q (.int (i - j)) := rfl
@[simp] theorem binD_add_s {x y : Str} {Q : D → Prop} : binD .add (.str x) (.str y) Q = (x.length + y.length ≤ sizeLine ∧ Q (.str (x ++ y))) := rfl
@[simp] theorem binD_add_l {xs ys : List D} {Q : D → Prop} : binD .add (.list xs) (.list ys) Q = (xs.length + ys.length ≤ sizeLine ∧ Q (.list (xs ++ ys))) := rfl
@[simp] theorem binD_add_t {xs ys : List D} {Q : D → Prop} : binD .add (.tuple xs) (.tuple ys) Q = (xs.length + ys.length ≤ sizeLine ∧ Q (.tuple (xs ++ ys))) := rfl
@[simp] theorem binD_mul_i {i j : Int} {Q : D → Prop} : binD .mul (.int i) (.int j) Q = (CMul i j ∧ Q (.int (i * j))) := rfl
@[simp] theorem binD_fdiv_i {i j : Int} {Q : D → Prop} : binD .fdiv (.int i) (.int j) Q = (CDivW i j ∧ Q (.int (i / j))) := rfl
@[simp] theorem binD_mod_i {i j : Int} {Q : D → Prop} : binD .mod (.int i) (.int j) Q = (0 < j ∧ Q (.int (i % j))) := rfl
@[simp] theorem binD_pow_i {i j : Int} {Q : D → Prop} : binD .pow (.int i) (.int j) Q = (CPow i j ∧ Q (.int (i ^ j.toNat))) := rfl
@[simp] theorem repD_l {xs : List D} {k : Int} {Q : D → Prop} : repD (.list xs) (.int k) Q = ((-(2 ^ 63) ≤ k ∧ k < 2 ^ 63 ∧ xs.length * k.toNat ≤ sizeLine) ∧ Q (.list (List.replicate k.toNat xs).flatten)) := rfl
@[simp] theorem cmpD_eq {a b : D} {Q : D → Prop} : cmpD .eq a b Q = (eqOk a b ∧ Q (.bool (PyData.eqv a b))) := rfl
@[simp] theorem cmpD_ne {a b : D} {Q : D → Prop} : cmpD .ne a b Q = (eqOk a b ∧ Q (.bool (!PyData.eqv a b))) := rfl
@[simp] theorem cmpD_lt {i j : Int} {Q : D → Prop} : cmpD .lt (.int i) (.int j) Q = Q (.bool (decide (i < j))) := rfl
@[simp] theorem cmpD_le {i j : Int} {Q : D → Prop} : cmpD .le (.int i) (.int j) Q = Q (.bool (decide (i ≤ j))) := rfl
@[simp] theorem cmpD_gt {i j : Int} {Q : D → Prop} : cmpD .gt (.int i) (.int j) Q = Q (.bool (decide (j < i))) := rfl
@[simp] theorem cmpD_ge {i j : Int} {Q : D → Prop} : cmpD .ge (.int i) (.int j) Q = Q (.bool (decide (j ≤ i))) := rfl
@[simp] theorem cmpD_isin_l {a : D} {ds : List D} {Q : D → Prop} : cmpD .isin a (.list ds) Q = ((flatD a = true ∧ ds.all flatD = true) ∧ Q (.bool (ds.any fun z => PyData.eqv z a))) := rfl
@[simp] theorem cmpD_isin_t {a : D} {ds : List D} {Q : D → Prop} : cmpD .isin a (.tuple ds) Q = ((flatD a = true ∧ ds.all flatD = true) ∧ Q (.bool (ds.any fun z => PyData.eqv z a))) := rfl
@[simp] theorem cmpD_notin_l {a : D} {ds : List D} {Q : D → Prop} : cmpD .notin a (.list ds) Q = ((flatD a = true ∧ ds.all flatD = true) ∧ Q (.bool (!ds.any fun z => PyData.eqv z a))) := rfl
@[simp] theorem cmpD_notin_t {a : D} {ds : List D} {Q : D → Prop} : cmpD .notin a (.tuple ds) Q = ((flatD a = true ∧ ds.all flatD = true) ∧ Q (.bool (!ds.any fun z => PyData.eqv z a))) := rfl
@[simp] theorem cmpD_isN {a : D} {Q : D → Prop} : cmpD .isN a .none Q = Q (.bool (isNone a)) := rfl
@[simp] theorem cmpD_notN {a : D} {Q : D → Prop} : cmpD .notN a .none Q = Q (.bool (!isNone a)) := rfl
@[simp] theorem ixD_l {ds : List D} {i : Int} {Q : D → Prop} : ixD (.list ds) (.int i) Q = (∃ d, atI ds i = some d ∧ Q d) := rfl
@[simp] theorem slD_l {ds : List D} {lo hi : Option Int} {Q : D → Prop} : slD (.list ds) lo hi Q = Q (.list (cut ds lo hi)) := rfl
@[simp] theorem revD_l {ds : List D} {Q : D → Prop} : revD (.list ds) Q = Q (.list ds.reverse) := rfl
@[simp] theorem truD_l {ds : List D} {Q : Bool → Prop} : truD (.list ds) Q = Q (!ds.isEmpty) := rfl
@[simp] theorem itemsD_l {ds : List D} {Q : List D → Prop} : itemsD (.list ds) Q = Q ds := rfl
@[simp] theorem ixD_t {ds : List D} {i : Int} {Q : D → Prop} : ixD (.tuple ds) (.int i) Q = (∃ d, atI ds i = some d ∧ Q d) := rfl
@[simp] theorem slD_t {ds : List D} {lo hi : Option Int} {Q : D → Prop} : slD (.tuple ds) lo hi Q = Q (.tuple (cut ds lo hi)) := rfl
@[simp] theorem revD_t {ds : List D} {Q : D → Prop} : revD (.tuple ds) Q = Q (.tuple ds.reverse) := rfl
@[simp] theorem truD_t {ds : List D} {Q : Bool → Prop} : truD (.tuple ds) Q = Q (!ds.isEmpty) := rfl
@[simp] theorem itemsD_t {ds : List D} {Q : List D → Prop} : itemsD (.tuple ds) Q = Q ds := rfl
@[simp] theorem slD_s {x : Str} {lo hi : Option Int} {Q : D → Prop} : slD (.str x) lo hi Q = (x.length ≤ sizeLine ∧ Q (.str (cutS x lo hi))) := rfl
@[simp] theorem truD_n {Q : Bool → Prop} : truD .none Q = Q false := rfl
@[simp] theorem truD_b {b : Bool} {Q : Bool → Prop} : truD (.bool b) Q = Q b := rfl
@[simp] theorem truD_i {i : Int} {Q : Bool → Prop} : truD (.int i) Q = Q (i != 0) := rfl
@[simp] theorem boolD_b {b : Bool} {Q : Bool → Prop} : boolD (.bool b) Q = Q b := rfl
@[simp] theorem tupD_t {ds : List D} {Q : List D → Prop} : tupD (.tuple ds) Q = Q ds := rfl
@[simp] theorem intD_i {i : Int} {Q : Int → Prop} : intD (.int i) Q = Q i := rfl
@[simp] theorem biD_len_l {ds : List D} {Q : D → Prop} : biD .len [.list ds] Q = Q (.int ds.length) := rfl
@[simp] theorem biD_len_t {ds : List D} {Q : D → Prop} : biD .len [.tuple ds] Q = Q (.int ds.length) := rfl
@[simp] theorem biD_len_s {x : Str} {Q : D → Prop} : biD .len [.str x] Q = (x.length ≤ sizeLine ∧ Q (.int x.length)) := rfl
@[simp] theorem biD_abs {i : Int} {Q : D → Prop} : biD .abs [.int i] Q = Q (.int (if i < 0 then -i else i)) := rfl
@[simp] theorem biD_int_i {i : Int} {Q : D → Prop} : biD .int [.int i] Q = Q (.int i) := rfl
@[simp] theorem biD_int_b {b : Bool} {Q : D → Prop} : biD .int [.bool b] Q = Q (.int (if b then 1 else 0)) := rfl
@[simp] theorem biD_str_i {i : Int} {Q : D → Prop} : biD .str [.int i] Q = (i.natAbs.log2 < 1920 ∧ Q (.str (nm i))) := rfl
@[simp] theorem biD_str_s {x : Str} {Q : D → Prop} : biD .str [.str x] Q = Q (.str x) := rfl
@[simp] theorem biD_bool_i {i : Int} {Q : D → Prop} : biD .bool [.int i] Q = Q (.bool (i != 0)) := rfl
@[simp] theorem biD_bool_b {b : Bool} {Q : D → Prop} : biD .bool [.bool b] Q = Q (.bool b) := rfl
@[simp] theorem biD_all {ds : List D} {Q : D → Prop} : biD .all [.list ds] Q = (∃ bs : List Bool, ds = bs.map .bool ∧ Q (.bool (bs.all id))) := rfl
@[simp] theorem biD_any {ds : List D} {Q : D → Prop} : biD .any [.list ds] Q = (∃ bs : List Bool, ds = bs.map .bool ∧ Q (.bool (bs.any id))) := rfl
@[simp] theorem biD_sum {ds : List D} {Q : D → Prop} : biD .sum [.list ds] Q = (∃ ns : List Int, ds = ns.map .int ∧ Q (.int ns.sum)) := rfl
@[simp] theorem biD_min2 {i j : Int} {Q : D → Prop} : biD .min2 [.int i, .int j] Q = Q (.int (if j < i then j else i)) := rfl
@[simp] theorem biD_max2 {i j : Int} {Q : D → Prop} : biD .max2 [.int i, .int j] Q = Q (.int (if j > i then j else i)) := rfl
@[simp] theorem biD_list_l {ds : List D} {Q : D → Prop} : biD .list [.list ds] Q = Q (.list ds) := rfl
@[simp] theorem biD_list_t {ds : List D} {Q : D → Prop} : biD .list [.tuple ds] Q = Q (.list ds) := rfl
@[simp] theorem biD_tuple_l {ds : List D} {Q : D → Prop} : biD .tuple [.list ds] Q = Q (.tuple ds) := rfl
@[simp] theorem biD_tuple_t {ds : List D} {Q : D → Prop} : biD .tuple [.tuple ds] Q = Q (.tuple ds) := rfl
@[simp] theorem meC_j  : meC .join = 3 := rfl
@[simp] theorem meC_s  : meC .split = 3 := rfl
@[simp] theorem kixD_s {ds : List D} {z : Str} {Q : D → Prop} : kixD ds (.str z) Q = (∃ (ys : List Str) (j : Nat), ds = ys.map .str ∧ ys[j]? = some z ∧ (∀ m, m < j → ys[m]? ≠ some z) ∧ Q (.int (j : Nat))) := rfl
@[simp] theorem biD_minI {d : D} {ds : List D} {Q : D → Prop} : biD .minI [.list (d :: ds)] Q = (((PySem.W.AlikeAll (d :: ds) ∧ PyData.depthAll (d :: ds) ≤ 60) ∧ ndlA (d :: ds) = true) ∧ Q (PySem.W.minD d ds)) := rfl
@[simp] theorem biD_maxI {d : D} {ds : List D} {Q : D → Prop} : biD .maxI [.list (d :: ds)] Q = (((PySem.W.AlikeAll (d :: ds) ∧ PyData.depthAll (d :: ds) ≤ 60) ∧ ndlA (d :: ds) = true) ∧ Q (PySem.W.maxD d ds)) := rfl
@[simp] theorem meD_join {a : Str} {ds : List D} {Q : D → Prop} : meD .join (.str a) [.list ds] Q = (∃ ys : List Str, ds = ys.map .str ∧ (ys.map (·.length)).sum + ys.length * a.length ≤ 16777216 ∧ Q (.str (Txt.join a ys))) := rfl
@[simp] theorem meD_split {a b : Str} {Q : D → Prop} : meD .split (.str a) [.str b] Q = ((b.length == 0) = false ∧ a.length + 2 ≤ sizeLine ∧ Q (.list ((Txt.split a b).map .str))) := rfl
@[simp] theorem dsubD_s {ks : List (Str × Int)} {x : Str} {Q : D → Prop} : dsubD ks (.str x) Q = (∃ n, (ks.reverse.find? fun p => decide (p.1 = x)).map (·.2) = some n ∧ Q (.int n)) := rfl
@[simp] theorem bind_nm {i : Nat} {d : D} {ρ : SEnv} {Q : SEnv → Prop} : Pt.bind (.nm i) d ρ Q = Q (ρ.set i (.dat d)) := rfl
@[simp] theorem bind_tp {ps : List Nat} {d : D} {ρ : SEnv} {Q : SEnv → Prop} : Pt.bind (.tp ps) d ρ Q = (tupD d fun ds => setL ps ds ρ Q) := rfl
@[simp] theorem bind_tp2 {ps qs : List Nat} {a b : D} {ρ : SEnv} {Q : SEnv → Prop} : Pt.bind (.tp2 ps qs) (.tuple [a, b]) ρ Q = (tupD a fun xs => setL ps xs ρ fun ρ => tupD b fun ys => setL qs ys ρ Q) := rfl
@[simp] theorem slD1_d {d : D} {Q : D → Prop} : slD1 (some (.dat d)) Q = Q d := rfl
@[simp] theorem slD1_l {a : Addr} {ds : List D} {Q : D → Prop} : slD1 (some (.cell a (.lst ds))) Q = Q (.list ds) := rfl
@[simp] theorem slArg_d {d : D} {Q : Arg → Prop} : slArg (some (.dat d)) Q = Q (.dat d) := rfl
@[simp] theorem slArg_l {a : Addr} {ds : List D} {Q : Arg → Prop} : slArg (some (.cell a (.lst ds))) Q = Q (.dat (.list ds)) := rfl
@[simp] theorem slArg_b {a : Addr} {Q : Arg → Prop} : slArg (some (.cell a .bag)) Q = Q (.bag a) := rfl
@[simp] theorem isBag_b {a : Addr} : isBag (some (.cell a .bag)) = True := rfl
@[simp] theorem dC_none  : dC (.none) = 0 := rfl
@[simp] theorem flatD_none  : flatD (.none) = true := rfl
@[simp] theorem isNone_none  : isNone (.none) = true := rfl
@[simp] theorem isiD_int_none  : isiD .int (.none) = false := rfl
@[simp] theorem isiD_bool_none  : isiD .bool (.none) = false := rfl
@[simp] theorem isiD_str_none  : isiD .str (.none) = false := rfl
@[simp] theorem isiD_tuple_none  : isiD .tuple (.none) = false := rfl
@[simp] theorem isiD_list_none  : isiD .list (.none) = false := rfl
@[simp] theorem dC_bool {b : Bool} : dC (.bool b) = 1 := rfl
@[simp] theorem flatD_bool {b : Bool} : flatD (.bool b) = true := rfl
@[simp] theorem isNone_bool {b : Bool} : isNone (.bool b) = false := rfl
@[simp] theorem isiD_int_bool {b : Bool} : isiD .int (.bool b) = true := rfl
@[simp] theorem isiD_bool_bool {b : Bool} : isiD .bool (.bool b) = true := rfl
@[simp] theorem isiD_str_bool {b : Bool} : isiD .str (.bool b) = false := rfl
@[simp] theorem isiD_tuple_bool {b : Bool} : isiD .tuple (.bool b) = false := rfl
@[simp] theorem isiD_list_bool {b : Bool} : isiD .list (.bool b) = false := rfl
@[simp] theorem dC_int {i : Int} : dC (.int i) = 2 := rfl
@[simp] theorem flatD_int {i : Int} : flatD (.int i) = true := rfl
@[simp] theorem isNone_int {i : Int} : isNone (.int i) = false := rfl
@[simp] theorem isiD_int_int {i : Int} : isiD .int (.int i) = true := rfl
@[simp] theorem isiD_bool_int {i : Int} : isiD .bool (.int i) = false := rfl
@[simp] theorem isiD_str_int {i : Int} : isiD .str (.int i) = false := rfl
@[simp] theorem isiD_tuple_int {i : Int} : isiD .tuple (.int i) = false := rfl
@[simp] theorem isiD_list_int {i : Int} : isiD .list (.int i) = false := rfl
@[simp] theorem dC_str {x : Str} : dC (.str x) = 3 := rfl
@[simp] theorem flatD_str {x : Str} : flatD (.str x) = true := rfl
@[simp] theorem isNone_str {x : Str} : isNone (.str x) = false := rfl
@[simp] theorem isiD_int_str {x : Str} : isiD .int (.str x) = false := rfl
@[simp] theorem isiD_bool_str {x : Str} : isiD .bool (.str x) = false := rfl
@[simp] theorem isiD_str_str {x : Str} : isiD .str (.str x) = true := rfl
@[simp] theorem isiD_tuple_str {x : Str} : isiD .tuple (.str x) = false := rfl
@[simp] theorem isiD_list_str {x : Str} : isiD .list (.str x) = false := rfl
@[simp] theorem dC_list {ds : List D} : dC (.list ds) = 4 := rfl
@[simp] theorem flatD_list {ds : List D} : flatD (.list ds) = false := rfl
@[simp] theorem isNone_list {ds : List D} : isNone (.list ds) = false := rfl
@[simp] theorem isiD_int_list {ds : List D} : isiD .int (.list ds) = false := rfl
@[simp] theorem isiD_bool_list {ds : List D} : isiD .bool (.list ds) = false := rfl
@[simp] theorem isiD_str_list {ds : List D} : isiD .str (.list ds) = false := rfl
@[simp] theorem isiD_tuple_list {ds : List D} : isiD .tuple (.list ds) = false := rfl
@[simp] theorem isiD_list_list {ds : List D} : isiD .list (.list ds) = true := rfl
@[simp] theorem dC_tuple {ds : List D} : dC (.tuple ds) = 5 := rfl
@[simp] theorem flatD_tuple {ds : List D} : flatD (.tuple ds) = false := rfl
@[simp] theorem isNone_tuple {ds : List D} : isNone (.tuple ds) = false := rfl
@[simp] theorem isiD_int_tuple {ds : List D} : isiD .int (.tuple ds) = false := rfl
@[simp] theorem isiD_bool_tuple {ds : List D} : isiD .bool (.tuple ds) = false := rfl
@[simp] theorem isiD_str_tuple {ds : List D} : isiD .str (.tuple ds) = false := rfl
@[simp] theorem isiD_tuple_tuple {ds : List D} : isiD .tuple (.tuple ds) = true := rfl
@[simp] theorem isiD_list_tuple {ds : List D} : isiD .list (.tuple ds) = false := rfl
@[simp] theorem dC_dict {ks : List (D × D)} : dC (.dict ks) = 6 := rfl
@[simp] theorem flatD_dict {ks : List (D × D)} : flatD (.dict ks) = false := rfl
@[simp] theorem isNone_dict {ks : List (D × D)} : isNone (.dict ks) = false := rfl
@[simp] theorem isiD_int_dict {ks : List (D × D)} : isiD .int (.dict ks) = false := rfl
@[simp] theorem isiD_bool_dict {ks : List (D × D)} : isiD .bool (.dict ks) = false := rfl
@[simp] theorem isiD_str_dict {ks : List (D × D)} : isiD .str (.dict ks) = false := rfl
@[simp] theorem isiD_tuple_dict {ks : List (D × D)} : isiD .tuple (.dict ks) = false := rfl
@[simp] theorem isiD_list_dict {ks : List (D × D)} : isiD .list (.dict ks) = false := rfl
@[simp] theorem hideS_un {d : D} {a : Addr} {ds : List D} : hideS .un = .un := rfl
@[simp] theorem frozS_un {d : D} {a : Addr} {ds : List D} : frozS .un = .un := rfl
@[simp] theorem noCell_un {d : D} {a : Addr} {ds : List D} : noCell (some .un) = true := rfl
@[simp] theorem hideS_dat {d : D} {a : Addr} {ds : List D} : hideS (.dat d) = .dat d := rfl
@[simp] theorem frozS_dat {d : D} {a : Addr} {ds : List D} : frozS (.dat d) = .dat d := rfl
@[simp] theorem noCell_dat {d : D} {a : Addr} {ds : List D} : noCell (some (.dat d)) = true := rfl
@[simp] theorem hideS_bag {d : D} {a : Addr} {ds : List D} : hideS (.cell a .bag) = .cell a .bag := rfl
@[simp] theorem frozS_bag {d : D} {a : Addr} {ds : List D} : frozS (.cell a .bag) = .cell a .bag := rfl
@[simp] theorem noCell_bag {d : D} {a : Addr} {ds : List D} : noCell (some (.cell a .bag)) = false := rfl
@[simp] theorem hideS_lst {d : D} {a : Addr} {ds : List D} : hideS (.cell a (.lst ds)) = .un := rfl
@[simp] theorem hideS_dk {a : Addr} {ks : List (Int × Int)} : hideS (.cell a (.dk ks)) = .un := rfl
@[simp] theorem frozS_dk {a : Addr} {ks : List (Int × Int)} : frozS (.cell a (.dk ks)) = .dat (.dict (dkD ks)) := rfl
@[simp] theorem noCell_dk {a : Addr} {ks : List (Int × Int)} : noCell (some (.cell a (.dk ks))) = false := rfl
@[simp] theorem slD1_dk {a : Addr} {ks : List (Int × Int)} {Q : D → Prop} : slD1 (some (.cell a (.dk ks))) Q = Q (.dict (dkD ks)) := rfl
@[simp] theorem slArg_dk {a : Addr} {ks : List (Int × Int)} {Q : Arg → Prop} : slArg (some (.cell a (.dk ks))) Q = Q (.dat (.dict (dkD ks))) := rfl
@[simp] theorem meC_g  : meC .get = 6 := rfl
@[simp] theorem meD_get {ks : List (D × D)} {i z : Int} {Q : D → Prop} : meD .get (.dict ks) [.int i, .int z] Q = Q (((ks.find? fun p => isI i p.1).map (·.2)).getD (.int z)) := rfl
@[simp] theorem cmpD_isin_d {i : Int} {ks : List (D × D)} {Q : D → Prop} : cmpD .isin (.int i) (.dict ks) Q = Q (.bool (ks.any fun p => isI i p.1)) := by show (∃ j, PyData.int i = .int j ∧ _) = _; simp
@[simp] theorem cmpD_notin_d {i : Int} {ks : List (D × D)} {Q : D → Prop} : cmpD .notin (.int i) (.dict ks) Q = Q (.bool (!ks.any fun p => isI i p.1)) := by show (∃ j, PyData.int i = .int j ∧ _) = _; simp
@[simp] theorem biD_list_d {ks : List (D × D)} {Q : D → Prop} : biD .list [.dict ks] Q = (ks.length ≤ sizeLine ∧ Q (.list (ks.map (·.1)))) := rfl
@[simp] theorem biD_srt {ds : List D} {Q : D → Prop} : biD .srt [.list ds] Q = (∃ ns : List Int, ds = ns.map .int ∧ ∀ ms : List Int, ms.Perm ns → ms.Pairwise (· ≤ ·) → Q (.list (ms.map .int))) := rfl
@[simp] theorem frozS_lst {d : D} {a : Addr} {ds : List D} : frozS (.cell a (.lst ds)) = .dat (.list ds) := rfl
@[simp] theorem noCell_lst {d : D} {a : Addr} {ds : List D} : noCell (some (.cell a (.lst ds))) = false := rfl
@[simp] theorem one1_0  : one1 [] = True := rfl
@[simp] theorem one1_1 {a : Addr} : one1 [a] = True := rfl
end
section
variable (Φ : Nat → Spec)
mutual
@[simp] def Ex.sem : Ex → SEnv → (D → Prop) → Prop
  | .v i, ρ, Q => slD1 ρ[i]? Q
  | .k d, _, Q => Q d
  | .tup es, ρ, Q => es.sem ρ fun ds => Q (.tuple ds)
  | .lst es, ρ, Q => es.sem ρ fun ds => Q (.list ds)
  | .bin o a b, ρ, Q => a.sem ρ fun x => b.sem ρ fun y => binD o x y Q
  | .neg a, ρ, Q => a.sem ρ fun x => intD x fun i => Q (.int (-i))
  | .cmp o a b, ρ, Q => a.sem ρ fun x => b.sem ρ fun y => cmpD o x y Q
  | .chn o p a b c, ρ, Q => a.sem ρ fun x => b.sem ρ fun y => cmpD o x y fun r => boolD r fun k => if k = true then c.sem ρ fun z => cmpD p y z Q else Q (.bool false)
  | .and a b, ρ, Q => a.sem ρ fun x => boolD x fun k => if k = true then b.sem ρ Q else Q (.bool false)
  | .or a b, ρ, Q => a.sem ρ fun x => boolD x fun k => if k = true then Q (.bool true) else b.sem ρ Q
  | .not a, ρ, Q => a.sem ρ fun x => boolD x fun k => Q (.bool (!k))
  | .ite t a b, ρ, Q => t.sem ρ fun k => if k = true then a.sem ρ Q else b.sem ρ Q
  | .ix a b, ρ, Q => a.sem ρ fun x => b.sem ρ fun y => ixD x y Q
  | .sl a lo hi, ρ, Q => a.sem ρ fun x => lo.sem ρ fun l => intD l fun l => hi.sem ρ fun h => intD h fun h => slD x (some l) (some h) Q
  | .sll a lo, ρ, Q => a.sem ρ fun x => lo.sem ρ fun l => intD l fun l => slD x (some l) none Q
  | .slh a hi, ρ, Q => a.sem ρ fun x => hi.sem ρ fun h => intD h fun h => slD x none (some h) Q
  | .rev a, ρ, Q => a.sem ρ fun x => revD x Q
  | .rep a b, ρ, Q => a.sem ρ fun x => b.sem ρ fun y => repD x y Q
  | .met m o es, ρ, Q => o.sem ρ fun d => dC d = meC m ∧ es.sem ρ fun ds => meD m d ds Q
  | .dsub ks e, ρ, Q => e.sem ρ fun d => dsubD ks d Q
  | .kix ds e, ρ, Q => e.sem ρ fun d => kixD ds d Q
  | .bx i n, ρ, Q => isBag ρ[i]? ∧ ∀ x : Int, 0 ≤ x → (n = 1 → x < 2147483179) → Q (.int x)
  | .call f es, ρ, Q => es.asem ρ fun as => one1 (argX as) ∧ Φ f as Q
  | .bi b es, ρ, Q => es.sem ρ fun ds => biD b ds Q
  | .isi a t, ρ, Q => a.sem ρ fun x => Q (.bool (isiD t x))
  | .comp e p it c vs, ρ, Q => okW (froz ρ) vs = true ∧ it.sem ρ fun ds => compL (fun d k => p.bind d (wipeE (froz ρ) vs) fun ρ1 => c.sem ρ1 fun b => if b = true then e.sem ρ1 fun y => k [y] else k []) ds [] fun es => Q (.list es)
@[simp] def Exs.sem : Exs → SEnv → (List D → Prop) → Prop
  | .nil, _, Q => Q []
  | .cons e es, ρ, Q => e.sem ρ fun d => es.sem ρ fun ds => Q (d :: ds)
@[simp] def Exs.asem : Exs → SEnv → (List Arg → Prop) → Prop
  | .nil, _, Q => Q []
  | .cons (.v i) es, ρ, Q => slArg ρ[i]? fun a => es.asem ρ fun as => Q (a :: as)
  | .cons e es, ρ, Q => e.sem ρ fun d => es.asem ρ fun as => Q (.dat d :: as)
@[simp] def Ts.sem : Ts → SEnv → (Bool → Prop) → Prop
  | .tt, _, Q => Q true
  | .of e, ρ, Q => e.sem ρ fun d => truD d Q
  | .and a b, ρ, Q => a.sem ρ fun k => if k = true then b.sem ρ Q else Q false
  | .or a b, ρ, Q => a.sem ρ fun k => if k = true then Q true else b.sem ρ Q
  | .not a, ρ, Q => a.sem ρ fun k => Q (!k)
@[simp] def It.sem : It → SEnv → (List D → Prop) → Prop
  | .of e, ρ, Q => e.sem ρ fun d => itemsD d Q
  | .rng1 e, ρ, Q => e.sem ρ fun d => intD d fun n => inR n ∧ Q (rngL 0 n)
  | .rng2 a b, ρ, Q => a.sem ρ fun x => intD x fun i => b.sem ρ fun y => intD y fun j => (inR i ∧ inR j) ∧ Q (rngL i j)
  | .enum e, ρ, Q => e.sem ρ fun d => itemsD d fun ds => Q (enumL 0 ds)
  | .zip a b, ρ, Q => a.sem ρ fun x => b.sem ρ fun y => tupD x fun xs => tupD y fun ys => Q (zipL xs ys)
end
@[simp] def putS (fz : Bool) (ρ : SEnv) (td1 : Bool) : SEnv := if fz then (if td1 then ρ else froz ρ) else ρ
@[simp] def seenS (fz : Bool) (ρ : SEnv) : SEnv := if fz then ρ else hide ρ
mutual
@[simp] def Sm.sem : Sm → SEnv → (SEnv → Prop) → (SEnv → D → Prop) → Prop
  | .set fz i e, ρ, nx, _ => e.sem Φ (seenS fz ρ) fun d => nx ((putS fz ρ (td d)).set i (.dat d))
  | .own i e, ρ, nx, _ => e.sem Φ ρ fun d => match d with
    | .list ds => tdA ds = true ∧ ∀ a, nx (ρ.set i (.cell a (.lst ds)))
    | _ => False
  | .bag i e, ρ, nx, _ => e.sem Φ ρ fun d => bagD d ∧ ∀ a, nx (ρ.set i (.cell a .bag))
  | .app i e, ρ, nx, _ => match ρ[i]? with
    | some (.cell a (.lst ds)) => e.sem Φ ρ fun d => td d = true ∧ ds.length < sizeLine ∧ nx (ρ.set i (.cell a (.lst (ds ++ [d]))))
    | _ => False
  | .dnew i j n, ρ, nx, _ => ∀ a, nx ((ρ.set i (.cell a (.dk []))).set j (.dat (.int n)))
  | .dput i k e, ρ, nx, _ => match ρ[i]? with
    | some (.cell a (.dk kvs)) => e.sem Φ ρ fun y => k.sem Φ ρ fun x => intD x fun g => intD y fun z => kvs.length < sizeLine ∧ nx (ρ.set i (.cell a (.dk (putI kvs g z))))
    | _ => False
  | .bw i n e, ρ, nx, _ => e.sem Φ ρ fun d => isBag ρ[i]? ∧ intD d fun v => 0 ≤ v ∧ (n = 1 → v < 2147483179) ∧ nx ρ
  | .par fz i j a b, ρ, nx, _ => a.sem Φ (seenS fz ρ) fun x => b.sem Φ (seenS fz ρ) fun y => nx (((putS fz ρ (td x && td y)).set i (.dat x)).set j (.dat y))
  | .tup fz p e, ρ, nx, _ => e.sem Φ (seenS fz ρ) fun d => p.bind d (putS fz ρ (td d)) nx
  | .ex e, ρ, nx, _ => e.sem Φ ρ fun _ => nx ρ
  | .ret e, ρ, _, rt => e.sem Φ ρ fun d => rt ρ d
  | .ite t a b, ρ, nx, rt => t.sem Φ ρ fun k => if k = true then a.sem ρ nx rt else b.sem ρ nx rt
  | .for_ fz p it b, ρ, nx, rt => it.sem Φ (seenS fz ρ) fun ds => forL (fun d ρ k => p.bind d ρ fun ρ1 => b.sem ρ1 k rt) ds (putS fz ρ false) nx
  | .while_ t b, ρ, nx, rt => ∃ (I : SEnv → Prop) (m : SEnv → Nat), I ρ ∧ ∀ ρ, I ρ → t.sem Φ ρ fun k => if k = true then b.sem ρ (fun ρ' => I ρ' ∧ m ρ' < m ρ) rt else nx ρ
  | .never, _, _, _ => False
@[simp] def Sms.sem : Sms → SEnv → (SEnv → Prop) → (SEnv → D → Prop) → Prop
  | .nil, ρ, nx, _ => nx ρ
  | .cons s ss, ρ, nx, rt => s.sem ρ (fun ρ' => ss.sem ρ' nx rt) rt
end
end
end CC

namespace CC
open PySem PySem.Spec PyProof.Rows L2
/-! ### the readings -/
def NewC (K : PySem.W.Frag) (W : List Addr) (n : Bool) (H : Hp) (v : V) (H' : Hp) (d : D) : Prop := n = true → ∀ ds, d = .list ds → ∃ p xs, v = .ref p ∧ H p = none ∧ H' p = some (.lst xs) ∧ xs.length ≤ sizeLine ∧ RpA K W H' xs ds
abbrev SemE := SEnv → (D → Prop) → Prop
abbrev SemL := SEnv → (List D → Prop) → Prop
abbrev SemA := SEnv → (List Arg → Prop) → Prop
abbrev SemT := SEnv → (Bool → Prop) → Prop
section
variable (K : PySem.W.Frag)
def tE (n : Bool) (f : SemE) : TE := fun σ H Q => ∃ W0 ρ Qd, EnvR K W0 H σ ρ ∧ f ρ Qd ∧ ∀ v H' d, Qd d → EnvR K W0 H' σ ρ → Ext (xA ρ) H H' → Rp K (W0 ++ xA ρ) H' v d → NewC K (W0 ++ xA ρ) n H v H' d → Q v H'
def tT (f : SemT) : TT := fun σ H Q => ∃ W0 ρ Qd, EnvR K W0 H σ ρ ∧ f ρ Qd ∧ ∀ b H', Qd b → EnvR K W0 H' σ ρ → Ext (xA ρ) H H' → Q b H'
def tL (n : Nat) (f : SemL) : TA := fun σ H Q => ∃ W0 ρ Qd, EnvR K W0 H σ ρ ∧ f ρ Qd ∧ ∀ vs H' ds, Qd ds → EnvR K W0 H' σ ρ → Ext (xA ρ) H H' → RpA K (W0 ++ xA ρ) H' vs ds → ds.length = n → Q vs H'
def ArgR (W : List Addr) (H : Hp) (v : V) : Arg → Prop
  | .dat d => Rp K W H v d
  | .bag a => v = .ref a ∧ ClR K [] H a .bag ∧ a ∈ W
def tA (f : SemA) : TA := fun σ H Q => ∃ W0 ρ Qd, EnvR K W0 H σ ρ ∧ f ρ Qd ∧ ∀ vs H' as, Qd as → EnvR K W0 H' σ ρ → Ext (xA ρ) H H' → Paired (ArgR K (W0 ++ xA ρ) H') vs as → (∀ a ∈ argX as, a ∈ xA ρ) → Q vs H'
/-- an iterator that walks data -/
structure WkR (W : List Addr) (J : L2.It) (ds : List D) (H1 : Hp) : Prop where
  size : ds.length ≤ sizeLine
  go : ∀ i H2, Ext W H1 H2 → i < ds.length → J.go i H2
  yld : ∀ i H2 x H3, Ext W H1 H2 → J.yld i H2 x H3 → i < ds.length → Ext [] H2 H3 ∧ ∀ N, (∀ a ∈ N, H1 a = none ∧ H2 a ≠ none) → ∀ d, ds[i]? = some d → Rp K (N ++ W) H3 x d
  stop : ∀ i H2, Ext W H1 H2 → ds.length ≤ i → J.stop i H2
def tI (f : SemL) : TI := fun σ H R => ∃ W0 ρ Qd, EnvR K W0 H σ ρ ∧ f ρ Qd ∧ ∀ J H' ds, Qd ds → EnvR K W0 H' σ ρ → Ext (xA ρ) H H' → WkR K (W0 ++ xA ρ) J ds H' → R J H'
def Pt.ids : Pt → List Nat
  | .nm i => [i]
  | .tp ps => ps
  | .tp2 ps qs => ps ++ qs
def tG (p : Pt) : TG := fun v σ H Q => ∃ W0 ρ d k, EnvR K W0 H σ ρ ∧ Rp K (W0 ++ cellA ρ) H v d ∧ p.bind d ρ k ∧
  ∀ σ' ρ', k ρ' → EnvR K W0 H σ' ρ' → (∀ a ∈ cellA ρ', a ∈ cellA ρ) → (∀ a ∈ xA ρ', a ∈ xA ρ) → (∀ vs, (∀ i ∈ p.ids, i ∈ vs) → wipe σ' vs = wipe σ vs) → (∀ i, i ∉ p.ids → ρ'[i]? = ρ[i]?) → Q σ' H
def Ev (ρ : SEnv) (H : Hp) (ρ' : SEnv) (H' : Hp) : Prop := Ext (cellA ρ) H H' ∧ ∀ a ∈ cellA ρ', a ∈ cellA ρ ∨ H a = none
def tS (f : SEnv → (SEnv → Prop) → (SEnv → D → Prop) → Prop) : TS := fun Dn σ H => ∃ W0 ρ nx rt, EnvR K W0 H σ ρ ∧ f ρ nx rt ∧
  (∀ σ' H' ρ', nx ρ' → EnvR K W0 H' σ' ρ' → Ev ρ H ρ' H' → Dn.nx σ' H') ∧ (∀ v H' σ' ρ' d, rt ρ' d → EnvR K W0 H' σ' ρ' → Ev ρ H ρ' H' → Rp K W0 H' v d → Dn.rt v H')
end
section
variable {X : Cx} {e : Expr} {es : List Expr} {st : Stmt} {sts : List Stmt}
theorem PEi {t t' : TE} (h : PE X e t) (i : ∀ σ H Q, t' σ H Q → t σ H Q) : PE X e t' := ⟨fun pins s σ H Q I q => h.run pins s σ H Q I (i σ H Q q)⟩
theorem PTi {t t' : TT} (h : PT X e t) (i : ∀ σ H Q, t' σ H Q → t σ H Q) : PT X e t' := ⟨fun pins s σ H Q I q => h.run pins s σ H Q I (i σ H Q q)⟩
theorem PWi {t t' : TT} (h : PW X e t) (i : ∀ σ H Q, t' σ H Q → t σ H Q) : PW X e t' := ⟨fun wh pins s σ H Q I q => h.run wh pins s σ H Q I (i σ H Q q)⟩
theorem PAi {t t' : TA} (h : PA X es t) (i : ∀ σ H Q, t' σ H Q → t σ H Q) : PA X es t' := ⟨fun pos pins s σ H Q I q => h.run pos pins s σ H Q I (i σ H Q q)⟩
theorem PSi {t t' : TS} (h : PS X st t) (i : ∀ D σ H, t' D σ H → t D σ H) : PS X st t' := ⟨fun pins s σ H D I q => h.run pins s σ H D I (i D σ H q)⟩
theorem PSsi {t t' : TS} (h : PSs X sts t) (i : ∀ D σ H, t' D σ H → t D σ H) : PSs X sts t' := ⟨fun pins s σ H D I q => h.run pins s σ H D I (i D σ H q)⟩
theorem PGi {t t' : TG} (h : PG X e t) (i : ∀ v σ H Q, t' v σ H Q → t v σ H Q) : PG X e t' := ⟨fun pins s σ H v u Q I r q => h.run pins s σ H v u Q I r (i v σ H Q q)⟩
theorem PGsi {t t' : TGs} (h : PGs X es t) (i : ∀ v σ H Q, t' v σ H Q → t v σ H Q) : PGs X es t' := ⟨fun pins s σ H v u Q I r q => h.run pins s σ H v u Q I r (i v σ H Q q)⟩
theorem PIi {tg : Expr} {t t' : TI} (h : PI X tg e t) (i : ∀ σ H R, t' σ H R → t σ H R) : PI X tg e t' := ⟨fun pins s σ H R I q => h.run pins s σ H R I (i σ H R q)⟩
end
/-! ### slots read -/
section
variable {K : PySem.W.Frag} {W W' W0 : List Addr} {H H' : Hp} {σ : L2.St} {ρ ρ' : SEnv}
theorem app_sub {A B C : List Addr} (h : ∀ a ∈ B, a ∈ C) : ∀ a ∈ A ++ B, a ∈ A ++ C := fun a m => (List.mem_append.mp m).elim (fun z => List.mem_append_left _ z) fun z => List.mem_append_right _ (h a z)
theorem EnvR.read (E : EnvR K W0 H σ ρ) {i : Nat} {Q : D → Prop} (h : slD1 ρ[i]? Q) : ∃ v d, σ[i]? = some (some v) ∧ Q d ∧ Rp K (W0 ++ xA ρ) H v d := by
  cases e : ρ[i]? with
  | none => rw [e] at h; exact h.elim
  | some s =>
    rw [e] at h
    obtain ⟨o, ho, r⟩ := E.slot i s e
    cases s with
    | un => exact h.elim
    | dat d =>
      obtain ⟨u, rfl, r⟩ := r
      exact ⟨u, d, ho, h, Rp.mono (app_sub fun a m => xA_sub m) d r⟩
    | cell a c =>
      cases c with
      | bag => exact h.elim
      | lst ds =>
        obtain ⟨rfl, vs, q, z, r, t⟩ := r
        refine ⟨.ref a, .list ds, ho, h, .lst (.inl ⟨.inl q, fun m => ?_⟩) z (RpA.mono (app_sub fun a m => xA_sub m) ds r)⟩
        rcases List.mem_append.mp m with m | m
        · exact E.ow i a _ e (fun z => nomatch z) m
        · obtain ⟨j, hj⟩ := mem_xA.mp m
          have := E.one i j a _ _ e hj
          subst this
          rw [e] at hj; cases hj
      | dk kvs =>
        obtain ⟨rfl, q⟩ := r
        refine ⟨.ref a, .dict (dkD kvs), ho, h, .dct q fun m => ?_⟩
        rcases List.mem_append.mp m with m | m
        · exact E.ow i a _ e (fun z => nomatch z) m
        · obtain ⟨j, hj⟩ := mem_xA.mp m
          have := E.one i j a _ _ e hj
          subst this
          rw [e] at hj; cases hj
theorem NewC.no {v : V} {d : D} : NewC K W false H v H' d := fun z => nomatch z
theorem NewC.new {n : Bool} {H1 : Hp} {p : Addr} {vs : List V} {ds : List D} (h0 : H p = none) (h1 : H1 p = none) (hz : vs.length ≤ sizeLine) (r : RpA K W H1 vs ds) : NewC K W n H (.ref p) (upd H1 p (.lst vs)) (.list ds) := fun _ es e => by
  cases e
  exact ⟨p, vs, rfl, h0, upd_same, hz, RpA.ext (Ext.new (W := []) h1) (fun _ z => nomatch z) _ r⟩
theorem NewC.data {n : Bool} {v : V} {d : D} (h : ∀ ds, d ≠ .list ds) : NewC K W n H v H' d := fun _ ds e => (h ds e).elim
end
section
variable {X : Cx} {f g : SemE} {a b c : Expr} {pos : Pos} {n m m' : Bool}
theorem s_v {i : Nat} {x : Str} (hN : X.N[i]? = some x) (hv : Vis X.env.scope x) (hd : (x == ("__debug__" : Str)) = false) (hcd : (x == ("__classdict__" : Str)) = false) :
    PE X (.Name x pos) (tE X.K false fun ρ Q => slD1 ρ[i]? Q) := PEi (pe_var hN hv hd hcd) fun σ H Q h => by
  obtain ⟨W0, ρ, Qd, E, h, k⟩ := h
  obtain ⟨v, d, e, q, r⟩ := E.read h
  exact ⟨v, e, k v H d q E (Ext.refl _ _) r .no⟩
theorem s_k {t : TE} {d : D} (h : PE X a t) (ht : ∀ σ H Q, (∀ v, (∀ W, Rp X.K W H v d) → Q v H) → t σ H Q) (hl : ∀ ds, d ≠ .list ds) : PE X a (tE X.K false fun ρ Q => Q d) := PEi h fun σ H Q h => by
  obtain ⟨W0, ρ, Qd, E, h, k⟩ := h
  exact ht σ H Q fun v r => k v H d h E (Ext.refl _ _) (r _) .no
theorem s_int {i : Int} {j : Nat} : PE X (.Constant (.int i) j pos) (tE X.K false fun ρ Q => Q (.int i)) := s_k pe_int (fun σ H Q h => h _ fun _ => .int i) (fun _ z => nomatch z)
theorem s_bool {i : Bool} {j : Nat} : PE X (.Constant (.bool i) j pos) (tE X.K false fun ρ Q => Q (.bool i)) := s_k pe_bl (fun σ H Q h => h _ fun _ => .bl i) (fun _ z => nomatch z)
theorem s_none {j : Nat} : PE X (.Constant .none j pos) (tE X.K false fun ρ Q => Q .none) := s_k pe_non (fun σ H Q h => h _ fun _ => .non) (fun _ z => nomatch z)
theorem s_str {i : Str} {j : Nat} : PE X (.Constant (.str i) j pos) (tE X.K false fun ρ Q => Q (.str i)) := s_k pe_str (fun σ H Q h => h _ fun _ => .str i) (fun _ z => nomatch z)
theorem s_glob {x : Str} {v : V} {u : Value} {d : D} (hg : Gl X x) (hm : X.mg x = some u) (r : RelV v u) (hr : ∀ W H, Rp X.K W H v d) (hl : ∀ ds, d ≠ .list ds) (hd : (x == ("__debug__" : Str)) = false) : PE X (.Name x pos) (tE X.K false fun ρ Q => Q d) :=
  s_k (pe_glob hg hm r hd) (fun σ H Q h => h _ fun W => hr W H) hl
/-! ### two values, an operation -/
/-- an operation by data: W what is kept clear of -/
def OpD (K : PySem.W.Frag) (r : R2) (f : D → D → (D → Prop) → Prop) (n : Bool) : Prop := ∀ W H v u d e Q Qd, Rp K W H v d → Rp K W H u e → NoTup W H → f d e Qd → (∀ w H' z, Qd z → Ext [] H H' → Rp K W H' w z → NewC K W n H w H' z → Q w H') → r v u H Q
theorem NoTup.xa {K : PySem.W.Frag} {W0 : List Addr} {H : Hp} {σ : L2.St} {ρ : SEnv} (E : EnvR K W0 H σ ρ) : NoTup (W0 ++ xA ρ) H := E.nt.append (E.ntc.mono fun a m => xA_sub m)
theorem s_bin {op : Operator} {r : R2} {h : D → D → (D → Prop) → Prop} (ho : OpR X (binaryOp op) r) (hr : OpD X.K r h n) (ha : PE X a (tE X.K m f)) (hb : PE X b (tE X.K m' g)) : PE X (.BinOp a op b pos) (tE X.K n fun ρ Q => f ρ fun x => g ρ fun y => h x y Q) :=
  PEi (pe_op ho ha hb) fun σ H Q q => by
    obtain ⟨W0, ρ, Qd, E, q, k⟩ := q
    refine ⟨W0, ρ, _, E, q, fun v H1 d q1 E1 X1 r1 _ => ⟨W0, ρ, _, E1, q1, fun u H2 e q2 E2 X2 r2 _ => ?_⟩⟩
    refine hr (W0 ++ xA ρ) H2 v u d e Q Qd (Rp.ext X2 (fun _ z => List.mem_append_right _ z) d r1) r2 (NoTup.xa E2) q2 fun w H3 z q3 X3 r3 nw => ?_
    refine k w H3 z q3 (E2.grow X3) ((X1.trans X2).trans (X3.mono fun _ z => nomatch z)) r3 fun hn ds e => ?_
    obtain ⟨p, xs, e1, e2, e3⟩ := nw hn ds e
    exact ⟨p, xs, e1, X1.none (X2.none e2), e3⟩
theorem s_un {op : UnaryOp} {r : V → Hp → VK → Prop} {h : D → (D → Prop) → Prop} (ho : UnR X (unaryOp op) r) (hr : ∀ W H v d Q Qd, Rp X.K W H v d → h d Qd → (∀ w z, Qd z → Rp X.K W H w z → (∀ ds, z ≠ .list ds) → Q w H) → r v H Q) (ha : PE X a (tE X.K m f)) :
    PE X (.UnaryOp op a pos) (tE X.K false fun ρ Q => f ρ fun x => h x Q) := PEi (pe_un ho ha) fun σ H Q q => by
  obtain ⟨W0, ρ, Qd, E, q, k⟩ := q
  refine ⟨W0, ρ, _, E, q, fun v H1 d q1 E1 X1 r1 _ => ?_⟩
  exact hr _ H1 v d Q Qd r1 q1 fun w z qz rz nl => k w H1 z qz E1 X1 rz .no
theorem s_neg (ha : PE X a (tE X.K m f)) : PE X (.UnaryOp .USub a pos) (tE X.K false fun ρ Q => f ρ fun x => intD x fun i => Q (.int (-i))) :=
  s_un (h := fun x Q => intD x fun i => Q (.int (-i))) un_neg (fun W H v d Q Qd r q k => by
    cases d with
    | int i => cases r; exact ⟨i, rfl, k _ _ q (.int _) fun _ z => nomatch z⟩
    | _ => exact q.elim) ha
theorem s_cmp {op : CmpOp} {r : R2} {h : D → D → (D → Prop) → Prop} (ho : OpR X (compareOp op) r) (hr : OpD X.K r h true) (ha : PE X a (tE X.K m f)) (hb : PE X b (tE X.K m' g)) (hm : behindInMarks op b = false) : PE X (.Compare a [op] [b] pos) (tE X.K false fun ρ Q => f ρ fun x => g ρ fun y => h x y Q) :=
  PEi (pe_cmpR ho ha hb hm) fun σ H Q q => by
    obtain ⟨W0, ρ, Qd, E, q, k⟩ := q
    refine ⟨W0, ρ, _, E, q, fun v H1 d q1 E1 X1 r1 _ => ⟨W0, ρ, _, E1, q1, fun u H2 e q2 E2 X2 r2 _ => ?_⟩⟩
    refine hr (W0 ++ xA ρ) H2 v u d e Q Qd (Rp.ext X2 (fun _ z => List.mem_append_right _ z) d r1) r2 (NoTup.xa E2) q2 fun w H3 z q3 X3 r3 nw => ?_
    exact k w H3 z q3 (E2.grow X3) ((X1.trans X2).trans (X3.mono fun _ z => nomatch z)) r3 .no
end
end CC

namespace CC
open PySem PySem.Spec PyProof.Rows L2
/-! ### the operations' rules -/
theorem opOr {X : Cx} {f : Value → Value → Sem Value} {r r' : R2} (h : OpR X f r) (h' : OpR X f r') : OpR X f (fun x y H Q => r x y H Q ∨ r' x y H Q) := by
  intro pins s σ H x y v u Q I rx ry q
  rcases q with q | q
  · exact h pins s σ H x y v u Q I rx ry q
  · exact h' pins s σ H x y v u Q I rx ry q
section
variable {prog : Program} {w : World} {A : Around} {E : Value → Shared → Prop} {s : Shared}
theorem add_listsG {l b : Addr} {vs ws : List Value} {Q : Value → Shared → Prop} (hl : s.heap.IsList l vs.toArray) (hb : s.heap.IsList b ws.toArray)
    (h : Q (.ref s.heap.objs.size) { s with heap := s.heap.push { cls := .type "list", data := .seq (vs ++ ws).toArray } })
    (hsz : vs.length + ws.length ≤ sizeLine) : wpAny (model prog w) A (binaryOp .Add (.ref l) (.ref b)) Q E s := by
  obtain ⟨⟨cls, dd, data, sl⟩, ho, hc, n, hd⟩ := id hl
  obtain ⟨⟨cls2, dd2, data2, sl2⟩, ho2, hc2, n2, hd2⟩ := id hb
  simp only at hc hd hc2 hd2
  subst hc hd hc2 hd2
  have e : vs.toArray ++ ws.toArray = (vs ++ ws).toArray := by simp
  refine concat_meets ⟨_, ho, rfl⟩ ⟨_, ho2, rfl⟩ noFill_list_add seq_list_add PySem.F.slot_list_add PySem.F.entry_list_add (PySem.F.args_list_add_2 _ _) (list_addW l b vs.toArray ws.toArray n n2 dd dd2 sl sl2 (by simpa using hsz)) ⟨ho, ho2, ?_⟩
  rw [e]
  exact h
end
section
variable {X : Cx}
def rCatG (K : PySem.W.Frag) : R2 := fun x y H Q => ∃ a b xs ys, x = .ref a ∧ y = .ref b ∧ SqL K H a xs ∧ SqL K H b ys ∧ xs.length + ys.length ≤ sizeLine ∧ ∀ p, H p = none → Q (.ref p) (upd H p (.lst (xs ++ ys)))
theorem op_catG : OpR X (binaryOp .Add) (rCatG X.K) := by
  intro pins s σ H x y v u Q I rx ry h
  obtain ⟨a, b, xs, ys, rfl, rfl, ha, hb, hz, q⟩ := h
  cases rx
  cases ry
  obtain ⟨its, r, p, _⟩ := I.list ha
  obtain ⟨its2, r2, p2, _⟩ := I.list hb
  refine add_listsG p.isList p2.isList ?_ (by rw [← r.length, ← r2.length]; exact hz)
  exact ⟨.ref _, _, I.lnew (t' := s.toks) (r.append r2) (by rw [List.length_append]; omega), rfl, q _ I.fresh⟩
abbrev rAddS : R2 := fun x y H Q => ∃ i j, x = .str i ∧ y = .str j ∧ i.length + j.length ≤ sizeLine ∧ Q (.str (i ++ j)) H
abbrev rAddD (K : PySem.W.Frag) : R2 := fun x y H Q => rI0 (fun i j => .int (i + j)) x y H Q ∨ rAddS x y H Q ∨ rCatG K x y H Q ∨ rCatA K x y H Q
theorem op_addD : OpR X (binaryOp .Add) (rAddD X.K) := opOr op_add (opOr op_add_str (opOr op_catG op_catA))
variable {K : PySem.W.Frag}
theorem sizeNil : ([] : List V).length ≤ sizeLine := Nat.zero_le _
theorem od_add : OpD K (rAddD K) (binD .add) true := by
  intro W H v u d e Q Qd rd re nt h k
  cases d with
  | int i =>
    cases e with
    | int j => cases rd; cases re; exact .inl ⟨i, j, rfl, rfl, k _ _ _ h (Ext.refl _ _) (.int _) (.data fun _ z => nomatch z)⟩
    | _ => exact h.elim
  | str x =>
    cases e with
    | str y => cases rd; cases re; exact .inr (.inl ⟨x, y, rfl, rfl, h.1, k _ _ _ h.2 (Ext.refl _ _) (.str _) (.data fun _ z => nomatch z)⟩)
    | _ => exact h.elim
  | list ds =>
    cases e with
    | list es =>
      cases rd with
      | lst q z t =>
        cases re with
        | lst q' z' t' =>
          have hl := h.1
          rw [← t.length, ← t'.length] at hl
          refine .inr (.inr (.inl ⟨_, _, _, _, rfl, rfl, sqL_of q, sqL_of q', hl, fun p hp => ?_⟩))
          exact k _ _ _ h.2 (Ext.new hp) (Rp.newLst hp (by rw [List.length_append]; exact hl) (nt.free hp) (t.append t')) (.new hp hp (by rw [List.length_append]; exact hl) (t.append t'))
    | _ => exact h.elim
  | tuple ds =>
    cases e with
    | tuple es =>
      cases rd with
      | tup q z t =>
        cases re with
        | tup q' z' t' =>
          have hl := h.1
          rw [← t.length, ← t'.length] at hl
          refine .inr (.inr (.inr ⟨_, _, _, _, rfl, rfl, sqT_of q, sqT_of q', hl, fun ex => ?_, fun ex ey => ?_, fun ex ey p hp => ?_⟩))
          · subst ex
            cases t
            exact k _ _ _ h.2 (Ext.refl _ _) (.tup q' z' (by simpa using t')) (.data fun _ z => nomatch z)
          · subst ey
            cases t'
            exact k _ _ _ h.2 (Ext.refl _ _) (.tup q z (by simpa using t)) (.data fun _ z => nomatch z)
          · exact k _ _ _ h.2 (Ext.new hp) (Rp.newTup hp (by rw [List.length_append]; exact hl) (nt.free hp) (t.append t')) (.data fun _ z => nomatch z)
    | _ => exact h.elim
  | _ => exact h.elim
theorem od_int {g : Int → Int → Int} {C : Int → Int → Prop} {f : D → D → (D → Prop) → Prop} (hf : ∀ d e Q, f d e Q → ∃ i j, d = .int i ∧ e = .int j ∧ C i j ∧ Q (.int (g i j))) : OpD K (rI C fun i j => .int (g i j)) f true := by
  intro W H v u d e Q Qd rd re nt h k
  obtain ⟨i, j, rfl, rfl, c, q⟩ := hf _ _ _ h
  cases rd; cases re
  exact ⟨i, j, rfl, rfl, c, k _ _ _ q (Ext.refl _ _) (.int _) (.data fun _ z => nomatch z)⟩
theorem od_sub : OpD K (rI0 fun i j => .int (i - j)) (binD .sub) true := by
  intro W H v u d e Q Qd rd re nt h k
  cases d with
  | int i =>
    cases e with
    | int j => cases rd; cases re; exact ⟨i, j, rfl, rfl, k _ _ _ h (Ext.refl _ _) (.int _) (.data fun _ z => nomatch z)⟩
    | _ => exact h.elim
  | _ => cases e <;> exact h.elim
theorem od_mul : OpD K (rI CMul fun i j => .int (i * j)) (binD .mul) true := od_int fun d e Q h => by
  cases d with
  | int i =>
    cases e with
    | int j => exact ⟨i, j, rfl, rfl, h.1, h.2⟩
    | _ => exact h.elim
  | _ => cases e <;> exact h.elim
theorem od_fdiv : OpD K (rI CDivW fun i j => .int (i / j)) (binD .fdiv) true := od_int fun d e Q h => by
  cases d with
  | int i =>
    cases e with
    | int j => exact ⟨i, j, rfl, rfl, h.1, h.2⟩
    | _ => exact h.elim
  | _ => cases e <;> exact h.elim
theorem od_mod : OpD K (rI (fun _ j => 0 < j) fun i j => .int (i % j)) (binD .mod) true := od_int (C := fun _ j => 0 < j) fun d e Q h => by
  cases d with
  | int i =>
    cases e with
    | int j => exact ⟨i, j, rfl, rfl, h.1, h.2⟩
    | _ => exact h.elim
  | _ => cases e <;> exact h.elim
theorem od_pow : OpD K (rI CPow fun i j => .int (i ^ j.toNat)) (binD .pow) true := od_int fun d e Q h => by
  cases d with
  | int i =>
    cases e with
    | int j => exact ⟨i, j, rfl, rfl, h.1, h.2⟩
    | _ => exact h.elim
  | _ => cases e <;> exact h.elim
/-! ### comparisons -/
abbrev rEqA (K : PySem.W.Frag) : R2 := fun x y H Q => (flatV x = true ∧ flatV y = true ∧ Q (.bl (eqV x y)) H) ∨ rEqD K x y H Q
abbrev rNeA (K : PySem.W.Frag) : R2 := fun x y H Q => (flatV x = true ∧ flatV y = true ∧ Q (.bl (!eqV x y)) H) ∨ rNeD K x y H Q
def flatP : V → D
  | .non => .none
  | .bl b => .bool b
  | .int i => .int i
  | .str x => .str x
  | _ => .none
theorem flat_dp {K : PySem.W.Frag} {H : Hp} {v : V} (h : flatV v = true) : Dp K H v (flatP v) := by
  cases v with
  | non => exact .non
  | bl b => exact .bl b
  | int i => exact .int i
  | str x => exact .str x
  | _ => exact absurd (show false = true from h) Bool.false_ne_true
theorem eqv_flat {x y : V} (hx : flatV x = true) (hy : flatV y = true) : PyData.eqv (flatP x) (flatP y) = eqV x y := by
  cases x <;> first | (cases y <;> first | rfl | exact absurd (show false = true from hy) Bool.false_ne_true) | exact absurd (show false = true from hx) Bool.false_ne_true
/-- == of flat values at the level of values -/
theorem op_eqFl : OpR X (compareOp .Eq) (fun x y H Q => flatV x = true ∧ flatV y = true ∧ Q (.bl (eqV x y)) H) := by
  intro pins s σ H x y v u Q I rx ry h
  obtain ⟨fx, fy, q⟩ := h
  have fin : ∀ k, k = eqV x y → EP X pins σ Q (.bool k) s := fun k e => by
    subst e; exact ⟨.bl _, H, I, rfl, q⟩
  cases x with
  | non =>
    cases rx
    cases y with
    | non => cases ry; exact PySem.EqNone.eq_none_none (fin _ rfl)
    | bl j => cases ry; exact PySem.EqNone.eq_none_bool (fin _ rfl)
    | int j => obtain ⟨t', rfl⟩ := ry; exact PySem.EqNone.eq_none_int (fin _ rfl)
    | str j => obtain ⟨t', rfl⟩ := ry; exact PySem.EqNone.eq_none_str (fin _ rfl)
    | _ => exact absurd (show false = true from fy) Bool.false_ne_true
  | bl i =>
    cases rx
    cases y with
    | non => cases ry; exact PySem.EqNone.eq_bool_none (fin _ rfl)
    | bl j => cases ry; exact eq_bool (fin _ rfl)
    | int j => obtain ⟨t', rfl⟩ := ry; exact PySem.EqBoolInt.eq_bool_int (fin _ rfl)
    | str j => obtain ⟨t', rfl⟩ := ry; exact PySem.EqMixed.eq_bool_str (fin _ rfl)
    | _ => exact absurd (show false = true from fy) Bool.false_ne_true
  | int i =>
    obtain ⟨t, rfl⟩ := rx
    cases y with
    | non => cases ry; exact PySem.EqNone.eq_int_none (fin _ rfl)
    | bl j => cases ry; exact PySem.EqBoolInt.eq_int_bool (fin _ rfl)
    | int j => obtain ⟨t', rfl⟩ := ry; exact eq_int (fin _ rfl)
    | str j => obtain ⟨t', rfl⟩ := ry; exact PySem.EqMixed.eq_int_str (fin _ rfl)
    | _ => exact absurd (show false = true from fy) Bool.false_ne_true
  | str i =>
    obtain ⟨t, rfl⟩ := rx
    cases y with
    | non => cases ry; exact PySem.EqNone.eq_str_none (fin _ rfl)
    | bl j => cases ry; exact PySem.EqMixed.eq_str_bool (fin _ rfl)
    | int j => obtain ⟨t', rfl⟩ := ry; exact PySem.EqMixed.eq_str_int (fin _ rfl)
    | str j => obtain ⟨t', rfl⟩ := ry; exact eq_str (fin _ rfl)
    | _ => exact absurd (show false = true from fy) Bool.false_ne_true
  | _ => exact absurd (show false = true from fx) Bool.false_ne_true
/-- != of flat values at the level of values -/
theorem op_neFl : OpR X (compareOp .NotEq) (fun x y H Q => flatV x = true ∧ flatV y = true ∧ Q (.bl (!eqV x y)) H) := by
  intro pins s σ H x y v u Q I rx ry h
  obtain ⟨fx, fy, q⟩ := h
  have fin : ∀ k, k = !eqV x y → EP X pins σ Q (.bool k) s := fun k e => by
    subst e; exact ⟨.bl _, H, I, rfl, q⟩
  cases x with
  | non =>
    cases rx
    cases y with
    | non => cases ry; exact PySem.EqNone.ne_none_none (fin _ rfl)
    | bl j => cases ry; exact PySem.EqNone.ne_none_bool (fin _ rfl)
    | int j => obtain ⟨t', rfl⟩ := ry; exact PySem.EqNone.ne_none_int (fin _ rfl)
    | str j => obtain ⟨t', rfl⟩ := ry; exact PySem.EqNone.ne_none_str (fin _ rfl)
    | _ => exact absurd (show false = true from fy) Bool.false_ne_true
  | bl i =>
    cases rx
    cases y with
    | non => cases ry; exact PySem.EqNone.ne_bool_none (fin _ rfl)
    | bl j => cases ry; exact ne_bool (fin _ rfl)
    | int j => obtain ⟨t', rfl⟩ := ry; exact PySem.EqBoolInt.ne_bool_int (fin _ rfl)
    | str j => obtain ⟨t', rfl⟩ := ry; exact PySem.EqMixed.ne_bool_str (fin _ rfl)
    | _ => exact absurd (show false = true from fy) Bool.false_ne_true
  | int i =>
    obtain ⟨t, rfl⟩ := rx
    cases y with
    | non => cases ry; exact PySem.EqNone.ne_int_none (fin _ rfl)
    | bl j => cases ry; exact PySem.EqBoolInt.ne_int_bool (fin _ rfl)
    | int j => obtain ⟨t', rfl⟩ := ry; exact ne_int (fin _ rfl)
    | str j => obtain ⟨t', rfl⟩ := ry; exact PySem.EqMixed.ne_int_str (fin _ rfl)
    | _ => exact absurd (show false = true from fy) Bool.false_ne_true
  | str i =>
    obtain ⟨t, rfl⟩ := rx
    cases y with
    | non => cases ry; exact PySem.EqNone.ne_str_none (fin _ rfl)
    | bl j => cases ry; exact PySem.EqMixed.ne_str_bool (fin _ rfl)
    | int j => obtain ⟨t', rfl⟩ := ry; exact PySem.EqMixed.ne_str_int (fin _ rfl)
    | str j => obtain ⟨t', rfl⟩ := ry; exact ne_str (fin _ rfl)
    | _ => exact absurd (show false = true from fy) Bool.false_ne_true
  | _ => exact absurd (show false = true from fx) Bool.false_ne_true
end

theorem Rp.flatV {K : PySem.W.Frag} {W : List Addr} {H : Hp} {v : V} {d : D} (h : Rp K W H v d) (f : flatD d = true) : L2.flatV v = true ∧ flatP v = d := by
  cases d with
  | none => cases h; exact ⟨rfl, rfl⟩
  | bool b => cases h; exact ⟨rfl, rfl⟩
  | int b => cases h; exact ⟨rfl, rfl⟩
  | str b => cases h; exact ⟨rfl, rfl⟩
  | _ => exact absurd (show false = true from f) Bool.false_ne_true
theorem od_b {K : PySem.W.Frag} {W : List Addr} {H : Hp} {b : Bool} {Q : VK} {Qd : D → Prop} {n : Bool} (h : Qd (.bool b)) (k : ∀ (w : V) (H' : Hp) (z : D), Qd z → Ext [] H H' → Rp K W H' w z → NewC K W n H w H' z → Q w H') : Q (.bl b) H := k _ _ _ h (Ext.refl _ _) (.bl _) (.data fun _ z => nomatch z)
section
variable {X : Cx} {K : PySem.W.Frag}
theorem op_eqA (hu : X.A.units + 64 < cLine) : OpR X (compareOp .Eq) (rEqA X.K) := opOr op_eqFl (op_eqD hu)
theorem op_neA (hu : X.A.units + 64 < cLine) : OpR X (compareOp .NotEq) (rNeA X.K) := opOr op_neFl (op_neD hu)
theorem od_eq : OpD K (rEqA K) (cmpD .eq) true := by
  intro W H v u d e Q Qd rd re nt h k
  obtain ⟨⟨f1, f2⟩ | ⟨s1, s2⟩, q⟩ := h
  · obtain ⟨a1, a2⟩ := rd.flatV f1
    obtain ⟨b1, b2⟩ := re.flatV f2
    rw [← a2, ← b2, eqv_flat a1 b1] at q
    exact .inl ⟨a1, b1, od_b q k⟩
  · exact .inr ⟨d, e, Rp.dp d (ndl_shaped s1) rd, Rp.dp e (ndl_shaped s2) re, s1, s2, od_b q k⟩
theorem od_ne : OpD K (rNeA K) (cmpD .ne) true := by
  intro W H v u d e Q Qd rd re nt h k
  obtain ⟨⟨f1, f2⟩ | ⟨s1, s2⟩, q⟩ := h
  · obtain ⟨a1, a2⟩ := rd.flatV f1
    obtain ⟨b1, b2⟩ := re.flatV f2
    rw [← a2, ← b2, eqv_flat a1 b1] at q
    exact .inl ⟨a1, b1, od_b q k⟩
  · exact .inr ⟨d, e, Rp.dp d (ndl_shaped s1) rd, Rp.dp e (ndl_shaped s2) re, s1, s2, od_b q k⟩
theorem od_intB {g : Int → Int → Bool} {f : D → D → (D → Prop) → Prop} (hf : ∀ d e Q, f d e Q → ∃ i j, d = .int i ∧ e = .int j ∧ Q (.bool (g i j))) : OpD K (rI0 fun i j => .bl (g i j)) f true := by
  intro W H v u d e Q Qd rd re nt h k
  obtain ⟨i, j, rfl, rfl, q⟩ := hf _ _ _ h
  cases rd; cases re
  exact ⟨i, j, rfl, rfl, od_b q k⟩
theorem od_lt : OpD K (rI0 fun i j => .bl (decide (i < j))) (cmpD .lt) true := od_intB fun d e Q h => by
  cases d with
  | int i =>
    cases e with
    | int j => exact ⟨i, j, rfl, rfl, h⟩
    | _ => exact h.elim
  | _ => cases e <;> exact h.elim
theorem od_le : OpD K (rI0 fun i j => .bl (decide (i ≤ j))) (cmpD .le) true := od_intB fun d e Q h => by
  cases d with
  | int i =>
    cases e with
    | int j => exact ⟨i, j, rfl, rfl, h⟩
    | _ => exact h.elim
  | _ => cases e <;> exact h.elim
theorem od_gt : OpD K (rI0 fun i j => .bl (decide (j < i))) (cmpD .gt) true := od_intB fun d e Q h => by
  cases d with
  | int i =>
    cases e with
    | int j => exact ⟨i, j, rfl, rfl, h⟩
    | _ => exact h.elim
  | _ => cases e <;> exact h.elim
theorem od_ge : OpD K (rI0 fun i j => .bl (decide (j ≤ i))) (cmpD .ge) true := od_intB fun d e Q h => by
  cases d with
  | int i =>
    cases e with
    | int j => exact ⟨i, j, rfl, rfl, h⟩
    | _ => exact h.elim
  | _ => cases e <;> exact h.elim
theorem any_flat {W : List Addr} {H : Hp} {x : V} {d : D} (hx : Rp K W H x d) (fx : flatD d = true) : ∀ {vs : List V} (ds : List D), RpA K W H vs ds → ds.all flatD = true → vs.all L2.flatV = true ∧ inV x vs = ds.any fun z => PyData.eqv z d
  | _, [], h, _ => by cases h; exact ⟨rfl, rfl⟩
  | _, e :: ds, h, f => by
    cases h with
    | @cons v vs _ _ r t =>
      rw [List.all_cons, Bool.and_eq_true] at f
      obtain ⟨a1, a2⟩ := any_flat hx fx ds t f.2
      obtain ⟨b1, b2⟩ := r.flatV f.1
      obtain ⟨c1, c2⟩ := hx.flatV fx
      refine ⟨by rw [List.all_cons, b1, a1]; rfl, ?_⟩
      show (eqV v x || inV x vs) = _
      rw [List.any_cons, a2, ← b2, ← c2, eqv_flat b1 c1]
theorem od_in {neg : Bool} {f : D → D → (D → Prop) → Prop} (hf : ∀ d e Q, f d e Q → ∃ ds, (e = .list ds ∨ e = .tuple ds) ∧ flatD d = true ∧ ds.all flatD = true ∧ Q (.bool (if neg then !ds.any fun z => PyData.eqv z d else ds.any fun z => PyData.eqv z d))) : OpD K (rIn K neg) f true := by
  intro W H v u d e Q Qd rd re nt h k
  obtain ⟨ds, he, f1, f2, q⟩ := hf _ _ _ h
  obtain ⟨c1, c2⟩ := rd.flatV f1
  rcases he with rfl | rfl
  · cases re with
    | lst q' z' t' =>
      obtain ⟨a1, a2⟩ := any_flat rd f1 ds t' f2
      refine ⟨_, _, rfl, .inl (sqL_of q'), c1, a1, ?_⟩
      rw [a2]
      cases neg <;> exact od_b q k
  · cases re with
    | tup q' z' t' =>
      obtain ⟨a1, a2⟩ := any_flat rd f1 ds t' f2
      refine ⟨_, _, rfl, .inr (sqT_of q'), c1, a1, ?_⟩
      rw [a2]
      cases neg <;> exact od_b q k
/-- .. in a dict of ints by ints -/
abbrev rInD (neg : Bool) : R2 := fun x y H Q => ∃ (a : Addr) (kvs : List (Int × Int)) (i : Int), y = .ref a ∧ x = .int i ∧ H a = some (.dK (dkV kvs)) ∧ Q (.bl (if neg then !(kvs.any fun p => decide (p.1 = i)) else kvs.any fun p => decide (p.1 = i))) H
theorem dk_val (i : Int) : ∀ kvs : List (Int × Int), valV (dkV kvs) (.inl i) = (kvs.find? fun p => decide (p.1 = i)).map fun p => V.int p.2
  | [] => rfl
  | p :: r => by
    have ih := dk_val i r
    show valV (((.inl p.1 : Key), V.int p.2) :: dkV r) (.inl i) = _
    rw [List.find?_cons]
    by_cases e : p.1 = i
    · rw [valV_pos (by rw [e]), e]; simp
    · rw [valV_neg (fun z => e (Sum.inl.inj z)), ih]; simp [e]
theorem dk_some (i : Int) (kvs : List (Int × Int)) : (valV (dkV kvs) (.inl i)).isSome = kvs.any fun p => decide (p.1 = i) := by
  rw [dk_val, Option.isSome_map]
  induction kvs with
  | nil => rfl
  | cons p r ih => rw [List.find?_cons, List.any_cons, ← ih]; cases decide (p.1 = i) <;> rfl
theorem op_inD (hu : X.A.units + 64 < cLine) : OpR X (compareOp .In) (rInD false) := by
  intro pins s σ H x y v u Q I rx ry h
  obtain ⟨a, kvs, i, rfl, rfl, e, q⟩ := h
  obtain rfl : u = Value.ref a := ry
  refine d_in (by omega) I (DGet.k (k := .inl i) e) rx fun s' I' => ⟨.bl _, H, I', rfl, ?_⟩
  rw [dk_some]
  exact q
theorem op_notinD (hu : X.A.units + 64 < cLine) : OpR X (compareOp .NotIn) (rInD true) := by
  intro pins s σ H x y v u Q I rx ry h
  obtain ⟨a, kvs, i, rfl, rfl, e, q⟩ := h
  obtain rfl : u = Value.ref a := ry
  refine d_notIn (by omega) I (DGet.k (k := .inl i) e) rx fun s' I' => ⟨.bl _, H, I', rfl, ?_⟩
  rw [dk_some]
  exact q
theorem any_isI (i : Int) (kvs : List (Int × Int)) : ((dkD kvs).any fun p => isI i p.1) = kvs.any fun p => decide (p.1 = i) := by
  unfold dkD
  rw [List.any_map]
  rfl
abbrev rInX (K : PySem.W.Frag) (neg : Bool) : R2 := fun x y H Q => rIn K neg x y H Q ∨ rInD neg x y H Q
theorem od_inX {neg : Bool} {f : D → D → (D → Prop) → Prop} (hf : ∀ d e Q, f d e Q → (∃ ds, (e = .list ds ∨ e = .tuple ds) ∧ flatD d = true ∧ ds.all flatD = true ∧ Q (.bool (if neg then !ds.any fun z => PyData.eqv z d else ds.any fun z => PyData.eqv z d))) ∨ ∃ ks i, e = .dict ks ∧ d = .int i ∧ Q (.bool (if neg then !(ks.any fun p => isI i p.1) else ks.any fun p => isI i p.1))) : OpD K (rInX K neg) f true := by
  intro W H v u d e Q Qd rd re nt h k
  rcases hf _ _ _ h with h' | ⟨ks, i, rfl, rfl, q⟩
  · exact .inl (od_in (f := fun d e Q => ∃ ds, (e = .list ds ∨ e = .tuple ds) ∧ flatD d = true ∧ ds.all flatD = true ∧ Q (.bool (if neg then !ds.any fun z => PyData.eqv z d else ds.any fun z => PyData.eqv z d))) (fun _ _ _ z => z) W H v u d e Q Qd rd re nt h' k)
  · cases rd
    cases re with
    | dct q' n =>
      rw [any_isI] at q
      exact .inr ⟨_, _, i, rfl, rfl, q', od_b q k⟩
theorem od_isin : OpD K (rInX K false) (cmpD .isin) true := od_inX fun d e Q h => by
  cases e with
  | list ds => exact .inl ⟨ds, .inl rfl, h.1.1, h.1.2, h.2⟩
  | tuple ds => exact .inl ⟨ds, .inr rfl, h.1.1, h.1.2, h.2⟩
  | dict ks => obtain ⟨i, rfl, q⟩ := h; exact .inr ⟨ks, i, rfl, rfl, q⟩
  | _ => exact h.elim
theorem od_notin : OpD K (rInX K true) (cmpD .notin) true := od_inX fun d e Q h => by
  cases e with
  | list ds => exact .inl ⟨ds, .inl rfl, h.1.1, h.1.2, h.2⟩
  | tuple ds => exact .inl ⟨ds, .inr rfl, h.1.1, h.1.2, h.2⟩
  | dict ks => obtain ⟨i, rfl, q⟩ := h; exact .inr ⟨ks, i, rfl, rfl, q⟩
  | _ => exact h.elim
theorem none_iff {W : List Addr} {H : Hp} {v : V} {d : D} (h : Rp K W H v d) : decide (v = .non) = isNone d := by
  cases h <;> rfl
theorem od_isN : OpD K (fun x y H Q => y = .non ∧ Q (.bl (decide (x = .non))) H) (cmpD .isN) true := by
  intro W H v u d e Q Qd rd re nt h k
  cases e with
  | none => cases re; exact ⟨rfl, by rw [none_iff rd]; exact od_b h k⟩
  | _ => exact h.elim
theorem od_notN : OpD K (fun x y H Q => y = .non ∧ Q (.bl (!decide (x = .non))) H) (cmpD .notN) true := by
  intro W H v u d e Q Qd rd re nt h k
  cases e with
  | none => cases re; exact ⟨rfl, by rw [none_iff rd]; exact od_b h k⟩
  | _ => exact h.elim
end
end CC

namespace CC
open PySem PySem.Spec PyProof.Rows L2
section
variable {X : Cx} {f g h : SemE} {fl : SemL} {a b c : Expr} {es : List Expr} {pos : Pos} {n m m' k0 : Bool} {ln : Nat}
theorem xsub {W0 : List Addr} {ρ : SEnv} : ∀ a ∈ xA ρ, a ∈ W0 ++ xA ρ := fun _ z => List.mem_append_right _ z
/-! ### displays -/
theorem s_nil : PA X [] (tL X.K 0 fun _ Q => Q []) := PAi pa_nil fun σ H Q q => by
  obtain ⟨W0, ρ, Qd, E, q, k⟩ := q
  exact k [] H [] q E (Ext.refl _ _) .nil rfl
theorem s_cons (ha : PE X a (tE X.K m f)) (hs : PA X es (tL X.K ln fl)) (hst : starEach (a :: es) X.env = (false, eval a X.env) :: starEach es X.env) : PA X (a :: es) (tL X.K (ln + 1) fun ρ Q => f ρ fun d => fl ρ fun ds => Q (d :: ds)) :=
  PAi (pa_cons ha hs hst) fun σ H Q q => by
    obtain ⟨W0, ρ, Qd, E, q, k⟩ := q
    refine ⟨W0, ρ, _, E, q, fun v H1 d q1 E1 X1 r1 _ => ⟨W0, ρ, _, E1, q1, fun vs H2 ds q2 E2 X2 r2 hl => ?_⟩⟩
    exact k (v :: vs) H2 (d :: ds) q2 E2 (X1.trans X2) (.cons (Rp.ext X2 xsub d r1) r2) (by rw [List.length_cons, hl])
theorem s_tup {x1 : Nat} (hs : PA X es (tL X.K ln fl)) (hl : ln ≤ 1000) : PE X (.Tuple es x1 pos) (tE X.K false fun ρ Q => fl ρ fun ds => Q (.tuple ds)) :=
  PEi (pe_tup hs) fun σ H Q q => by
    obtain ⟨W0, ρ, Qd, E, q, k⟩ := q
    refine ⟨W0, ρ, _, E, q, fun vs H1 ds q1 E1 X1 r1 hn => ?_⟩
    have hz : vs.length ≤ sizeLine := by rw [r1.length, hn]; exact Nat.le_of_lt (small1000 hl)
    refine ⟨hz, fun p hp => ?_⟩
    exact k _ _ _ q1 (E1.grow (Ext.new hp)) (X1.trans (Ext.new hp)) (Rp.newTup hp hz ((NoTup.xa E1).free hp) r1) .no
theorem s_lst (hs : PA X es (tL X.K ln fl)) (hl : ln ≤ 1000) : PE X (.List es pos) (tE X.K true fun ρ Q => fl ρ fun ds => Q (.list ds)) :=
  PEi (pe_lst hs) fun σ H Q q => by
    obtain ⟨W0, ρ, Qd, E, q, k⟩ := q
    refine ⟨W0, ρ, _, E, q, fun vs H1 ds q1 E1 X1 r1 hn => ?_⟩
    have hz : vs.length ≤ sizeLine := by rw [r1.length, hn]; exact Nat.le_of_lt (small1000 hl)
    refine ⟨hz, fun p hp => ?_⟩
    exact k _ _ _ q1 (E1.grow (Ext.new hp)) (X1.trans (Ext.new hp)) (Rp.newLst hp hz ((NoTup.xa E1).free hp) r1) (.new (X1.none hp) hp hz r1)
/-- [..] * n -/
theorem s_rep (ha : PE X a (tE X.K true f)) (hb : PE X b (tE X.K m g)) : PE X (.BinOp a .Mult b pos) (tE X.K true fun ρ Q => f ρ fun x => g ρ fun y => repD x y Q) :=
  PEi (pe_op op_rep ha hb) fun σ H Q q => by
    obtain ⟨W0, ρ, Qd, E, q, k⟩ := q
    refine ⟨W0, ρ, _, E, q, fun v H1 d q1 E1 X1 r1 nw => ⟨W0, ρ, _, E1, q1, fun u H2 e q2 E2 X2 r2 _ => ?_⟩⟩
    cases d with
    | list ds =>
      cases e with
      | int i =>
        obtain ⟨⟨h1, h2, h3⟩, q2⟩ := q2
        obtain ⟨p, xs, rfl, hp, hx, z, t⟩ := nw rfl ds rfl
        cases r2
        have hx2 : H2 p = some (.lst xs) := X2.keep _ _ (fun z => (E.ntc p (xA_sub z)).1 hp) hx
        have hz : xs.length * i.toNat ≤ sizeLine := by rw [t.length]; exact h3
        refine ⟨p, i, xs, rfl, rfl, hx2, h1, h2, hz, fun p' hp' => ?_⟩
        have rr : ∀ n, RpA X.K (W0 ++ xA ρ) H2 (List.replicate n xs).flatten (List.replicate n ds).flatten := fun n => by
          induction n with
          | zero => exact .nil
          | succ n ih => rw [List.replicate_succ, List.replicate_succ, List.flatten_cons, List.flatten_cons]; exact (RpA.ext X2 xsub ds t).append ih
        have hl : (List.replicate i.toNat xs).flatten.length ≤ sizeLine := by rw [PyProof.Rows.lm_len_rep_flat, Nat.mul_comm]; exact hz
        exact k _ _ _ q2 (E2.grow (Ext.new hp')) ((X1.trans X2).trans (Ext.new hp')) (Rp.newLst hp' hl ((NoTup.xa E2).free hp') (rr _)) (.new (X1.none (X2.none hp')) hp' hl (rr _))
      | _ => exact q2.elim
    | _ => cases e <;> exact q2.elim

/-! ### items, slices -/
theorem atI_get' {W : List Addr} {H : Hp} {K : PySem.W.Frag} {xs : List V} {ds : List D} {i : Int} {d : D} (r : RpA K W H xs ds) (h : atI ds i = some d) : ∃ v, atI xs i = some v ∧ Rp K W H v d := by
  unfold atI at h ⊢
  rw [r.length]
  cases e : ixN ds.length i with
  | none => rw [e] at h; cases h
  | some j =>
    rw [e] at h
    exact r.get h
theorem s_ix (ha : PE X a (tE X.K m f)) (hb : PE X b (tE X.K m' g)) (hs : PlainIx b) : PE X (.Subscript a b pos) (tE X.K false fun ρ Q => f ρ fun x => g ρ fun y => ixD x y Q) :=
  PEi (pe_ix ix_seq ha hb hs) fun σ H Q q => by
    obtain ⟨W0, ρ, Qd, E, q, k⟩ := q
    refine ⟨W0, ρ, _, E, q, fun v H1 d q1 E1 X1 r1 _ => ⟨W0, ρ, _, E1, q1, fun u H2 e q2 E2 X2 r2 _ => ?_⟩⟩
    have r1' := Rp.ext X2 xsub d r1
    cases e with
    | int i =>
      cases r2
      cases d with
      | list ds =>
        obtain ⟨z, hz, q2⟩ := q2
        cases r1' with
        | lst qq _ t =>
          obtain ⟨w, hw, rw'⟩ := atI_get' t hz
          exact .inl ⟨_, _, i, w, rfl, rfl, sqL_of qq, hw, k w H2 z q2 E2 (X1.trans X2) rw' .no⟩
      | tuple ds =>
        obtain ⟨z, hz, q2⟩ := q2
        cases r1' with
        | tup qq _ t =>
          obtain ⟨w, hw, rw'⟩ := atI_get' t hz
          exact .inr (.inl ⟨_, _, i, w, rfl, rfl, sqT_of qq, hw, k w H2 z q2 E2 (X1.trans X2) rw' .no⟩)
      | _ => exact q2.elim
    | _ => cases d <;> exact q2.elim
def tO (K : PySem.W.Frag) (f : SEnv → (Option Int → Prop) → Prop) : TO := fun σ H Q => ∃ W0 ρ Qd, EnvR K W0 H σ ρ ∧ f ρ Qd ∧ ∀ o H', Qd o → EnvR K W0 H' σ ρ → Ext (xA ρ) H H' → Q o H'
theorem POi {o : Option Expr} {t t' : TO} (h : PO X o t) (i : ∀ σ H Q, t' σ H Q → t σ H Q) : PO X o t' := ⟨fun pins s σ H Q I q => h.run pins s σ H Q I (i σ H Q q)⟩
theorem s_po_none : PO X none (tO X.K fun ρ Q => Q none) := POi po_none fun σ H Q q => by
  obtain ⟨W0, ρ, Qd, E, q, k⟩ := q
  exact k _ H q E (Ext.refl _ _)
theorem s_po (ha : PE X a (tE X.K m f)) : PO X (some a) (tO X.K fun ρ Q => f ρ fun x => intD x fun i => Q (some i)) := POi (po_some ha) fun σ H Q q => by
  obtain ⟨W0, ρ, Qd, E, q, k⟩ := q
  refine ⟨W0, ρ, _, E, q, fun v H1 d q1 E1 X1 r1 _ => ?_⟩
  cases d with
  | int i => cases r1; exact ⟨i, rfl, k _ H1 q1 E1 X1⟩
  | _ => exact q1.elim
theorem cut_len {α : Type} (xs : List α) (lo hi : Option Int) : (cut xs lo hi).length ≤ xs.length := by
  unfold cut
  rw [List.length_take, List.length_drop]
  omega
theorem RpA.cut {W : List Addr} {H : Hp} {K : PySem.W.Frag} {xs : List V} {ds : List D} (r : RpA K W H xs ds) (lo hi : Option Int) : RpA K W H (cutV xs lo hi) (CC.cut ds lo hi) := by
  unfold cutV CC.cut
  rw [r.length]
  exact (r.drop _).take _
theorem s_sl {lo hi : Option Expr} {fo fh : SEnv → (Option Int → Prop) → Prop} {p2 : Pos} (ha : PE X a (tE X.K m f)) (hl : PO X lo (tO X.K fo)) (hh : PO X hi (tO X.K fh)) :
    PE X (.Subscript a (.Slice lo hi none p2) pos) (tE X.K false fun ρ Q => f ρ fun x => fo ρ fun l => fh ρ fun h => slD x l h Q) :=
  PEi (pe_slice (sl_list.or (sl_tupA.or sl_str)) ha hl hh) fun σ H Q q => by
    obtain ⟨W0, ρ, Qd, E, q, k⟩ := q
    refine ⟨W0, ρ, _, E, q, fun v H1 d q1 E1 X1 r1 _ => ⟨W0, ρ, _, E1, q1, fun l H2 q2 E2 X2 => ⟨W0, ρ, _, E2, q2, fun h H3 q3 E3 X3 => ?_⟩⟩⟩
    have r1' := Rp.ext (X2.trans X3) xsub d r1
    have X13 := X1.trans (X2.trans X3)
    cases d with
    | list ds =>
      cases r1' with
      | lst qq z t =>
        refine .inl ⟨_, _, rfl, sqL_of qq, fun p hp => ?_⟩
        exact k _ _ _ q3 (E3.grow (Ext.new hp)) (X13.trans (Ext.new hp)) (Rp.newLst hp (Nat.le_trans (cutV_length _ _ _) z) ((NoTup.xa E3).free hp) (t.cut l h)) .no
    | tuple ds =>
      cases r1' with
      | tup qq z t =>
        refine .inr (.inl ⟨_, _, rfl, sqT_of qq, fun hw => ?_, fun hw p hp => ?_⟩)
        · have e : CC.cut ds l h = ds := by
            unfold CC.cut
            rw [← t.length, hw.1, hw.2, List.drop_zero, Nat.sub_zero, t.length, List.take_length]
          have q3 : Qd (.tuple (CC.cut ds l h)) := q3
          rw [e] at q3
          exact k _ _ _ q3 E3 X13 (.tup qq z t) .no
        · exact k _ _ _ q3 (E3.grow (Ext.new hp)) (X13.trans (Ext.new hp)) (Rp.newTup hp (Nat.le_trans (cutV_length _ _ _) z) ((NoTup.xa E3).free hp) (t.cut l h)) .no
    | str x =>
      cases r1'
      exact .inr (.inr ⟨x, rfl, q3.1, k _ H3 _ q3.2 E3 X13 (.str _) .no⟩)
    | _ => exact q3.elim
/-! ### and, or, not, if -/
theorem s_not (ha : PE X a (tE X.K m f)) : PE X (.UnaryOp .Not a pos) (tE X.K false fun ρ Q => f ρ fun x => boolD x fun k => Q (.bool (!k))) := PEi (pe_not ha) fun σ H Q q => by
  obtain ⟨W0, ρ, Qd, E, q, k⟩ := q
  refine ⟨W0, ρ, _, E, q, fun v H1 d q1 E1 X1 r1 _ => ?_⟩
  cases d with
  | bool i => cases r1; exact ⟨i, rfl, k _ H1 _ q1 E1 X1 (.bl _) .no⟩
  | _ => exact q1.elim
theorem s_and1 {op : BoolOp} (ha : PE X a (tE X.K m f)) : PE X (.BoolOp op [a] pos) (tE X.K m f) := PEi (pe_one ha) fun _ _ _ q => q
theorem s_and {rest : List Expr} (ha : PE X a (tE X.K m f)) (hb : PE X (.BoolOp .And (b :: rest) pos) (tE X.K m' g)) : PE X (.BoolOp .And (a :: b :: rest) pos) (tE X.K false fun ρ Q => f ρ fun x => boolD x fun k => if k = true then g ρ Q else Q (.bool false)) :=
  PEi (pe_and ha hb) fun σ H Q q => by
    obtain ⟨W0, ρ, Qd, E, q, k⟩ := q
    refine ⟨W0, ρ, _, E, q, fun v H1 d q1 E1 X1 r1 _ => ?_⟩
    cases d with
    | bool i =>
      cases r1
      refine ⟨i, rfl, ?_⟩
      cases i with
      | true => exact ⟨W0, ρ, _, E1, q1, fun u H2 e q2 E2 X2 r2 _ => k u H2 e q2 E2 (X1.trans X2) r2 .no⟩
      | false => exact k _ H1 _ q1 E1 X1 (.bl _) .no
    | _ => exact q1.elim
theorem s_or {rest : List Expr} (ha : PE X a (tE X.K m f)) (hb : PE X (.BoolOp .Or (b :: rest) pos) (tE X.K m' g)) : PE X (.BoolOp .Or (a :: b :: rest) pos) (tE X.K false fun ρ Q => f ρ fun x => boolD x fun k => if k = true then Q (.bool true) else g ρ Q) :=
  PEi (pe_or ha hb) fun σ H Q q => by
    obtain ⟨W0, ρ, Qd, E, q, k⟩ := q
    refine ⟨W0, ρ, _, E, q, fun v H1 d q1 E1 X1 r1 _ => ?_⟩
    cases d with
    | bool i =>
      cases r1
      refine ⟨i, rfl, ?_⟩
      cases i with
      | false => exact ⟨W0, ρ, _, E1, q1, fun u H2 e q2 E2 X2 r2 _ => k u H2 e q2 E2 (X1.trans X2) r2 .no⟩
      | true => exact k _ H1 _ q1 E1 X1 (.bl _) .no
    | _ => exact q1.elim
theorem NewC.pre {K : PySem.W.Frag} {W : List Addr} {H H1 H2 : Hp} {W' : List Addr} (X1 : Ext W' H H1) {n : Bool} {v : V} {d : D} (nw : NewC K W n H1 v H2 d) : NewC K W n H v H2 d := fun hn ds e => by
  obtain ⟨p, xs, e1, e2, e3⟩ := nw hn ds e
  exact ⟨p, xs, e1, X1.none e2, e3⟩
theorem NewC.weak {K : PySem.W.Frag} {W : List Addr} {H H1 : Hp} {n n' : Bool} {v : V} {d : D} (h : n = true → n' = true) (nw : NewC K W n' H v H1 d) : NewC K W n H v H1 d := fun hn => nw (h hn)
theorem s_ite {c : Expr} {ft : SemT} (hc : PT X c (tT X.K ft)) (ha : PE X a (tE X.K m f)) (hb : PE X b (tE X.K m' g)) : PE X (.IfExp c a b pos) (tE X.K (m && m') fun ρ Q => ft ρ fun k => if k = true then f ρ Q else g ρ Q) :=
  PEi (pe_ifExp hc ha hb) fun σ H Q q => by
    obtain ⟨W0, ρ, Qd, E, q, k⟩ := q
    refine ⟨W0, ρ, _, E, q, fun i H1 q1 E1 X1 => ?_⟩
    cases i with
    | true => exact ⟨W0, ρ, _, E1, q1, fun u H2 e q2 E2 X2 r2 nw => k u H2 e q2 E2 (X1.trans X2) r2 ((nw.pre X1).weak fun z => (Bool.and_eq_true_iff.mp z).1)⟩
    | false => exact ⟨W0, ρ, _, E1, q1, fun u H2 e q2 E2 X2 r2 nw => k u H2 e q2 E2 (X1.trans X2) r2 ((nw.pre X1).weak fun z => (Bool.and_eq_true_iff.mp z).2)⟩
/-! ### tests -/
variable {ft gt : SemT}
theorem s_tand1 {op : BoolOp} (ha : PT X a (tT X.K ft)) : PW X (.BoolOp op [a] pos) (tT X.K ft) := by
  cases op with
  | And => exact pw_and1 ha
  | Or => exact pw_or1 ha
theorem s_tand {rest : List Expr} (ha : PT X a (tT X.K ft)) (hb : PW X (.BoolOp .And (b :: rest) pos) (tT X.K gt)) : PW X (.BoolOp .And (a :: b :: rest) pos) (tT X.K fun ρ Q => ft ρ fun k => if k = true then gt ρ Q else Q false) :=
  PWi (pw_and ha hb) fun σ H Q q => by
    obtain ⟨W0, ρ, Qd, E, q, k⟩ := q
    refine ⟨W0, ρ, _, E, q, fun i H1 q1 E1 X1 => ?_⟩
    cases i with
    | true => exact ⟨W0, ρ, _, E1, q1, fun u H2 q2 E2 X2 => k u H2 q2 E2 (X1.trans X2)⟩
    | false => exact k _ H1 q1 E1 X1
theorem s_tor {rest : List Expr} (ha : PT X a (tT X.K ft)) (hb : PW X (.BoolOp .Or (b :: rest) pos) (tT X.K gt)) : PW X (.BoolOp .Or (a :: b :: rest) pos) (tT X.K fun ρ Q => ft ρ fun k => if k = true then Q true else gt ρ Q) :=
  PWi (pw_or ha hb) fun σ H Q q => by
    obtain ⟨W0, ρ, Qd, E, q, k⟩ := q
    refine ⟨W0, ρ, _, E, q, fun i H1 q1 E1 X1 => ?_⟩
    cases i with
    | false => exact ⟨W0, ρ, _, E1, q1, fun u H2 q2 E2 X2 => k u H2 q2 E2 (X1.trans X2)⟩
    | true => exact k _ H1 q1 E1 X1
theorem s_tnot (ha : PT X a (tT X.K ft)) : PT X (.UnaryOp .Not a pos) (tT X.K fun ρ Q => ft ρ fun k => Q (!k)) := PTi (pt_not ha) fun σ H Q q => by
  obtain ⟨W0, ρ, Qd, E, q, k⟩ := q
  exact ⟨W0, ρ, _, E, q, fun i H1 q1 E1 X1 => k _ H1 q1 E1 X1⟩
/-- a value's truth -/
theorem tru_of {K : PySem.W.Frag} {W : List Addr} {H : Hp} {v : V} {d : D} {Q : Bool → Prop} (r : Rp K W H v d) (h : truD d Q) : ∃ k, TruV K v H k ∧ Q k := by
  cases d with
  | none => cases r; exact ⟨_, rfl, h⟩
  | bool b => cases r; exact ⟨_, rfl, h⟩
  | int i => cases r; exact ⟨_, rfl, h⟩
  | list ds =>
    cases r with
    | lst q z t =>
      refine ⟨_, .inl ⟨_, sqL_of q, rfl⟩, ?_⟩
      cases t <;> exact h
  | tuple ds =>
    cases r with
    | tup q z t =>
      refine ⟨_, .inr (.inl ⟨_, sqT_of q, rfl⟩), ?_⟩
      cases t <;> exact h
  | _ => exact h.elim
theorem s_tru (ha : PE X a (tE X.K m f)) (he : ∀ whole, isTrue a X.env whole = (do let v ← whole; standAt a.pos; holding [v] (truthy v))) : PT X a (tT X.K fun ρ Q => f ρ fun d => truD d Q) :=
  PTi (pt_truth ha he) fun σ H Q q => by
    obtain ⟨W0, ρ, Qd, E, q, k⟩ := q
    refine ⟨W0, ρ, _, E, q, fun v H1 d q1 E1 X1 r1 _ => ?_⟩
    obtain ⟨b, h1, h2⟩ := tru_of r1 q1
    exact ⟨b, h1, k b H1 h2 E1 X1⟩
/-- a comparison as a test -/
theorem s_tcmp {op : CmpOp} {r : R2} {h : D → D → (D → Prop) → Prop} (ho : OpR X (compareOp op) r) (hr : OpD X.K r h true) (hB : ∀ x y Q, h x y Q → h x y fun d => ∃ k, d = .bool k ∧ Q d) (ha : PE X a (tE X.K m f)) (hb : PE X b (tE X.K m' g)) (hm : behindInMarks op b = false) :
    PT X (.Compare a [op] [b] pos) (tT X.K fun ρ Q => f ρ fun x => g ρ fun y => h x y fun d => truD d Q) :=
  PTi (pt_cmpR ho ha hb hm) fun σ H Q q => by
    obtain ⟨W0, ρ, Qd, E, q, k⟩ := q
    refine ⟨W0, ρ, _, E, q, fun v H1 d q1 E1 X1 r1 _ => ⟨W0, ρ, _, E1, q1, fun u H2 e q2 E2 X2 r2 _ => ?_⟩⟩
    refine hr (W0 ++ xA ρ) H2 v u d e _ _ (Rp.ext X2 (fun _ z => List.mem_append_right _ z) d r1) r2 (NoTup.xa E2) (hB _ _ _ q2) fun w H3 z q3 X3 r3 nw => ?_
    obtain ⟨b, rfl, q3⟩ := q3
    cases r3
    exact ⟨b, rfl, k b H3 q3 (E2.grow X3) ((X1.trans X2).trans (X3.mono fun _ z => nomatch z))⟩
theorem s_chn {op op' : CmpOp} {r r' : R2} {p p' : D → D → (D → Prop) → Prop} (ho : OpR X (compareOp op) r) (ho' : OpR X (compareOp op') r') (hr : OpD X.K r p true) (hr' : OpD X.K r' p' true) (hB : ∀ x y Q, p x y Q → p x y fun d => ∃ k, d = .bool k ∧ Q d)
    (ha : PE X a (tE X.K m f)) (hb : PE X b (tE X.K m' g)) (hc : PE X c (tE X.K k0 h)) (hm : lastMarks [op, op'] [b, c] = false) :
    PE X (.Compare a [op, op'] [b, c] pos) (tE X.K false fun ρ Q => f ρ fun x => g ρ fun y => p x y fun r => boolD r fun k => if k = true then h ρ fun z => p' y z Q else Q (.bool false)) :=
  PEi (pe_chain ho ho' ha hb hc hm) fun σ H Q q => by
    obtain ⟨W0, ρ, Qd, E, q, k⟩ := q
    refine ⟨W0, ρ, _, E, q, fun v H1 d q1 E1 X1 r1 _ => ⟨W0, ρ, _, E1, q1, fun u H2 e q2 E2 X2 r2 _ => ?_⟩⟩
    refine hr (W0 ++ xA ρ) H2 v u d e _ _ (Rp.ext X2 (fun _ z => List.mem_append_right _ z) d r1) r2 (NoTup.xa E2) (hB _ _ _ q2) fun w H3 z q3 X3 r3 nw => ?_
    obtain ⟨b, rfl, q3⟩ := q3
    cases r3
    have X3' : Ext (xA ρ) H2 H3 := X3.mono fun _ z => nomatch z
    refine ⟨b, rfl, ?_⟩
    cases b with
    | false => exact k _ H3 _ q3 (E2.grow X3) ((X1.trans X2).trans X3') (.bl _) .no
    | true =>
      refine ⟨W0, ρ, _, E2.grow X3, q3, fun z H4 dz q4 E4 X4 r4 _ => ?_⟩
      refine hr' (W0 ++ xA ρ) H4 u z e dz Q Qd (Rp.ext (X3'.trans X4) xsub e r2) r4 (NoTup.xa E4) q4 fun w H5 zz q5 X5 r5 nw => ?_
      exact k w H5 zz q5 (E4.grow X5) (((X1.trans X2).trans (X3'.trans X4)).trans (X5.mono fun _ z => nomatch z)) r5 .no
theorem s_tchn {op op' : CmpOp} {r r' : R2} {p p' : D → D → (D → Prop) → Prop} (ho : OpR X (compareOp op) r) (ho' : OpR X (compareOp op') r') (hr : OpD X.K r p true) (hr' : OpD X.K r' p' true) (hB : ∀ x y Q, p x y Q → p x y fun d => ∃ k, d = .bool k ∧ Q d) (hB' : ∀ x y Q, p' x y Q → p' x y fun d => ∃ k, d = .bool k ∧ Q d)
    (ha : PE X a (tE X.K m f)) (hb : PE X b (tE X.K m' g)) (hc : PE X c (tE X.K k0 h)) (hm : lastMarks [op, op'] [b, c] = false) :
    PT X (.Compare a [op, op'] [b, c] pos) (tT X.K fun ρ Q => f ρ fun x => g ρ fun y => p x y fun r => boolD r fun k => if k = true then h ρ fun z => p' y z fun d => truD d Q else Q false) :=
  PTi (pt_chain ho ho' ha hb hc hm) fun σ H Q q => by
    obtain ⟨W0, ρ, Qd, E, q, k⟩ := q
    refine ⟨W0, ρ, _, E, q, fun v H1 d q1 E1 X1 r1 _ => ⟨W0, ρ, _, E1, q1, fun u H2 e q2 E2 X2 r2 _ => ?_⟩⟩
    refine hr (W0 ++ xA ρ) H2 v u d e _ _ (Rp.ext X2 (fun _ z => List.mem_append_right _ z) d r1) r2 (NoTup.xa E2) (hB _ _ _ q2) fun w H3 z q3 X3 r3 nw => ?_
    obtain ⟨b, rfl, q3⟩ := q3
    cases r3
    have X3' : Ext (xA ρ) H2 H3 := X3.mono fun _ z => nomatch z
    refine ⟨b, rfl, ?_⟩
    cases b with
    | false => exact ⟨_, rfl, k _ H3 q3 (E2.grow X3) ((X1.trans X2).trans X3')⟩
    | true =>
      refine ⟨W0, ρ, _, E2.grow X3, q3, fun z H4 dz q4 E4 X4 r4 _ => ?_⟩
      refine hr' (W0 ++ xA ρ) H4 u z e dz _ _ (Rp.ext (X3'.trans X4) xsub e r2) r4 (NoTup.xa E4) (hB' _ _ _ q4) fun w H5 zz q5 X5 r5 nw => ?_
      obtain ⟨b, rfl, q5⟩ := q5
      cases r5
      exact ⟨b, rfl, k b H5 q5 (E4.grow X5) (((X1.trans X2).trans (X3'.trans X4)).trans (X5.mono fun _ z => nomatch z))⟩
end
end CC

namespace CC
open PySem PySem.Spec PyProof.Rows L2
/-! ### built-ins -/
def CallD (K : PySem.W.Frag) (r : List V → Hp → VK → Prop) (f : List D → (D → Prop) → Prop) (n : Bool) : Prop := ∀ W H vs ds Q Qd, RpA K W H vs ds → NoTup W H → f ds Qd → (∀ w H' z, Qd z → Ext [] H H' → Rp K W H' w z → NewC K W n H w H' z → Q w H') → r vs H Q
section
variable {X : Cx} {f g : SemE} {fl : SemL} {a b c e : Expr} {es : List Expr} {p pos : Pos} {n m : Bool} {ln : Nat} {x : Str} {id T : String} {r : List V → Hp → VK → Prop} {bd : List D → (D → Prop) → Prop}
theorem cb_of (hr : CallD X.K r bd n) : ∀ σ H Q, tE X.K n (fun ρ Q => fl ρ fun ds => bd ds Q) σ H Q → tCB r (tL X.K ln fl) σ H Q := fun σ H Q q => by
  obtain ⟨W0, ρ, Qd, E, q, k⟩ := q
  refine ⟨W0, ρ, _, E, q, fun vs H1 ds q1 E1 X1 r1 hl => ?_⟩
  refine hr (W0 ++ xA ρ) H1 vs ds Q Qd r1 (NoTup.xa E1) q1 fun w H2 z q2 X2 r2 nw => ?_
  exact k w H2 z q2 (E1.grow X2) (X1.trans (X2.mono fun _ z => nomatch z)) r2 (nw.pre X1)
theorem s_callB (hc : CallR X (.builtin id) r) (hr : CallD X.K r bd n) (hg : Gl X x) (hm : X.mg x = none) (hv : bootBuiltins x = some (.builtin id)) (ha : PA X (e :: es) (tL X.K ln fl)) (hn : x ≠ "__name__") (hdb : (x == ("__debug__" : Str)) = false)
    (he : starEach (e :: es) X.env = (false, eval e X.env) :: starEach es X.env) (hpl : (backTo pos (starEach es X.env)).any (·.1) = false) : PE X (.Call (.Name x p) (e :: es) [] pos) (tE X.K n fun ρ Q => fl ρ fun ds => bd ds Q) :=
  PEi (pe_callB hc hg hm hv ha hn hdb he hpl) (cb_of hr)
theorem s_callTy (hc : CallR X (.type T) r) (hr : CallD X.K r bd n) (hg : Gl X x) (hm : X.mg x = none) (hv : bootBuiltins x = some (.type T)) (ha : PA X (e :: es) (tL X.K ln fl)) (hn : x ≠ "__name__") (hdb : (x == ("__debug__" : Str)) = false)
    (he : starEach (e :: es) X.env = (false, eval e X.env) :: starEach es X.env) (hpl : (backTo pos (starEach es X.env)).any (·.1) = false) : PE X (.Call (.Name x p) (e :: es) [] pos) (tE X.K n fun ρ Q => fl ρ fun ds => bd ds Q) :=
  PEi (pe_callTy hc hg hm hv ha hn hdb he hpl) (cb_of hr)
end
section
variable {K : PySem.W.Frag} {W : List Addr} {H : Hp} {X : Cx}
theorem rp1 {vs : List V} {d : D} (h : RpA K W H vs [d]) : ∃ v, vs = [v] ∧ Rp K W H v d := by
  cases h with
  | cons r t => cases t; exact ⟨_, rfl, r⟩
theorem rp2 {vs : List V} {d e : D} (h : RpA K W H vs [d, e]) : ∃ v u, vs = [v, u] ∧ Rp K W H v d ∧ Rp K W H u e := by
  cases h with
  | cons r t =>
    obtain ⟨u, rfl, r'⟩ := rp1 t
    exact ⟨_, _, rfl, r, r'⟩
theorem one_of {f : List D → (D → Prop) → Prop} (hf : ∀ ds Q, f ds Q → ∃ d, ds = [d] ∧ f [d] Q) {r : List V → Hp → VK → Prop} {n : Bool}
    (h : ∀ W H v d Q Qd, Rp K W H v d → NoTup W H → f [d] Qd → (∀ w H' z, Qd z → Ext [] H H' → Rp K W H' w z → NewC K W n H w H' z → Q w H') → r [v] H Q) : CallD K r f n := by
  intro W H vs ds Q Qd hr nt q k
  obtain ⟨d, rfl, q⟩ := hf _ _ q
  obtain ⟨v, rfl, rd⟩ := rp1 hr
  exact h W H v d Q Qd rd nt q k
theorem bi1 {b : Bi} (hb : ∀ Q ds, biD b ds Q → ∃ d, ds = [d]) : ∀ ds Q, biD b ds Q → ∃ d, ds = [d] ∧ biD b [d] Q := fun ds Q h => by
  obtain ⟨d, rfl⟩ := hb Q ds h
  exact ⟨d, rfl, h⟩
theorem rd_int {Q : VK} {Qd : D → Prop} {n : Bool} {i : Int} (q : Qd (.int i)) (k : ∀ w H' z, Qd z → Ext [] H H' → Rp K W H' w z → NewC K W n H w H' z → Q w H') : Q (.int i) H := k _ _ _ q (Ext.refl _ _) (.int _) (.data fun _ z => nomatch z)
theorem rd_bl {Q : VK} {Qd : D → Prop} {n : Bool} {i : Bool} (q : Qd (.bool i)) (k : ∀ w H' z, Qd z → Ext [] H H' → Rp K W H' w z → NewC K W n H w H' z → Q w H') : Q (.bl i) H := k _ _ _ q (Ext.refl _ _) (.bl _) (.data fun _ z => nomatch z)
theorem rd_str {Q : VK} {Qd : D → Prop} {n : Bool} {i : Str} (q : Qd (.str i)) (k : ∀ w H' z, Qd z → Ext [] H H' → Rp K W H' w z → NewC K W n H w H' z → Q w H') : Q (.str i) H := k _ _ _ q (Ext.refl _ _) (.str _) (.data fun _ z => nomatch z)
theorem bi_one {b : Bi} (hb : b ≠ .min2) (hb' : b ≠ .max2) : ∀ ds Q, biD b ds Q → ∃ d, ds = [d] ∧ biD b [d] Q := fun ds Q h => by
  match ds with
  | [d] => exact ⟨d, rfl, h⟩
  | [] => cases b <;> exact h.elim
  | [d, e] => cases b <;> first | exact absurd rfl hb | exact absurd rfl hb' | (cases d <;> exact h.elim) | exact h.elim
  | d :: e :: f :: r => cases b <;> first | (cases d <;> first | exact h.elim | (cases e <;> exact h.elim)) | exact h.elim
abbrev rLen2 (K : PySem.W.Frag) : List V → Hp → VK → Prop := fun xs H Q => (∃ p ys, xs = [.ref p] ∧ (SqL K H p ys ∨ SqT K H p ys) ∧ Q (.int ys.length) H) ∨ ∃ z, xs = [.str z] ∧ z.length ≤ sizeLine ∧ Q (.int z.length) H
theorem cd_len : CallD K (rLen2 K) (biD .len) false := one_of (bi_one (by decide) (by decide)) fun W H v d Q Qd r nt q k => by
  cases d with
  | list ds => cases r with | lst qq z t => exact .inl ⟨_, _, rfl, .inl (sqL_of qq), by rw [t.length]; exact rd_int q k⟩
  | tuple ds => cases r with | tup qq z t => exact .inl ⟨_, _, rfl, .inr (sqT_of qq), by rw [t.length]; exact rd_int q k⟩
  | str x => cases r; exact .inr ⟨x, rfl, q.1, rd_int q.2 k⟩
  | _ => exact q.elim
theorem cr_len2 : CallR X (.builtin "len") (rLen2 X.K) := call_len_seq.or call_len_str
theorem cd_abs : CallD K (fun xs H Q => ∃ i, xs = [V.int i] ∧ Q (.int (if i < 0 then -i else i)) H) (biD .abs) false := one_of (bi_one (by decide) (by decide)) fun W H v d Q Qd r nt q k => by
  cases d with
  | int i => cases r; exact ⟨i, rfl, rd_int q k⟩
  | _ => exact q.elim
theorem cd_int : CallD K (fun xs H Q => (∃ i, xs = [V.int i] ∧ Q (.int i) H) ∨ ∃ k, xs = [V.bl k] ∧ Q (.int (if k then 1 else 0)) H) (biD .int) false := one_of (bi_one (by decide) (by decide)) fun W H v d Q Qd r nt q k => by
  cases d with
  | int i => cases r; exact .inl ⟨i, rfl, rd_int q k⟩
  | bool i => cases r; exact .inr ⟨i, rfl, rd_int q k⟩
  | _ => exact q.elim
theorem cd_bool : CallD K (fun xs H Q => (∃ i, xs = [V.int i] ∧ Q (.bl (i != 0)) H) ∨ ∃ k, xs = [V.bl k] ∧ Q (.bl k) H) (biD .bool) false := one_of (bi_one (by decide) (by decide)) fun W H v d Q Qd r nt q k => by
  cases d with
  | int i => cases r; exact .inl ⟨i, rfl, rd_bl q k⟩
  | bool i => cases r; exact .inr ⟨i, rfl, rd_bl q k⟩
  | _ => exact q.elim
theorem cd_str : CallD K (fun xs H Q => (∃ i, xs = [V.int i] ∧ i.natAbs.log2 < 1920 ∧ Q (.str (toString i)) H) ∨ ∃ a, xs = [V.str a] ∧ Q (.str a) H) (biD .str) false := one_of (bi_one (by decide) (by decide)) fun W H v d Q Qd r nt q k => by
  cases d with
  | int i => cases r; exact .inl ⟨i, rfl, q.1, rd_str q.2 k⟩
  | str i => cases r; exact .inr ⟨i, rfl, rd_str q k⟩
  | _ => exact q.elim
theorem RpA.bools : ∀ {vs : List V} (bs : List Bool), RpA K W H vs (bs.map .bool) → vs = bs.map .bl
  | _, [], h => by cases h; rfl
  | _, b :: bs, h => by
    cases h with
    | cons r t => cases r; rw [RpA.bools bs t]; rfl
theorem RpA.ints : ∀ {vs : List V} (bs : List Int), RpA K W H vs (bs.map .int) → vs = bs.map .int
  | _, [], h => by cases h; rfl
  | _, b :: bs, h => by
    cases h with
    | cons r t => cases r; rw [RpA.ints bs t]; rfl
theorem RpA.ofInts : ∀ (ns : List Int), RpA K W H (ns.map .int) (ns.map .int)
  | [] => .nil
  | n :: ns => .cons (.int n) (RpA.ofInts ns)
theorem cd_all : CallD K (rAll K) (biD .all) false := one_of (bi_one (by decide) (by decide)) fun W H v d Q Qd r nt q k => by
  cases d with
  | list ds => cases r with | lst qq z t => obtain ⟨bs, rfl, q⟩ := q; obtain rfl := t.bools; exact ⟨_, bs, rfl, sqL_of qq, rd_bl q k⟩
  | _ => exact q.elim
theorem cd_any : CallD K (rAny K) (biD .any) false := one_of (bi_one (by decide) (by decide)) fun W H v d Q Qd r nt q k => by
  cases d with
  | list ds => cases r with | lst qq z t => obtain ⟨bs, rfl, q⟩ := q; obtain rfl := t.bools; exact ⟨_, bs, rfl, sqL_of qq, rd_bl q k⟩
  | _ => exact q.elim
theorem cd_sum : CallD K (rSum K) (biD .sum) false := one_of (bi_one (by decide) (by decide)) fun W H v d Q Qd r nt q k => by
  cases d with
  | list ds => cases r with | lst qq z t => obtain ⟨bs, rfl, q⟩ := q; obtain rfl := t.ints; exact ⟨_, bs, rfl, sqL_of qq, rd_int q k⟩
  | _ => exact q.elim
theorem cd_best {b : Bi} {best : D → List D → D} (h1 : ∀ ds Q, biD b ds Q → ∃ d, ds = [d] ∧ biD b [d] Q) (h2 : ∀ d Q, biD b [d] Q → ∃ x xs, d = .list (x :: xs) ∧ ((PySem.W.AlikeAll (x :: xs) ∧ PyData.depthAll (x :: xs) ≤ 60) ∧ ndlA (x :: xs) = true) ∧ Q (best x xs)) : CallD K (rBest K best) (biD b) false := one_of h1 fun W H v d Q Qd r nt q k => by
  obtain ⟨x, xs, rfl, h3, q⟩ := h2 _ _ q
  cases r with
  | lst qq z t => exact ⟨_, _, x, xs, rfl, sqL_of qq, RpA.dp _ h3.2 t, h3.1, fun i v hv hd => by
      obtain ⟨u, e1, e2⟩ := t.get hd
      rw [hv] at e1
      cases e1
      exact k _ _ _ q (Ext.refl _ _) e2 .no⟩
theorem cd_minI : CallD K (rBest K PySem.W.minD) (biD .minI) false := cd_best (b := .minI) (bi_one (by decide) (by decide)) fun d Q h => by
  cases d with
  | list ds => cases ds with
    | nil => exact h.elim
    | cons x xs => exact ⟨x, xs, rfl, h⟩
  | _ => exact h.elim
theorem cd_maxI : CallD K (rBest K PySem.W.maxD) (biD .maxI) false := cd_best (b := .maxI) (bi_one (by decide) (by decide)) fun d Q h => by
  cases d with
  | list ds => cases ds with
    | nil => exact h.elim
    | cons x xs => exact ⟨x, xs, rfl, h⟩
  | _ => exact h.elim
theorem bi_two {b : Bi} (hb : b = .min2 ∨ b = .max2) : ∀ ds Q, biD b ds Q → ∃ i j, ds = [.int i, .int j] := fun ds Q h => by
  match ds with
  | [.int i, .int j] => exact ⟨i, j, rfl⟩
  | [] => rcases hb with rfl | rfl <;> exact h.elim
  | [d] => rcases hb with rfl | rfl <;> cases d <;> exact h.elim
  | d :: e :: f :: r => rcases hb with rfl | rfl <;> (cases d <;> first | exact h.elim | (cases e <;> exact h.elim))
  | [d, e] => rcases hb with rfl | rfl <;> (cases d <;> first | exact h.elim | (cases e <;> first | exact ⟨_, _, rfl⟩ | exact h.elim))
theorem cd_min2 : CallD K (fun xs H Q => ∃ i j, xs = [V.int i, .int j] ∧ Q (.int (if j < i then j else i)) H) (biD .min2) false := fun W H vs ds Q Qd r nt q k => by
  obtain ⟨i, j, rfl⟩ := bi_two (.inl rfl) _ _ q
  obtain ⟨v, u, rfl, r1, r2⟩ := rp2 r
  cases r1; cases r2
  exact ⟨i, j, rfl, rd_int q k⟩
theorem cd_max2 : CallD K (fun xs H Q => ∃ i j, xs = [V.int i, .int j] ∧ Q (.int (if j > i then j else i)) H) (biD .max2) false := fun W H vs ds Q Qd r nt q k => by
  obtain ⟨i, j, rfl⟩ := bi_two (.inr rfl) _ _ q
  obtain ⟨v, u, rfl, r1, r2⟩ := rp2 r
  cases r1; cases r2
  exact ⟨i, j, rfl, rd_int q k⟩
theorem dk_keys (kvs : List (Int × Int)) : ((dkV kvs).map fun kv => kV kv.1) = (kvs.map (·.1)).map V.int := by
  unfold dkV
  rw [List.map_map, List.map_map]; rfl
theorem dkD_keys (kvs : List (Int × Int)) : (dkD kvs).map (·.1) = (kvs.map (·.1)).map PyData.int := by
  unfold dkD
  rw [List.map_map, List.map_map]; rfl
theorem cd_srt : CallD K (rSortedI K) (biD .srt) true := one_of (bi_one (by decide) (by decide)) fun W H v d Q Qd r nt q k => by
  cases d with
  | list ds => cases r with | lst qq z t =>
    obtain ⟨ns, rfl, q⟩ := q
    obtain rfl := t.ints
    refine ⟨_, ns, rfl, sqL_of qq, fun ms p hp hs hl => ?_⟩
    have hz : (ms.map V.int).length ≤ sizeLine := by rw [List.length_map, hp.length_eq]; rwa [List.length_map] at z
    exact k _ _ _ (q ms hp hs) (Ext.new hl) (Rp.newLst hl hz (nt.free hl) (RpA.ofInts ms)) (.new hl hl hz (RpA.ofInts ms))
  | _ => exact q.elim
theorem cd_list : CallD K (fun xs H Q => (∃ p ys, xs = [V.ref p] ∧ (SqL K H p ys ∨ SqT K H p ys) ∧ ∀ l, H l = none → Q (.ref l) (upd H l (.lst ys))) ∨ rListD xs H Q) (biD .list) true := one_of (bi_one (by decide) (by decide)) fun W H v d Q Qd r nt q k => by
  cases d with
  | list ds => cases r with | lst qq z t => exact .inl ⟨_, _, rfl, .inl (sqL_of qq), fun l hl => k _ _ _ q (Ext.new hl) (Rp.newLst hl z (nt.free hl) t) (.new hl hl z t)⟩
  | tuple ds => cases r with | tup qq z t => exact .inl ⟨_, _, rfl, .inr (sqT_of qq), fun l hl => k _ _ _ q (Ext.new hl) (Rp.newLst hl z (nt.free hl) t) (.new hl hl z t)⟩
  | dict ks => cases r with | @dct _ kvs qq n =>
    obtain ⟨hz, q⟩ := q
    rw [dkD_keys] at q
    refine .inr ⟨_, _, rfl, qq, fun l hl => ?_⟩
    rw [dk_keys]
    have hz' : ((kvs.map (·.1)).map V.int).length ≤ sizeLine := by rw [List.length_map, List.length_map]; unfold dkD at hz; rwa [List.length_map] at hz
    exact k _ _ _ q (Ext.new hl) (Rp.newLst hl hz' (nt.free hl) (RpA.ofInts _)) (.new hl hl hz' (RpA.ofInts _))
  | _ => exact q.elim
theorem cd_tuple : CallD K (fun xs H Q => ∃ p ys, xs = [V.ref p] ∧ ((SqL K H p ys ∧ ∀ l, H l = none → Q (.ref l) (upd H l (.tup ys))) ∨ (SqT K H p ys ∧ Q (.ref p) H))) (biD .tuple) false := one_of (bi_one (by decide) (by decide)) fun W H v d Q Qd r nt q k => by
  cases d with
  | list ds => cases r with | lst qq z t => exact ⟨_, _, rfl, .inl ⟨sqL_of qq, fun l hl => k _ _ _ q (Ext.new hl) (Rp.newTup hl z (nt.free hl) t) .no⟩⟩
  | tuple ds => cases r with | tup qq z t => exact ⟨_, _, rfl, .inr ⟨sqT_of qq, k _ _ _ q (Ext.refl _ _) (.tup qq z t) .no⟩⟩
  | _ => exact q.elim
end
/-! ### methods -/
def MetD (K : PySem.W.Frag) (r : V → List V → Hp → VK → Prop) (f : D → List D → (D → Prop) → Prop) (n : Bool) : Prop := ∀ W H v vs d ds Q Qd, Rp K W H v d → RpA K W H vs ds → NoTup W H → f d ds Qd → (∀ w H' z, Qd z → Ext [] H H' → Rp K W H' w z → NewC K W n H w H' z → Q w H') → r v vs H Q
section
variable {K : PySem.W.Frag} {W : List Addr} {H : Hp}
theorem RpA.texts : ∀ (ys : List Str) {xs : List V}, RpA K W H xs (ys.map .str) → xs = ys.map V.str
  | [], _, t => by cases t; rfl
  | y :: ys, _, t => by cases t with | cons r t => cases r; rw [RpA.texts ys t]; rfl
theorem RpA.ofTexts : ∀ (ys : List Str), RpA K W H (ys.map V.str) (ys.map .str)
  | [] => .nil
  | y :: ys => .cons (.str y) (RpA.ofTexts ys)
abbrev rJoin (K : PySem.W.Frag) : V → List V → Hp → VK → Prop := fun x xs H Q => ∃ a p, ∃ ys : List Str, x = .str a ∧ xs = [.ref p] ∧ (SqL K H p (ys.map V.str) ∨ SqT K H p (ys.map V.str)) ∧ (ys.map (·.length)).sum + ys.length * a.length ≤ 16777216 ∧ Q (.str (Txt.join a ys)) H
abbrev rSplit : V → List V → Hp → VK → Prop := fun x xs H Q => ∃ a b, x = .str a ∧ xs = [.str b] ∧ (b.length == 0) = false ∧ a.length + 2 ≤ sizeLine ∧ rNewStrs (Txt.split a b) H Q
theorem md_join : MetD K (rJoin K) (meD .join) false := fun W H v vs d ds Q Qd rv rs nt q k => by
  cases d with
  | str a =>
    match ds, rs, q with
    | [.list ds], rs, q =>
      obtain ⟨ys, rfl, hz, q⟩ := q
      obtain ⟨u, rfl, ru⟩ := rp1 rs
      cases rv
      cases ru with
      | lst qq z t =>
        obtain rfl := t.texts ys
        exact ⟨a, _, ys, rfl, rfl, .inl (sqL_of qq), hz, rd_str q k⟩
    | [], _, q => exact q.elim
    | [.none], _, q => exact q.elim
    | [.bool _], _, q => exact q.elim
    | [.int _], _, q => exact q.elim
    | [.str _], _, q => exact q.elim
    | [.tuple _], _, q => exact q.elim
    | [.dict _], _, q => exact q.elim
    | d :: _ :: _, _, q => cases d <;> exact q.elim
  | _ => exact q.elim
theorem md_split : MetD K rSplit (meD .split) true := fun W H v vs d ds Q Qd rv rs nt q k => by
  cases d with
  | str a =>
    match ds, rs, q with
    | [.str b], rs, q =>
      obtain ⟨u, rfl, ru⟩ := rp1 rs
      cases rv
      cases ru
      have hz : ((Txt.split a b).map V.str).length ≤ sizeLine := by
        rw [List.length_map]
        exact Nat.le_trans (PyProof.Rows.split_le a b) q.2.1
      exact ⟨a, b, rfl, rfl, q.1, q.2.1, fun p hp => k _ _ _ q.2.2 (Ext.new hp) (Rp.newLst hp hz (nt.free hp) (RpA.ofTexts _)) (.new hp hp hz (RpA.ofTexts _))⟩
    | [], _, q => exact q.elim
    | [.none], _, q => exact q.elim
    | [.bool _], _, q => exact q.elim
    | [.int _], _, q => exact q.elim
    | [.list _], _, q => exact q.elim
    | [.tuple _], _, q => exact q.elim
    | [.dict _], _, q => exact q.elim
    | d :: _ :: _, _, q => cases d <;> exact q.elim
  | _ => exact q.elim
end
/-- d.get(i, z) -/
abbrev rGetD : V → List V → Hp → VK → Prop := fun x xs H Q => ∃ (a : Addr) (kvs : List (Int × Int)) (i z : Int), x = .ref a ∧ xs = [.int i, .int z] ∧ H a = some (.dK (dkV kvs)) ∧ Q (.int (((kvs.find? fun p => decide (p.1 = i)).map (·.2)).getD z)) H
theorem mt_getD {X : Cx} : MtR X "dict.get" rGetD := by
  intro pins s σ H x xs v us Q I rx rxs h
  obtain ⟨a, kvs, i, z, rfl, rfl, e, q⟩ := h
  obtain rfl : v = Value.ref a := rx
  cases rxs with
  | cons r1 t => cases t with
    | cons r2 t =>
      cases t
      obtain ⟨zz, hd, vs, rel, dd⟩ := dk_of I.hok e
      refine call_meetsIn PySem.F.slot_dict_get dd.typeIs PySem.F.entry_dict_get (PySem.F.args_dict_get_3 _ _ _) (meets_dict_get_default (mixKind X.prog X.w) a (kV_is (k := .inl i) r1) hd _) ⟨_, dd.mapOf, ⟨.int (((kvs.find? fun p => decide (p.1 = i)).map (·.2)).getD z), H, I.tok _, ?_, q⟩⟩
      have := (rel.val (.inl i)).getD r2
      rw [dk_val] at this
      cases hf : (kvs.find? fun p => decide (p.1 = i)) with
      | none => rw [hf] at this; exact this
      | some p => rw [hf] at this; exact this
theorem find_isI (i : Int) : ∀ kvs : List (Int × Int), ((dkD kvs).find? fun p => isI i p.1).map (·.2) = ((kvs.find? fun p => decide (p.1 = i)).map (·.2)).map PyData.int
  | [] => rfl
  | p :: r => by
    have ih := find_isI i r
    simp only [dkD, List.map_cons, List.find?_cons, isI]
    cases decide (p.1 = i)
    · exact ih
    · rfl
theorem get_two {ks : List (D × D)} {ds : List D} {Q : D → Prop} (h : meD .get (.dict ks) ds Q) : ∃ i z, ds = [.int i, .int z] := by
  match ds with
  | [.int i, .int j] => exact ⟨i, j, rfl⟩
  | [] => exact h.elim
  | [d] => cases d <;> exact h.elim
  | d :: e :: f :: r => cases d <;> first | exact h.elim | (cases e <;> exact h.elim)
  | [d, e] => cases d <;> first | exact h.elim | (cases e <;> first | exact ⟨_, _, rfl⟩ | exact h.elim)
theorem md_get {K : PySem.W.Frag} : MetD K rGetD (meD .get) false := fun W H v vs d ds Q Qd rv rs nt q k => by
  cases d with
  | dict ks =>
    obtain ⟨i, z, rfl⟩ := get_two q
    · obtain ⟨u, u', rfl, r1, r2⟩ := rp2 rs
      cases r1; cases r2
      cases rv with
      | @dct a kvs qq n =>
        refine ⟨a, kvs, i, z, rfl, rfl, qq, ?_⟩
        have q : Qd ((((dkD kvs).find? fun p => isI i p.1).map (·.2)).getD (.int z)) := q
        rw [find_isI] at q
        refine rd_int (i := ((kvs.find? fun p => decide (p.1 = i)).map (·.2)).getD z) ?_ k
        cases hf : (kvs.find? fun p => decide (p.1 = i)) with
        | none => rw [hf] at q; exact q
        | some p => rw [hf] at q; exact q
  | _ => exact q.elim
def meN : Me → Str
  | .join => "join"
  | .split => "split"
  | .get => "get"
def meF : Me → Bool
  | .join => false
  | .split => true
  | .get => false
theorem tyV_str {K : PySem.W.Frag} {W : List Addr} {H : Hp} {v : V} {d : D} (r : Rp K W H v d) (h : dC d = 3) : tyV K "str" v H := by
  cases r with
  | str x => rfl
  | _ => cases h
theorem tyV_dict {K : PySem.W.Frag} {W : List Addr} {H : Hp} {v : V} {d : D} (r : Rp K W H v d) (h : dC d = 6) : tyV K "dict" v H := by
  cases r with
  | dct q n => exact .inr (.inr (.inl ⟨rfl, .inl ⟨_, q⟩⟩))
  | _ => cases h
structure MeR (m : Me) (T id : String) (r : PySem.W.Frag → V → List V → Hp → VK → Prop) : Prop where
  pa : PlainAttrs T
  sl : Slot T (meN m) id
  ty : typeOf (.builtin id) = pure (.type "method_descriptor")
  mt : ∀ X : Cx, MtR X id (r X.K)
  tv : ∀ (K : PySem.W.Frag) (W : List Addr) (H : Hp) (v : V) (d : D), Rp K W H v d → dC d = meC m → tyV K T v H
  md : ∀ K, MetD K (r K) (meD m) (meF m)
theorem me_ok (m : Me) : ∃ T id r, MeR m T id r := by
  cases m with
  | join => exact ⟨"str", _, rJoin, PySem.F.plainAttrs_str, PySem.F.slot_str_join, PySem.F.type_str_join, fun X => mt_join, fun K W H v d r h => tyV_str r h, fun K => md_join⟩
  | get => exact ⟨"dict", _, fun _ => rGetD, PySem.F.plainAttrs_dict, PySem.F.slot_dict_get, PySem.F.type_dict_get, fun X => mt_getD, fun K W H v d r h => tyV_dict r h, fun K => md_get⟩
  | split => exact ⟨"str", _, fun _ => rSplit, PySem.F.plainAttrs_str, PySem.F.slot_str_split, PySem.F.type_str_split, fun X => mt_split, fun K W H v d r h => tyV_str r h, fun K => md_split⟩
section
variable {X : Cx} {f : SemE} {fl : SemL} {o e : Expr} {es : List Expr} {apos cpos : Pos} {m : Bool} {ln : Nat}
theorem s_met {M : Me} {n : Str} (hn : n = meN M) (ho : PE X o (tE X.K m f)) (ha : PA X (e :: es) (tL X.K ln fl)) (h1 : attributeBase o n X.env (eval o X.env) = eval o X.env)
    (h2 : (((((backTo cpos (starEach (e :: es) X.env)).all fun x => !x.fst) && (backToKw cpos (keywordEach [] X.env)).all fun x => x.fst.isSome) && decide (((e :: es).length + ([] : List Keyword).length + if ([] : List Keyword).isEmpty = true then 0 else 1) < 30)) = true)) (h3 : (apos.endLine == cpos.line) = true)
    (he : starEach (e :: es) X.env = (false, eval e X.env) :: starEach es X.env) (hpl : (backTo cpos (starEach es X.env)).any (·.1) = false) : PE X (.Call (.Attribute o n apos) (e :: es) [] cpos) (tE X.K (meF M) fun ρ Q => f ρ fun d => dC d = meC M ∧ fl ρ fun ds => meD M d ds Q) := by
  subst hn
  obtain ⟨T, id, r, p⟩ := me_ok M
  refine PEi (pe_bm p.pa p.sl p.ty (p.mt X) ho ha h1 h2 h3 he hpl) fun σ H Q q => ?_
  obtain ⟨W0, ρ, Qd, E, q, k⟩ := q
  refine ⟨W0, ρ, _, E, q, fun v H1 d q1 E1 X1 r1 _ => ⟨p.tv _ _ _ _ _ r1 q1.1, W0, ρ, _, E1, q1.2, fun vs H2 ds q2 E2 X2 r2 hl => ?_⟩⟩
  refine p.md X.K (W0 ++ xA ρ) H2 v vs d ds Q Qd (Rp.ext X2 (fun _ z => List.mem_append_right _ z) d r1) r2 (NoTup.xa E2) q2 fun w H3 z q3 X3 r3 nw => ?_
  exact k w H3 z q3 (E2.grow X3) ((X1.trans X2).trans (X3.mono fun _ z => nomatch z)) r3 (nw.pre (X1.trans X2))
end
/-! ### t.index(e), t a constant -/
section
variable {X : Cx} {f : SemE} {o e : Expr} {apos cpos : Pos} {m : Bool}
theorem s_kix {v : V} {ds : List D} (ho : PE X o (tC v)) (hr : ∀ W H, Rp X.K W H v (.tuple ds)) (ht : ∀ H, tyV X.K "tuple" v H) (he : PE X e (tE X.K m f)) (h1 : attributeBase o "index" X.env (eval o X.env) = eval o X.env)
    (h2 : (((((backTo cpos (starEach [e] X.env)).all fun x => !x.fst) && (backToKw cpos (keywordEach [] X.env)).all fun x => x.fst.isSome) && decide (([e].length + ([] : List Keyword).length + if ([] : List Keyword).isEmpty = true then 0 else 1) < 30)) = true)) (h3 : (apos.endLine == cpos.line) = true)
    (hs : starEach [e] X.env = [(false, eval e X.env)]) (hpl : (backTo cpos (starEach [] X.env)).any (·.1) = false) : PE X (.Call (.Attribute o "index" apos) [e] [] cpos) (tE X.K false fun ρ Q => f ρ fun d => kixD ds d Q) := by
  refine PEi (pe_bm PySem.F.plainAttrs_tuple PySem.F.slot_tuple_index PySem.F.type_tuple_index mt_tup_index ho (pa_cons he pa_nil hs) h1 h2 h3 hs hpl) fun σ H Q q => ?_
  obtain ⟨W0, ρ, Qd, E, q, k⟩ := q
  refine ⟨ht H, W0, ρ, _, E, q, fun u H1 d q1 E1 X1 r1 _ => ?_⟩
  cases d with
  | str z =>
    obtain ⟨ys, j, rfl, h1, h2, q1⟩ := q1
    cases r1
    have rv := hr [] HZ
    cases rv with
    | @tup a xs _ qq z' t =>
      obtain rfl := t.texts ys
      have qt : SqT X.K H1 a (ys.map V.str) := by
        rcases qq with qq | qq
        · exact (rd_none qq.1).elim
        · exact .inr (qq.resolve_left fun z => rd_none z)
      exact ⟨a, ys, z, j, rfl, rfl, qt, h1, h2, k _ _ _ q1 E1 X1 (.int _) (.data fun _ z => nomatch z)⟩
  | _ => exact q1.elim
end
/-! ### {'x': 1, ..}[e] -/
theorem valV_put {κ : Type} [DecidableEq κ] (kvs : List (κ × V)) (k k' : κ) (v : V) : valV (putK kvs k v) k' = if k = k' then some v else valV kvs k' := by
  unfold putK
  split
  · rename_i h
    unfold valV
    induction kvs with
    | nil => simp at h
    | cons p r ih =>
      rw [List.map_cons, List.find?_cons]
      by_cases e : p.1 = k
      · by_cases e2 : k = k'
        · subst e2; simp [e]
        · simp only [e, if_true, e2, decide_false]
          rw [List.find?_cons]
          simp only [e, e2, decide_false, if_false]
          clear ih h
          induction r with
          | nil => rfl
          | cons q r ih =>
            rw [List.map_cons, List.find?_cons, List.find?_cons]
            by_cases e3 : q.1 = k
            · simp only [e3, if_true, e2, decide_false]; exact ih
            · simp only [e3, if_false]
              by_cases e4 : q.1 = k'
              · simp [e4]
              · simp only [e4, decide_false]; exact ih
      · simp only [e, if_false]
        rw [List.find?_cons]
        by_cases e4 : p.1 = k'
        · have : k ≠ k' := fun z => e (e4.trans z.symm)
          simp [e4, this]
        · simp only [e4, decide_false]
          exact ih (by simpa [e] using h)
  · rename_i h
    unfold valV
    rw [List.find?_append]
    by_cases e : k = k'
    · subst e
      have : kvs.find? (fun kv => decide (kv.1 = k)) = none := by
        rw [List.find?_eq_none]
        intro p hp q
        exact h (List.any_eq_true.mpr ⟨p, hp, q⟩)
      simp [this]
    · simp [e]
theorem merge_find (x : Str) : ∀ (ks : List (Str × Int)) (acc : List (Key × V)), valV (mergeK acc (ks.map fun p => (Sum.inr p.1, V.int p.2))) (Sum.inr x) = match (ks.reverse.find? fun p => decide (p.1 = x)) with
    | some p => some (V.int p.2)
    | none => valV acc (Sum.inr x)
  | [], _ => rfl
  | p :: ks, acc => by
    show valV (mergeK (putK acc (Sum.inr p.1) (V.int p.2)) (ks.map fun p => (Sum.inr p.1, V.int p.2))) (Sum.inr x) = _
    rw [merge_find x ks, List.reverse_cons, List.find?_append]
    cases e : ks.reverse.find? fun p => decide (p.1 = x) with
    | some q => rfl
    | none =>
      rw [valV_put]
      by_cases h : p.1 = x
      · simp [h]
      · have : ¬ ((Sum.inr p.1 : Key) = Sum.inr x) := fun z => h (Sum.inr.inj z)
        simp [h, this]
section
variable {X : Cx} {f : SemE} {e : Expr} {p1 pos : Pos} {m : Bool}
theorem pairs_const {σ : L2.St} : ∀ (ks : List (Str × Int)) (H : Hp) (Q : List (V × V) → Hp → Prop), Q (ks.map fun p => (V.str p.1, V.int p.2)) H → tPairs (ks.map fun p => (tC (V.str p.1), tC (V.int p.2))) σ H Q
  | [], _, _, h => h
  | p :: ks, H, Q, h => pairs_const ks H _ h
theorem s_dsub {keys : List (Option Expr)} {vals : List Expr} {ks : List (Str × Int)} (hp : PPs X p1 keys vals (ks.map fun p => (tC (V.str p.1), tC (V.int p.2)))) (hall : keys.all (·.isSome) = true) (hl : keys.length = vals.length) (h0 : keys ≠ []) (h15 : keys.length ≤ 15) (hk : ks.length ≤ 15) (hu : X.A.units + 1 < cLine)
    (he : PE X e (tE X.K m f)) (hs : PlainIx e) : PE X (.Subscript (.Dict keys vals p1) e pos) (tE X.K false fun ρ Q => f ρ fun d => dsubD ks d Q) := PEi (pe_dget hu (pe_disp hp hall hl h0 h15) he hs) fun σ H Q q => by
  obtain ⟨W0, ρ, Qd, E, q, k⟩ := q
  intro p hp
  refine pairs_const ks _ _ ⟨upd_same, ks.map fun p => (Sum.inr p.1, V.int p.2), by rw [List.map_map]; rfl, by rw [List.length_map]; exact hk, ?_⟩
  have X0 : Ext [] H (upd (upd H p (.dK [])) p (.dK (mergeK [] (ks.map fun p => (Sum.inr p.1, V.int p.2))))) := ⟨fun a o _ h => by
    have : a ≠ p := fun z => by rw [z, hp] at h; cases h
    rw [upd_ne this, upd_ne this]; exact h, fun a h => by
    by_cases z : a = p
    · subst z; rw [upd_same]; exact fun z => nomatch z
    · rw [upd_ne z, upd_ne z]; exact h⟩
  refine ⟨W0, ρ, _, E.grow X0, q, fun v H2 d q1 E2 X2 r1 _ => ?_⟩
  have hpx : p ∉ xA ρ := fun z => (NoTup.xa E).free hp (List.mem_append_right _ z)
  cases d with
  | str x =>
    obtain ⟨n, hn, q1⟩ := q1
    cases r1
    refine ⟨p, .int n, rfl, .inl ⟨_, Sum.inr x, .inl (X2.keep _ _ hpx upd_same), rfl, ?_⟩, k _ H2 _ q1 E2 ((X0.mono fun _ z => nomatch z).trans X2) (.int n) .no⟩
    rw [merge_find]
    obtain ⟨q, hq, e⟩ := Option.map_eq_some_iff.mp hn
    rw [hq, ← e]
  | _ => exact q1.elim
end
/-! ### isinstance -/
def tyN : Ty → String
  | .int => "int" | .bool => "bool" | .str => "str" | .tuple => "tuple" | .list => "list"
def tn : Nat → String
  | 0 => "NoneType" | 1 => "bool" | 2 => "int" | 3 => "str" | 4 => "list" | 5 => "tuple" | _ => "dict"
abbrev dTy (d : D) : String := tn (dC d)
theorem ktab (T : Ty) : ∀ n, n < 7 → kitB (tn n) (tyN T) = some (isiC T n) := by
  cases T <;> decide +kernel
theorem kit_isi (T : Ty) (d : D) : kitB (dTy d) (tyN T) = some (isiD T d) := by
  refine ktab T (dC d) ?_
  cases d with
  | dict k => exact (by decide : 6 < 7)
  | none => exact (by decide : 0 < 7)
  | bool _ => exact (by decide : 1 < 7)
  | int _ => exact (by decide : 2 < 7)
  | str _ => exact (by decide : 3 < 7)
  | list _ => exact (by decide : 4 < 7)
  | tuple _ => exact (by decide : 5 < 7)
theorem Rp.ty {K : PySem.W.Frag} {W : List Addr} {H : Hp} {v : V} {d : D} (r : Rp K W H v d) : TyX K H v (.type (dTy d)) := by
  cases r with
  | dct q n => exact .base (.dK q)
  | non => exact .base .non
  | bl b => exact .base (.bl b)
  | int b => exact .base (.int b)
  | str b => exact .base (.str b)
  | lst q z t =>
    rcases q with ⟨q | ⟨o, q⟩, _⟩ | q | ⟨o, its, n, hk, hc, _⟩
    · exact .base (.lst q)
    · exact .base (.frz q)
    · exact (rd_none q).elim
    · exact .kList hk hc
  | tup q z t =>
    rcases q with ⟨q | ⟨o, q⟩, _⟩ | q | ⟨o, its, n, hk, hc, _⟩
    · exact .base (.tup q)
    · exact .fTuple q
    · exact (rd_none q).elim
    · exact .kTuple hk hc
section
variable {X : Cx} {f : SemE} {a : Expr} {p q pos : Pos} {m : Bool}
theorem s_isi {T : Ty} {x : Str} (ha : PE X a (tE X.K m f)) (hg : Gl X "isinstance") (hm : X.mg "isinstance" = none) (hgT : Gl X x) (hmT : X.mg x = none) (hv : bootBuiltins x = some (.type (tyN T))) (hn : x ≠ "__name__") (hd : (x == ("__debug__" : Str)) = false)
    (h1 : starEach [a, .Name x q] X.env = (false, eval a X.env) :: starEach [.Name x q] X.env) :
    PE X (.Call (.Name "isinstance" p) [a, .Name x q] [] pos) (tE X.K false fun ρ Q => f ρ fun d => Q (.bool (isiD T d))) :=
  PEi (pe_callB call_isi hg hm boot_isinstance (pa_cons ha (pa_cons (pe_bltn (v := .ty (tyN T)) hgT hmT hv rfl hn hd) pa_nil) h1) (by decide) (by decide) h1) fun σ H Q q => by
    obtain ⟨W0, ρ, Qd, E, q, k⟩ := q
    refine ⟨W0, ρ, _, E, q, fun v H1 d q1 E1 X1 r1 _ => ?_⟩
    exact ⟨v, _, _, _, _, rfl, .ty _, r1.ty, kit_ty (kit_isi T d), k _ H1 _ q1 E1 X1 (.bl _) .no⟩
end
/-! ### calls of the text's own defs -/
theorem EnvR.bag {K : PySem.W.Frag} {W0 : List Addr} {H : Hp} {σ : L2.St} {ρ : SEnv} (E : EnvR K W0 H σ ρ) {a : Addr} (m : a ∈ xA ρ) : ClR K [] H a .bag := by
  obtain ⟨i, h⟩ := mem_xA.mp m
  obtain ⟨o, _, r⟩ := E.slot i _ h
  exact r.2
theorem bag_ext {K : PySem.W.Frag} {W : List Addr} {H H' : Hp} {a : Addr} (e : Ext W H H') (n : a ∉ W) (h : ClR K [] H a .bag) : ClR K [] H' a .bag := by
  obtain ⟨x, y, q, b⟩ := h
  exact ⟨x, y, e.keep _ _ n q, b⟩
/-- a def's promise by data -/
def spD (K : PySem.W.Frag) (F : Spec) : Sp := fun vs H Q _ => ∃ W0 as Qd, Paired (ArgR K W0 H) vs as ∧ NoTup W0 H ∧ one1 (argX as) ∧ F as Qd ∧
  ∀ v H' d, Qd d → Rp K W0 H' v d → Ext (argX as) H H' → (∀ a ∈ argX as, ClR K [] H' a .bag) → Q v H'
section
variable {X : Cx} {f : SemE} {fa : SemA} {a e : Expr} {es : List Expr} {p pos : Pos} {m : Bool}
theorem s_anil : PA X [] (tA X.K fun _ Q => Q []) := PAi pa_nil fun σ H Q q => by
  obtain ⟨W0, ρ, Qd, E, q, k⟩ := q
  exact k [] H [] q E (Ext.refl _ _) .nil fun _ z => nomatch z
theorem ArgR.later {K : PySem.W.Frag} {W0 : List Addr} {H H' : Hp} {σ : L2.St} {ρ : SEnv} (e : Ext (xA ρ) H H') (E : EnvR K W0 H' σ ρ) {v : V} {a : Arg} (hb : ∀ b, a = .bag b → b ∈ xA ρ) (h : ArgR K (W0 ++ xA ρ) H v a) : ArgR K (W0 ++ xA ρ) H' v a := by
  cases a with
  | dat d => exact Rp.ext e xsub d h
  | bag b => exact ⟨h.1, E.bag (hb b rfl), h.2.2⟩
theorem s_acons (ha : PE X a (tE X.K m f)) (hs : PA X es (tA X.K fa)) (hst : starEach (a :: es) X.env = (false, eval a X.env) :: starEach es X.env) : PA X (a :: es) (tA X.K fun ρ Q => f ρ fun d => fa ρ fun as => Q (.dat d :: as)) :=
  PAi (pa_cons ha hs hst) fun σ H Q q => by
    obtain ⟨W0, ρ, Qd, E, q, k⟩ := q
    refine ⟨W0, ρ, _, E, q, fun v H1 d q1 E1 X1 r1 _ => ⟨W0, ρ, _, E1, q1, fun vs H2 as q2 E2 X2 r2 hb => ?_⟩⟩
    exact k (v :: vs) H2 (.dat d :: as) q2 E2 (X1.trans X2) (.cons (show ArgR _ _ _ _ (.dat d) from Rp.ext X2 xsub d r1) r2) hb
theorem s_acell {i : Nat} {x : Str} (hN : X.N[i]? = some x) (hv : Vis X.env.scope x) (hd : (x == ("__debug__" : Str)) = false) (hcd : (x == ("__classdict__" : Str)) = false) (hs : PA X es (tA X.K fa)) (hst : starEach (.Name x p :: es) X.env = (false, eval (.Name x p) X.env) :: starEach es X.env) :
    PA X (.Name x p :: es) (tA X.K fun ρ Q => slArg ρ[i]? fun a => fa ρ fun as => Q (a :: as)) :=
  PAi (pa_cons (pe_var hN hv hd hcd) hs hst) fun σ H Q q => by
    obtain ⟨W0, ρ, Qd, E, q, k⟩ := q
    have fin : ∀ v a, σ[i]? = some (some v) → ArgR X.K (W0 ++ xA ρ) H v a → (∀ b, a = .bag b → b ∈ xA ρ) → fa ρ (fun as => Qd (a :: as)) → tCons (tVar i) (tA X.K fa) σ H Q := fun v a hσ ra hb q => by
      refine ⟨v, hσ, W0, ρ, _, E, q, fun vs H2 as q2 E2 X2 r2 hbs => ?_⟩
      refine k (v :: vs) H2 (a :: as) q2 E2 X2 (.cons (ra.later X2 E2 hb) r2) fun b hm => ?_
      cases a with
      | dat d => exact hbs b hm
      | bag c =>
        rcases List.mem_cons.mp hm with rfl | hm
        · exact hb _ rfl
        · exact hbs b hm
    cases e : ρ[i]? with
    | none => rw [e] at q; exact q.elim
    | some s =>
      cases s with
      | un => rw [e] at q; exact q.elim
      | dat d =>
        obtain ⟨v, d', hσ, q', r⟩ := E.read (i := i) (Q := fun d' => d' = d) (by rw [e]; rfl)
        subst q'
        rw [e] at q
        exact fin v (.dat d') hσ r (fun _ z => nomatch z) q
      | cell a c =>
        cases c with
        | lst ds =>
          obtain ⟨v, d', hσ, q', r⟩ := E.read (i := i) (Q := fun d' => d' = .list ds) (by rw [e]; rfl)
          subst q'
          rw [e] at q
          exact fin v (.dat (.list ds)) hσ r (fun _ z => nomatch z) q
        | dk kvs =>
          obtain ⟨v, d', hσ, q', r⟩ := E.read (i := i) (Q := fun d' => d' = .dict (dkD kvs)) (by rw [e]; rfl)
          subst q'
          rw [e] at q
          exact fin v (.dat (.dict (dkD kvs))) hσ r (fun _ z => nomatch z) q
        | bag =>
          obtain ⟨o, hσ, r⟩ := E.slot i _ e
          rw [e] at q
          have hm : a ∈ xA ρ := mem_xA.mpr ⟨i, e⟩
          obtain ⟨rfl, r2⟩ := r
          refine fin (.ref a) (.bag a) hσ ⟨rfl, r2, List.mem_append_right _ hm⟩ (fun b z => ?_) q
          cases z
          exact hm
variable {CXx : CXT} {k : Nat} {fa' : Addr} {fd : FuncData} {ps : List Str} {F : Spec} {x : Str}
theorem ret_ent {as : List Arg} {vs : List V} {W0 : List Addr} {ρ : SEnv} {σ : L2.St} {H H1 : Hp} {Q : VK} {Qd : D → Prop} {E0' : XK} (E1 : EnvR X.K W0 H1 σ ρ) (X1 : Ext (xA ρ) H H1) (r1 : Paired (ArgR X.K (W0 ++ xA ρ) H1) vs as) (hb : ∀ a ∈ argX as, a ∈ xA ρ) (q : one1 (argX as) ∧ F as Qd)
    (k : ∀ v H' d, Qd d → EnvR X.K W0 H' σ ρ → Ext (xA ρ) H H' → Rp X.K (W0 ++ xA ρ) H' v d → NewC X.K (W0 ++ xA ρ) false H v H' d → Q v H') : spD X.K F vs H1 Q E0' := by
  refine ⟨W0 ++ xA ρ, as, Qd, r1, NoTup.xa E1, q.1, q.2, fun v H2 d qd rd X2 hbag => ?_⟩
  have X2' : Ext (xA ρ) H1 H2 := X2.mono hb
  refine k v H2 d qd (E1.turn X2' fun a m => ?_) (X1.trans X2') rd .no
  by_cases h : a ∈ argX as
  · exact hbag a h
  · exact bag_ext X2 h (E1.bag m)
theorem s_call (Fk : FnOk X.prog X.w X.K X.mg X.base CX0 k fa' fd ps (spD X.K F)) (hr : Room k X.A) (hg : Gl X x) (hm : X.mg x = some (.ref fa')) (hk : PySem.W.keepIn X.K (.ref fa') = true) (hb : Binds X.K fd ps [])
    (ha : PA X (e :: es) (tA X.K fa)) (hdb : (x == ("__debug__" : Str)) = false) (he : starEach (e :: es) X.env = (false, eval e X.env) :: starEach es X.env) (hpl : (backTo pos (starEach es X.env)).any (·.1) = false) :
    PE X (.Call (.Name x p) (e :: es) [] pos) (tE X.K false fun ρ Q => fa ρ fun as => one1 (argX as) ∧ F as Q) :=
  PEi (pe_call (E := E0) Fk hr hg hm hk hb .nil pass0 ha hdb he hpl) fun σ H Q q => by
    obtain ⟨W0, ρ, Qd, E, q, k⟩ := q
    refine ⟨W0, ρ, _, E, q, fun vs H1 as q1 E1 X1 r1 hb => ?_⟩
    show spD X.K F (vs ++ []) H1 Q E0
    rw [List.append_nil]
    exact ret_ent E1 X1 r1 hb q1 k
theorem s_call0 (Fk : FnOk X.prog X.w X.K X.mg X.base CX0 k fa' fd ps (spD X.K F)) (hr : Room k X.A) (hg : Gl X x) (hm : X.mg x = some (.ref fa')) (hk : PySem.W.keepIn X.K (.ref fa') = true) (hb : Binds X.K fd ps []) (hdb : (x == ("__debug__" : Str)) = false) :
    PE X (.Call (.Name x p) [] [] pos) (tE X.K false fun ρ Q => F [] Q) :=
  PEi (pe_call0 (E := E0) Fk hr hg hm hk hb .nil pass0 hdb) fun σ H Q q => by
    obtain ⟨W0, ρ, Qd, E, q, k⟩ := q
    show spD X.K F ([] ++ []) H Q E0
    exact ret_ent E (Ext.refl _ _) (.nil (F := ArgR X.K (W0 ++ xA ρ) H)) (fun _ z => nomatch z) ⟨trivial, q⟩ k
theorem argX_snoc (j : Int) : ∀ as : List Arg, argX (as ++ [.dat (.int j)]) = argX as
  | [] => rfl
  | .dat d :: as => argX_snoc j as
  | .bag b :: as => congrArg (b :: ·) (argX_snoc j as)
/-- the last parameter left to its default, an int -/
theorem s_callD {j : Int} {t : Tok} (Fk : FnOk X.prog X.w X.K X.mg X.base CX0 k fa' fd ps (spD X.K F)) (hr : Room k X.A) (hg : Gl X x) (hm : X.mg x = some (.ref fa')) (hk : PySem.W.keepIn X.K (.ref fa') = true) (hb : Binds X.K fd ps [.int j t])
    (ha : PA X (e :: es) (tA X.K fa)) (hdb : (x == ("__debug__" : Str)) = false) (he : starEach (e :: es) X.env = (false, eval e X.env) :: starEach es X.env) (hpl : (backTo pos (starEach es X.env)).any (·.1) = false) :
    PE X (.Call (.Name x p) (e :: es) [] pos) (tE X.K false fun ρ Q => fa ρ fun as => one1 (argX (as ++ [.dat (.int j)])) ∧ F (as ++ [.dat (.int j)]) Q) :=
  PEi (pe_call (E := E0) (dvs := [.int j]) Fk hr hg hm hk hb (.cons ⟨t, rfl⟩ .nil) pass0 ha hdb he hpl) fun σ H Q q => by
    obtain ⟨W0, ρ, Qd, E, q, k⟩ := q
    refine ⟨W0, ρ, _, E, q, fun vs H1 as q1 E1 X1 r1 hb => ?_⟩
    exact ret_ent E1 X1 (r1.snoc (show ArgR _ _ _ _ (.dat (.int j)) from .int j)) (by rw [argX_snoc]; exact hb) q1 k
/-- a def's promise by data: a list that is new -/
def spN (K : PySem.W.Frag) (F : Spec) : Sp := fun vs H Q _ => ∃ W0 as Qd, Paired (ArgR K W0 H) vs as ∧ NoTup W0 H ∧ one1 (argX as) ∧ F as Qd ∧
  ∀ p H' ds xs, Qd (.list ds) → H p = none → H' p = some (.lst xs) → xs.length ≤ sizeLine → RpA K W0 H' xs ds → Rp K W0 H' (.ref p) (.list ds) → Ext (argX as) H H' → (∀ a ∈ argX as, ClR K [] H' a .bag) → Q (.ref p) H'
def spX (n : Bool) (K : PySem.W.Frag) (F : Spec) : Sp := match n with
  | true => spN K F
  | false => spD K F
theorem ret_entN {as : List Arg} {vs : List V} {W0 : List Addr} {ρ : SEnv} {σ : L2.St} {H H1 : Hp} {Q : VK} {Qd : D → Prop} {E0' : XK} (E1 : EnvR X.K W0 H1 σ ρ) (X1 : Ext (xA ρ) H H1) (r1 : Paired (ArgR X.K (W0 ++ xA ρ) H1) vs as) (hb : ∀ a ∈ argX as, a ∈ xA ρ) (q : one1 (argX as) ∧ F as Qd)
    (k : ∀ v H' d, Qd d → EnvR X.K W0 H' σ ρ → Ext (xA ρ) H H' → Rp X.K (W0 ++ xA ρ) H' v d → NewC X.K (W0 ++ xA ρ) true H v H' d → Q v H') : spN X.K F vs H1 Q E0' := by
  refine ⟨W0 ++ xA ρ, as, Qd, r1, NoTup.xa E1, q.1, q.2, fun p H2 ds xs qd h0 h1 hz ra rd X2 hbag => ?_⟩
  have X2' : Ext (xA ρ) H1 H2 := X2.mono hb
  refine k (.ref p) H2 (.list ds) qd (E1.turn X2' fun a m => ?_) (X1.trans X2') rd fun _ es e => ?_
  · by_cases h : a ∈ argX as
    · exact hbag a h
    · exact bag_ext X2 h (E1.bag m)
  · cases e
    exact ⟨p, xs, rfl, X1.none h0, h1, hz, ra⟩
theorem s_callN (Fk : FnOk X.prog X.w X.K X.mg X.base CX0 k fa' fd ps (spN X.K F)) (hr : Room k X.A) (hg : Gl X x) (hm : X.mg x = some (.ref fa')) (hk : PySem.W.keepIn X.K (.ref fa') = true) (hb : Binds X.K fd ps [])
    (ha : PA X (e :: es) (tA X.K fa)) (hdb : (x == ("__debug__" : Str)) = false) (he : starEach (e :: es) X.env = (false, eval e X.env) :: starEach es X.env) (hpl : (backTo pos (starEach es X.env)).any (·.1) = false) :
    PE X (.Call (.Name x p) (e :: es) [] pos) (tE X.K true fun ρ Q => fa ρ fun as => one1 (argX as) ∧ F as Q) :=
  PEi (pe_call (E := E0) Fk hr hg hm hk hb .nil pass0 ha hdb he hpl) fun σ H Q q => by
    obtain ⟨W0, ρ, Qd, E, q, k⟩ := q
    refine ⟨W0, ρ, _, E, q, fun vs H1 as q1 E1 X1 r1 hb => ?_⟩
    show spN X.K F (vs ++ []) H1 Q E0
    rw [List.append_nil]
    exact ret_entN E1 X1 r1 hb q1 k
end
end CC

namespace CC
open PySem PySem.Spec PyProof.Rows L2
/-! ### set([..]) of ints -/
abbrev emptyS (w : World) : Obj := { cls := .type "set", dict := none, data := .set #[] 0 (.fresh 0 0 (!w.params.followText "set-order")) }
abbrev pushS (s : Shared) (w : World) : Heap := s.heap.push (emptyS w)
section
variable {P : Program} {w : World} {A : Around} {E : Value → Shared → Prop} {s : Shared}
theorem call_set_lst {l : Addr} {items : Array Value} (ns : List Int) {Q : Value → Shared → Prop} (handQ : A.handled = none) (lisQ : s.heap.IsList l items) (itemsQ : IntsAre items.toList ns) (boundQ : ns.length + 1 < scanBound)
    (h : ∀ (h9 : Heap) (tkq cc : Nat), SetR w h9 s.heap.objs.size (fun j => decide (j ∈ ns)) cc → cc ≤ ns.length → (∀ b o, s.heap.get? b = some o → h9.get? b = some o) → Q (.ref s.heap.objs.size) { s with heap := h9, toks := tkq }) :
    wpAny (model P w) A (call (.type "set") [.ref l]) Q E s := by
  have sizeQ : items.size = ns.length := by
    have q := IntsAre.length itemsQ
    rw [Array.length_toList] at q
    exact q
  obtain ⟨cc, tll, mroQ⟩ := F.called_set.mro
  have madeQ := F.called_set.made
  have subQ := F.called_set.sub
  apply wpAny_call; apply codeAny_of_tree
  show wpAny _ _ (callAny (Value.type "set") _) _ _ _
  refine wpAny_pure ⟨Code.quiet_builtin _ (by decide +kernel), codeAny_builtin F.entry_type_call ?_⟩
  rw [Around.under_plain (weight_type_call_type "set" [.ref l] []) rfl]
  have notT := F.called_set.notType
  have canC := F.called_set.canCreate
  have ctQ := F.typeCall_set_1 (.ref l)
  repeat (any_goals (first | assumption | wp_step))

  refine codeAny_mono (code_set_led1 (.ref l) (E := E) (Q₁ := fun obj s₁ => obj = .ref s.heap.objs.size ∧ s₁ = { s with heap := pushS s w }) ⟨rfl, rfl⟩) fun r s₁ rQ => ?_
  cases r with
  | error e => exact rQ
  | ok fl =>
    cases fl with
    | ret obj =>
      obtain ⟨rfl, rfl⟩ := rQ
      have gotQ : (pushS s w).get? s.heap.objs.size = some (emptyS w) := Heap.get?_push_size _ rfl
      have tyQ : Shared.TypeIs { s with heap := pushS s w } (.ref s.heap.objs.size) "set" := ⟨_, gotQ, rfl⟩
      have liQ := F.called_set.init.lookup
      have biQ := F.called_set.init.bind (.ref s.heap.objs.size)
      repeat (any_goals (first | assumption | wp_step))

      refine codeAny_mono (codeAny_call_builtin (R := wants (fun r s₂ => r = .none ∧ ∃ h9 tkq cc, s₂ = { s with heap := h9, toks := tkq } ∧ SetR w h9 s.heap.objs.size (fun j => decide (j ∈ ns)) cc ∧ cc ≤ ns.length ∧
          (∀ b o, s.heap.get? b = some o → h9.get? b = some o)) E) F.called_set.init.plain F.entry_set_init (check_set_init_1 tyQ ?_)) fun r₂ s₂ r2Q => ?_
      · obtain ⟨obQ, olQ, clQ, nlQ, dlQ⟩ := lisQ
        obtain ⟨oc1, od1, oa1, os1⟩ := obQ
        simp only at clQ dlQ
        subst clQ; subst dlQ
        have olQ' : (pushS s w).get? l = some { cls := .type "list", dict := od1, data := .seq items nlQ, slots := os1 } := Heap.get?_push_of_some _ olQ
        have slsQ := F.sub_list_set
        have slfQ := F.sub_list_frozenset
        have neQ : (Value.type "list" == Value.type "dict") = false := by decide
        have isQ : (pushS s w).IsList l items := ⟨_, olQ', rfl, nlQ, rfl⟩
        unfold Builtin.«set.__init__» noKeywords Builtin.Frozenset.updateFrom
        generalize itQ : pyIter = IT
        wp_walk
        subst itQ

        refine wpAny_pyIter_list isQ ?_
        refine wpAny_bind (wpAny_runValue ?_)
        have ltQ : l < s.heap.objs.size := Heap.lt_size olQ
        have calmQ : A.in1.in1.in1.handled = none := by simp [handQ]
        have szQ : (pushS s w).objs.size = s.heap.objs.size + 1 := Heap.size_push ..
        have neIQ : l ≠ (pushS s w).objs.size := by
          rw [Heap.size_push]; exact Nat.ne_of_lt (Nat.lt_succ_of_lt ltQ)
        have frQ : s.heap.objs.size ∉ [(pushS s w).objs.size, l] := by
          rw [Heap.size_push]; simp only [List.mem_cons, List.mem_singleton, List.not_mem_nil, or_false, not_or]
          exact ⟨Nat.ne_of_lt (Nat.lt_succ_self _), Nat.ne_of_gt ltQ⟩
        have valQ : ∀ (i : Nat) (v : Value), items[i]? = some v → ∃ k t, ns[i]? = some k ∧ v = .int k t := fun i v vQ => by
          have ltiQ : i < ns.length := by rw [← sizeQ]; exact (Array.getElem?_eq_some_iff.mp vQ).1
          obtain ⟨t, e⟩ := PyProof.Rows.IntsAre.int_at itemsQ i v (by rw [Array.getElem?_toList]; exact vQ)
          refine ⟨ns[i], t, List.getElem?_eq_getElem ltiQ, ?_⟩
          rw [e, List.getD_eq_getElem?_getD, List.getElem?_eq_getElem ltiQ] <;> rfl
        refine set_update_ints ((Walks.list calmQ _ l neIQ items).toS) s.heap.objs.size
          frQ ns sizeQ boundQ valQ (items.size - 0) 0 _ (by omega) (Nat.zero_le _)
          ⟨⟨_, Heap.get?_push_size _ rfl, rfl, rfl⟩, (isQ.push _)⟩ ?hS0 ?hR
        case hS0 =>
          have getQ : ((pushS s w).push { cls := .type "list_iterator", data := .fields #[.ref l, .int 0 0] }).get? s.heap.objs.size
              = some (emptyS w) := Heap.get?_push_of_some _ gotQ
          exact ⟨0, Nat.le_refl 0, setR_new_at getQ⟩
        case hR =>
          intro s9 c9 mvQ cntQ' gotQ'
          obtain ⟨h9, gg, d9, tk9, os9⟩ := s9
          have egQ : gg = s.gens := mvQ.gens
          have edQ : d9 = s.drawn := mvQ.drawn
          have eoQ : os9 = s.os := mvQ.os
          subst egQ; subst edQ; subst eoQ
          show wpAny _ _ _ _ _ _
          refine wpAny_pure ?_
          show wpAny _ _ (ret Value.none) _ _ _
          rw [sizeQ] at cntQ'
          refine wpAny_pure ⟨rfl, h9, tk9, c9, rfl, gotQ', cntQ', fun b o e => ?_⟩
          have b0Q : b < s.heap.objs.size := Heap.lt_size e
          have b1Q : b ≠ s.heap.objs.size := Nat.ne_of_lt b0Q
          have b2Q : b ≠ (pushS s w).objs.size := by
            rw [Heap.size_push]; exact Nat.ne_of_lt (Nat.lt_succ_of_lt b0Q)
          exact mvQ.heap b o (by simp only [List.mem_cons, List.mem_singleton, List.not_mem_nil, or_false, not_or]; exact ⟨b1Q, b2Q⟩) (Heap.get?_push_of_some _ (Heap.get?_push_of_some _ e))

      · cases r₂ with
        | error e => exact r2Q
        | ok fl2 =>
          cases fl2 with
          | ret r =>
            obtain ⟨rfl, h9, tkq, c9, rfl, gotQ', cntQ', hk'⟩ := r2Q
            repeat (any_goals (first | assumption | wp_step))
            exact h _ _ _ gotQ' cntQ' hk'
          | _ => exact r2Q.elim
    | _ => exact rQ.elim

end
theorem nodup_len : ∀ {xs ys : List Int}, xs.Nodup → (∀ x ∈ xs, x ∈ ys) → xs.length ≤ ys.length
  | [], _, _, _ => Nat.zero_le _
  | x :: xs, ys, hn, hs => by
    have hx := hs x List.mem_cons_self
    have h1 := List.nodup_cons.mp hn
    have := nodup_len (ys := ys.erase x) h1.2 fun y hy => (List.mem_erase_of_ne fun e => h1.1 (by rw [← e]; exact hy)).mpr (hs y (List.mem_cons_of_mem _ hy))
    rw [List.length_erase_of_mem hx] at this
    have := List.length_pos_of_mem hx
    rw [List.length_cons]
    omega
/-- set(a list of ints) -/
def rSetLX (K : PySem.W.Frag) (w : World) : List V → Hp → VK → Prop := fun xs H Q => ∃ (p : Addr) (ns : List Int), xs = [V.ref p] ∧ SqL K H p (ns.map V.int) ∧ ns.length + 1 < scanBound ∧ ∀ a n, H a = none → (∀ L : List Int, (∀ x, x ∈ ns → x ∈ L) → n ≤ L.length) → Q (.ref a) (upd H a (SetO w a (fun j => decide (j ∈ ns)) n))
theorem cr_setL {X : Cx} (hc : X.calm = true) : CallR X (.type "set") (rSetLX X.K X.w) := by
  intro pins s σ H xs us Q I r h
  obtain ⟨p, ns, rfl, hs, hb, q⟩ := h
  rw [Vals.ref1 r]
  obtain ⟨its, rv, ⟨⟨cls, dd, data, sl⟩, n, ho, hcl, hdn, hd⟩, hlen⟩ := I.list hs
  simp only at hcl hd
  subst hcl hd
  refine call_set_lst (items := its.toArray) ns (I.ok.hd hc) ⟨_, ho, rfl, n, rfl⟩ (ints_of_vals rv) hb fun h2 tk c hS hcn hk => ?_
  have hn := I.hok.fresh (Nat.le_refl s.heap.objs.size)
  have hc : ∀ L : List Int, (∀ x, x ∈ ns → x ∈ L) → c ≤ L.length := fun L hL => by
    obtain ⟨o, es, ep, t, _, _, _, _, hnd, hmem, _, _, hsz, _⟩ := hS
    have := nodup_len hnd fun x hx => hL x (of_decide_eq_true ((hmem x).mpr hx))
    rw [List.length_map, Array.length_toList, hsz] at this
    exact this
  exact ⟨.ref s.heap.objs.size, upd H s.heap.objs.size (SetO X.w s.heap.objs.size (fun j => decide (j ∈ ns)) c), I.laid (t' := tk) (fun b u e => hk b u e) (Nat.le_refl _) (setO_new hS), rfl, q _ _ hn hc⟩
end CC

namespace CC
open PySem PySem.Spec PyProof.Rows L2
/-! ### targets -/
section
variable {K : PySem.W.Frag} {W0 : List Addr} {H : Hp} {σ : L2.St} {ρ : SEnv}
theorem cellA_set {i : Nat} {d : D} {a : Addr} (h : a ∈ cellA (ρ.set i (.dat d))) : a ∈ cellA ρ := by
  obtain ⟨j, c, h⟩ := mem_cellA.mp h
  by_cases e : i = j
  · subst e
    by_cases hl : i < ρ.length
    · rw [List.getElem?_set_self hl] at h; cases h
    · rw [List.getElem?_eq_none (by simpa using hl)] at h; cases h
  · rw [List.getElem?_set_ne e] at h
    exact mem_cellA.mpr ⟨j, c, h⟩
theorem xA_set {i : Nat} {d : D} {a : Addr} (h : a ∈ xA (ρ.set i (.dat d))) : a ∈ xA ρ := by
  obtain ⟨j, h⟩ := mem_xA.mp h
  by_cases e : i = j
  · subst e
    by_cases hl : i < ρ.length
    · rw [List.getElem?_set_self hl] at h; cases h
    · rw [List.getElem?_eq_none (by simpa using hl)] at h; cases h
  · rw [List.getElem?_set_ne e] at h
    exact mem_xA.mpr ⟨j, h⟩
theorem EnvR.set (E : EnvR K W0 H σ ρ) {i : Nat} {v : V} {d : D} (r : Rp K (W0 ++ cellA ρ) H v d) : EnvR K W0 H (σ.set i (some v)) (ρ.set i (.dat d)) := by
  have sub : ∀ a ∈ W0 ++ cellA (ρ.set i (.dat d)), a ∈ W0 ++ cellA ρ := app_sub fun a m => cellA_set m
  have back : ∀ (j : Nat) (a : Addr) (c : Cl), (ρ.set i (.dat d))[j]? = some (.cell a c) → ρ[j]? = some (.cell a c) := fun j a c h => by
    by_cases e : i = j
    · subst e
      by_cases hl : i < ρ.length
      · rw [List.getElem?_set_self hl] at h; cases h
      · rw [List.getElem?_eq_none (by simpa using hl)] at h; cases h
    · rwa [List.getElem?_set_ne e] at h
  refine ⟨by rw [List.length_set, List.length_set]; exact E.len, fun j s h => ?_, fun j k a c c' h1 h2 => E.one j k a c c' (back _ _ _ h1) (back _ _ _ h2), E.nt, fun j a c h n => E.ow j a c (back _ _ _ h) n⟩
  by_cases e : i = j
  · subst e
    by_cases hl : i < ρ.length
    · rw [List.getElem?_set_self hl] at h
      cases h
      exact ⟨some v, List.getElem?_set_self (by rw [E.len]; exact hl), v, rfl, Rp.mono sub d r⟩
    · rw [List.getElem?_eq_none (by simpa using hl)] at h; cases h
  · rw [List.getElem?_set_ne e] at h
    obtain ⟨o, ho, rs⟩ := E.slot j s h
    exact ⟨o, by rw [List.getElem?_set_ne e]; exact ho, rs.mono sub⟩
theorem wipe_set {i : Nat} {v : Option V} : ∀ {vs : List Nat}, i ∈ vs → ∀ σ : L2.St, wipe (σ.set i v) vs = wipe σ vs
  | w :: vs, h, σ => by
    show (wipe (σ.set i v) vs).set w none = (wipe σ vs).set w none
    rcases List.mem_cons.mp h with e | h
    · subst e
      have : ∀ (us : List Nat) (τ : L2.St), (wipe (τ.set i v) us).set i none = (wipe τ us).set i none := fun us => by
        induction us with
        | nil => intro τ; show (τ.set i v).set i none = _; rw [List.set_set]; rfl
        | cons u us ih =>
          intro τ
          show ((wipe (τ.set i v) us).set u none).set i none = ((wipe τ us).set u none).set i none
          by_cases e : u = i
          · subst e; rw [List.set_set, List.set_set]; exact ih τ
          · rw [List.set_comm _ _ e, ih τ, List.set_comm _ _ (Ne.symm e)]
      exact this vs σ
    · rw [wipe_set h σ]
end
section
variable {X : Cx}
/-- names, one after another -/
def gNames (is : List Nat) : TGs := fun vs σ H Q => vs.length = is.length ∧ Q ((is.zip vs).foldl (fun τ p => τ.set p.1 (some p.2)) σ) H
theorem setL_ok {K : PySem.W.Frag} {W0 : List Addr} {H : Hp} : ∀ (is : List Nat) (vs : List V) (ds : List D) (σ : L2.St) (ρ : SEnv) (k : SEnv → Prop), EnvR K W0 H σ ρ → RpA K (W0 ++ cellA ρ) H vs ds → setL is ds ρ k →
    vs.length = is.length ∧ ∃ ρ', k ρ' ∧ EnvR K W0 H ((is.zip vs).foldl (fun τ p => τ.set p.1 (some p.2)) σ) ρ' ∧ (∀ a ∈ cellA ρ', a ∈ cellA ρ) ∧ (∀ a ∈ xA ρ', a ∈ xA ρ) ∧ (∀ us, (∀ i ∈ is, i ∈ us) → wipe ((is.zip vs).foldl (fun τ p => τ.set p.1 (some p.2)) σ) us = wipe σ us) ∧ ∀ i, i ∉ is → ρ'[i]? = ρ[i]?
  | [], vs, ds, σ, ρ, k, E, r, h => by
    cases ds with
    | nil => cases r; exact ⟨rfl, ρ, h, E, fun _ m => m, fun _ m => m, fun _ _ => rfl, fun _ _ => rfl⟩
    | cons d ds => exact h.elim
  | i :: is, vs, ds, σ, ρ, k, E, r, h => by
    cases ds with
    | nil => exact h.elim
    | cons d ds =>
      cases r with
      | @cons v vs _ _ r t =>
        have E1 := E.set (i := i) r
        obtain ⟨hl, ρ', hk, E2, c2, x2, w2, o2⟩ := setL_ok is vs ds (σ.set i (some v)) (ρ.set i (.dat d)) k E1 (RpA.mono (app_sub fun a m => cellA_set m) ds t) h
        refine ⟨by rw [List.length_cons, List.length_cons, hl], ρ', hk, E2, fun a m => cellA_set (c2 a m), fun a m => xA_set (x2 a m), fun us hu => ?_, fun j hj => ?_⟩
        · show wipe ((is.zip vs).foldl _ (σ.set i (some v))) us = _
          rw [w2 us fun j m => hu j (List.mem_cons_of_mem _ m), wipe_set (hu i List.mem_cons_self)]
        · rw [o2 j fun m => hj (List.mem_cons_of_mem _ m), List.getElem?_set_ne fun e => hj (by rw [e]; exact List.mem_cons_self)]
theorem g_name {i : Nat} {e : Expr} (h : PG X e (gName i)) : PG X e (tG X.K (.nm i)) := PGi h fun v σ H Q q => by
  obtain ⟨W0, ρ, d, k, E, r, q, c⟩ := q
  exact c _ _ q (E.set r) (fun a m => cellA_set m) (fun a m => xA_set m) (fun vs hv => wipe_set (hv i List.mem_cons_self) σ) fun j hj => by rw [List.getElem?_set_ne fun e => hj (by rw [e]; exact List.mem_cons_self)]
theorem g_nil : PGs X [] (gNames []) := PGsi pgs_nil fun v σ H Q q => by
  obtain ⟨hl, q⟩ := q
  cases v with
  | nil => exact ⟨rfl, q⟩
  | cons _ _ => cases hl
theorem g_cons {i : Nat} {is : List Nat} {e : Expr} {es : List Expr} (h1 : PG X e (gName i)) (h2 : PGs X es (gNames is)) (hs : (assignEach (e :: es) X.env).map (·.2) = assign e X.env :: (assignEach es X.env).map (·.2)) : PGs X (e :: es) (gNames (i :: is)) :=
  PGsi (pgs_cons h1 h2 hs) fun v σ H Q q => by
    obtain ⟨hl, q⟩ := q
    cases v with
    | nil => cases hl
    | cons v vs => exact ⟨v, vs, rfl, by simpa using hl, q⟩
theorem g_tup {is : List Nat} {es : List Expr} {k : Nat} {pos : Pos} (hc : X.calm = true) (h : PGs X es (gNames is)) (hn : (assignEach es X.env).length = is.length) (hst : (assignEach es X.env).findIdx? (·.1) = none) : PG X (.Tuple es k pos) (tG X.K (.tp is)) :=
  PGi (pg_tup hc h hn hst) fun v σ H Q q => by
    obtain ⟨W0, ρ, d, kk, E, r, q, c⟩ := q
    cases d with
    | tuple ds =>
      cases r with
      | tup qq z t =>
        obtain ⟨hl, ρ', hk, E2, c2, x2, w2, o2⟩ := setL_ok is _ ds σ ρ kk E t q
        exact ⟨_, _, rfl, sqT_of qq, hl, hl, c _ _ hk E2 c2 x2 w2 o2⟩
    | _ => exact q.elim
/-- (a, b), (c, d) = .. -/
theorem g_tup2 {ps qs : List Nat} {e1 e2 : Expr} {k : Nat} {pos : Pos} (hc : X.calm = true) (h1 : PG X e1 (tG X.K (.tp ps))) (h2 : PG X e2 (tG X.K (.tp qs))) (hs : (assignEach [e1, e2] X.env).map (·.2) = assign e1 X.env :: (assignEach [e2] X.env).map (·.2)) (hs2 : (assignEach [e2] X.env).map (·.2) = assign e2 X.env :: (assignEach [] X.env).map (·.2))
    (hn : (assignEach [e1, e2] X.env).length = 2) (hst : (assignEach [e1, e2] X.env).findIdx? (·.1) = none) : PG X (.Tuple [e1, e2] k pos) (tG X.K (.tp2 ps qs)) :=
  PGi (pg_tup hc (pgs_cons h1 (pgs_cons h2 pgs_nil hs2) hs) hn hst) fun v σ H Q q => by
    obtain ⟨W0, ρ, d, kk, E, r, q, c⟩ := q
    match d, r, q with
    | .tuple [x, y], r, q =>
      cases r with
      | tup qq z t =>
        obtain ⟨v1, v2, rfl, r1, r2⟩ := rp2 t
        refine ⟨_, _, rfl, sqT_of qq, rfl, v1, [v2], rfl, W0, ρ, x, _, E, r1, q, fun σ1 ρ1 q1 E1 c1 x1 w1 o1 => ?_⟩
        refine ⟨v2, [], rfl, W0, ρ1, y, kk, E1, Rp.mono (app_sub c1) y r2, q1, fun σ2 ρ2 q2 E2 c2 x2 w2 o2 => ⟨rfl, ?_⟩⟩
        refine c σ2 ρ2 q2 E2 (fun a m => c1 a (c2 a m)) (fun a m => x1 a (x2 a m)) (fun us hu => ?_) fun i hi => ?_
        · rw [w2 us fun i m => hu i (List.mem_append_right _ m), w1 us fun i m => hu i (List.mem_append_left _ m)]
        · rw [o2 i fun m => hi (List.mem_append_right _ m), o1 i fun m => hi (List.mem_append_left _ m)]
    | .tuple [], _, q => exact q.elim
    | .tuple [_], _, q => exact q.elim
    | .tuple (_ :: _ :: _ :: _), _, q => exact q.elim
    | .none, _, q => exact q.elim
    | .bool _, _, q => exact q.elim
    | .int _, _, q => exact q.elim
    | .str _, _, q => exact q.elim
    | .list _, _, q => exact q.elim
    | .dict _, _, q => exact q.elim
end
end CC

namespace CC
open PySem PySem.Spec PyProof.Rows L2
/-! ### enumerate of a tuple -/
section
open AutoSeq1 (wpAny_loadPart')
theorem enum_newT (q : Addr) (zs : Array Value) (nn : Nat) (dc : Option Addr) (sls : Array (Option Value)) :
    Meets (Builtin.«enumerate.__new__» ⟨[.type "enumerate", .ref q], []⟩) (fun _ R s => s.heap.get? q = some { cls := .type "tuple", dict := dc, data := .seq zs nn, slots := sls } ∧
      R (.ok (.ret (.ref (s.heap.push { cls := .type "tuple_iterator", data := .fields #[.ref q, .int 0 0] }).objs.size)))
        { s with heap := (s.heap.push { cls := .type "tuple_iterator", data := .fields #[.ref q, .int 0 0] }).push { cls := .type "enumerate", data := .fields #[.none, .bool false, .ref s.heap.objs.size, rawInt 0, .none, .none] } }) :=
  .of_wp fun prog w A R s hyp => by
    obtain ⟨hp, gg, dd, tk, oo⟩ := s; obtain ⟨hq, hyp⟩ := hyp
    have hse := sub_enumerate
    have hTq : Heap.IsTuple (Shared.heap ⟨hp, gg, dd, tk, oo⟩) q zs := ⟨_, hq, rfl, nn, rfl⟩
    wp_walk using wpAny_loadPart' hq
    refine wpAny_stack_any fun stk => wpAny_pure ?_
    split
    · rename_i cc _ _ _ _ _
      cases (cc == Value.type "enumerate")
      · wp_walk using wpAny_loadPart' hq, wpAny_pyIter_tuple hTq
        exact ⟨_, rfl, hyp⟩
      · wp_walk using wpAny_loadPart' hq, wpAny_pyIter_tuple hTq
        exact ⟨_, rfl, hyp⟩
    · wp_walk using wpAny_loadPart' hq, wpAny_pyIter_tuple hTq
      exact ⟨_, rfl, hyp⟩
variable {prog : Program} {w : World} {A : Around} {E : Value → Shared → Prop} {s : Shared}
theorem enum_callT {q : Addr} {zs : Array Value} {Q : Value → Shared → Prop} (hT : s.heap.IsTuple q zs)
    (k : ∀ h', IsEnum h' (s.heap.objs.size + 1) s.heap.objs.size 0 .none → h'.IsTupleIter s.heap.objs.size q 0 → (∀ b o, s.heap.get? b = some o → h'.get? b = some o) → Q (.ref (s.heap.objs.size + 1)) { s with heap := h' }) :
    wpAny (model prog w) A (call (.type "enumerate") [.ref q]) Q E s := by
  obtain ⟨⟨c, dc, dt, sls⟩, hq, hc, nn, hd⟩ := hT
  obtain rfl : c = .type "tuple" := hc
  obtain rfl : dt = .seq zs nn := hd
  refine callType_new F.called_enumerate (by decide) (F.typeCall_enumerate_1 _) (F.newCall_enumerate_1 _) (fun ob => F.args_object_init_2 ob _) F.entry_enumerate_new (enum_newT q zs nn dc sls) ⟨hq, ?_⟩
  generalize hP : s.heap.push { cls := .type "tuple_iterator", data := .fields #[.ref q, .int 0 0] } = g1
  have hz : g1.objs.size = s.heap.objs.size + 1 := by rw [← hP]; exact Heap.size_push ..
  have hit : g1.get? s.heap.objs.size = some { cls := .type "tuple_iterator", data := .fields #[.ref q, .int 0 0] } := by rw [← hP]; exact Heap.get?_push_size _ rfl
  have hold : ∀ b o, s.heap.get? b = some o → g1.get? b = some o := fun b o e => by rw [← hP]; exact Heap.get?_push_of_some _ e
  show _ ∧ _
  have he : IsEnum (g1.push { cls := .type "enumerate", data := .fields #[.none, .bool false, .ref s.heap.objs.size, rawInt 0, .none, .none] }) g1.objs.size s.heap.objs.size 0 .none := Heap.get?_push_size g1 rfl
  refine ⟨⟨_, he, rfl⟩, ?_⟩
  rw [hz] at he ⊢
  exact k _ he ⟨_, Heap.get?_push_of_some _ hit, rfl, rfl⟩ fun b o e => Heap.get?_push_of_some _ (hold b o e)
end
/-- the tuple at a, each item in a new pair with its place -/
def IteT (K : PySem.W.Frag) (a : Addr) : L2.It :=
  ⟨fun i H => ∃ (xs : List V) (x : V), SqT K H a xs ∧ xs[i]? = some x, fun i H v H' => ∃ T x, v = .ref T ∧ H T = none ∧ H' = upd H T (.tup [.int (i : Nat), x]) ∧ ∀ xs, SqT K H a xs → xs[i]? = some x, fun i H => ∃ xs : List V, SqT K H a xs ∧ xs.length ≤ i⟩
theorem turn_enumT {P : Program} {w : World} {K : PySem.W.Frag} {elts : List Expr} {kk : Nat} {tpos : Pos} (a e it : Addr) :
    Turn P w K (.Tuple elts kk tpos) (IteT K a) [e, it] e (fun i h => (∃ old, IsEnum h e it ((i : Nat) : Int) old) ∧ h.IsTupleIter it a i ∧ e ≠ it) where
  mem := List.mem_cons_self
  obj := fun i h st b hb => by
    obtain ⟨⟨old, he⟩, ⟨o, ho, hc, hd⟩, _⟩ := st
    rcases List.mem_cons.mp hb with z | hb
    · rw [z]; exact ⟨_, he, fun v q => nomatch q⟩
    · rw [List.mem_singleton.mp hb]; exact ⟨o, ho, fun v q => by rw [hd] at q; cases q⟩
  keep := fun i h h' st k => ⟨⟨_, k e (by simp) _ st.1.choose_spec⟩, st.2.1.at fun o q => k it (by simp) o q, st.2.2⟩
  item := by
    intro X hP hw hK hc i pins s σ H E I hf st hg
    subst hP hw hK
    obtain ⟨⟨old, he⟩, hit, hne⟩ := st
    obtain ⟨xs, x, hq, hx⟩ := hg
    obtain ⟨its, rv, p, hz⟩ := I.tuple hq
    obtain ⟨u, hu, ru⟩ := rv.get hx
    have lte : e < s.heap.objs.size := Heap.lt_size he
    have lti : it < s.heap.objs.size := Heap.lt_size hit.choose_spec.1
    have hai : a ≠ it := fun z => by
      obtain ⟨o1, h1, c1, _⟩ := hit
      obtain ⟨o2, h2, c2, _⟩ := p
      rw [z, h1] at h2
      cases h2
      rw [c1] at c2
      exact absurd c2 (by decide +kernel)
    have hae : a ≠ e := fun z => by
      obtain ⟨o2, h2, c2, _⟩ := p
      rw [z, he] at h2
      cases h2
      exact absurd c2 (by show Value.type "enumerate" ≠ Value.type "tuple"; decide +kernel)
    have hu' : its.toArray[i]? = some u := by simpa using hu
    have hlt : i < its.toArray.size := by
      by_cases q : i < its.toArray.size
      · exact q
      · rw [Array.getElem?_eq_none (by omega)] at hu'; cases hu'
    have D := Draws.tuple (prog := X.prog) (w := X.w) (A := X.A.in1) (show X.A.in1.handled = none from I.ok.hd hc) it a hai its.toArray
    refine wpAny_pyNext_enum_itemD D he ⟨hit, p⟩ hlt hne (by simp only [List.mem_cons, List.not_mem_nil, or_false, not_or]; exact ⟨hne, fun z => hae z.symm⟩) fun v h' tk hv ho st' hT hsz hk => ?_
    obtain rfl : v = u := Option.some.inj ((show its.toArray[i]? = some v from hv).symm.trans hu')
    refine ⟨_, rfl, wpAny_letOwnedTupleGo_enum (s := { s with heap := h', toks := tk + 1 }) ho fun h'' he' sb => ?_⟩
    have hT2 : h''.get? s.heap.objs.size = some { cls := .type "tuple", data := .seq #[.int i tk, v] } := (sb.2 _ (Nat.ne_of_gt lte)).trans hT
    have new : ObjOk X.prog X.w (upd H s.heap.objs.size (.tup [.int (i : Nat), x])) h'' s.heap.objs.size (.tup [.int (i : Nat), x]) :=
      ⟨by show 2 ≤ sizeLine; decide, [.int i tk, v], .cons ⟨_, rfl⟩ (.cons ru .nil), ⟨_, hT2, rfl, _, rfl⟩⟩
    have I1 : Inv X pins σ (upd H s.heap.objs.size (.tup [.int (i : Nat), x])) { s with heap := h'', toks := tk + 1 } :=
      I.turnedNew (ch := [e, it]) (fun b ob nb q => (sb.2 b fun z => nb (by simp [z])).trans (hk b ob (fun z => nb (by simp [z])) (fun z => nb (by simp [z])) q)) hf (Nat.le_refl _) new
    refine ⟨.ref s.heap.objs.size, _, I1, rfl, ⟨_, x, rfl, I.fresh, rfl, fun ys hy => by rw [I.tuple_inj hy hq]; exact hx⟩, ⟨⟨v, ?_⟩, st'.1.at fun o q => (sb.2 it hne.symm).trans q, hne⟩, fun b nb => ?_⟩
    · rw [show ((i + 1 : Nat) : Int) = (i : Int) + 1 by omega]; exact he'
    · have lb : b < s.heap.objs.size := by
        rcases List.mem_cons.mp nb with z | z
        · rw [z]; exact lte
        · rw [List.mem_singleton.mp z]; exact lti
      rw [upd_ne (Nat.ne_of_lt lb)]
      exact (hf b nb).1
  done := by
    intro X hP hw hK hc i pins s σ H E I hf st hg
    subst hP hw hK
    obtain ⟨⟨old, he⟩, hit, hne⟩ := st
    obtain ⟨xs, hq, hx⟩ := hg
    obtain ⟨its, rv, p, hz⟩ := I.tuple hq
    obtain ⟨f0, f1, f2, f3, f4, f5⟩ := hf it (by simp)
    have hai : a ≠ it := fun z => by
      obtain ⟨o1, h1, c1, _⟩ := hit
      obtain ⟨o2, h2, c2, _⟩ := p
      rw [z, h1] at h2
      cases h2
      rw [c1] at c2
      exact absurd c2 (by decide +kernel)
    have hl := rv.length
    have hT : s.TypeIs (.ref e) "enumerate" := ⟨_, he, rfl⟩
    unfold pyNext
    refine wpAny_bind (wpAny_attempt (wpAny_callSpecial?_slot (name := Str.ofString "__next__") hT F.slot_enumerate_next (wpAny_call_entry F.slot_enumerate_next hT F.entry_enumerate_next ?_ (F.args_enumerate_next_1 _))))
    show wpAny _ _ (field (.ref e) 2 >>= _) _ _ _
    refine wpAny_bind (wpAny_field he rfl (x := .ref it) rfl ?_)
    refine wpAny_bind (wpAny_nextOf_tuple_end (show X.A.in1.handled = none from I.ok.hd hc) hit p (by simp; omega) fun h' x he' hx' => ?_)
    obtain ⟨o, ho, hc⟩ := hx'
    refine wpAny_bind (wpAny_isInstance (T := "StopIteration") (b := true) ⟨o, ho, hc⟩ isSubtype_stop ?_)
    exact wpAny_pure ⟨rfl, I.turned (t' := s.toks) (fun b ob hb q => he' b ob hb q) f0 f1 f3 f4 f5⟩
  self := fun A i s Q E st h => wpAny_pyIter_enum st.1.choose_spec h
def iEnumA (K : PySem.W.Frag) (ta : TA) : TI := fun σ H R => ta σ H fun vs H1 => ∃ a xs, vs = [.ref a] ∧ ((SqL K H1 a xs ∧ R (Ite K a) H1) ∨ (SqT K H1 a xs ∧ R (IteT K a) H1))
theorem pi_enumA {X : Cx} {e : Expr} {ta : TA} {p pos tpos : Pos} {elts : List Expr} {kk : Nat} (hg : Gl X "enumerate") (hm : X.mg "enumerate" = none) (ha : PA X [e] ta) (hs : starEach [e] X.env = [(false, eval e X.env)]) :
    PI X (.Tuple elts kk tpos) (.Call (.Name "enumerate" p) [e] [] pos) (iEnumA X.K ta) := by
  refine ⟨fun pins s σ H R I h => ?_⟩
  refine Call_ (ld_blt I hg hm boot_enumerate (PyProof.Rows.callWith_type1 (thn (ha.run pos pins s σ H _ I h) fun us s1 ⟨vs, H1, I1, r1, q1⟩ => ?_) hs rfl))
  obtain ⟨a, xs, rfl, q1⟩ := q1
  obtain rfl := Vals.ref1 r1
  have fin : ∀ h', (∀ b o, s1.heap.get? b = some o → h'.get? b = some o) → Inv X pins σ H1 { s1 with heap := h' } := fun h' hk => I1.kept (t' := s1.toks) hk
  have fp : ∀ b ∈ [s1.heap.objs.size + 1, s1.heap.objs.size], FpOk X pins H1 b := fun b hb => by
    have hle : s1.heap.objs.size ≤ b := by
      rcases List.mem_cons.mp hb with z | z
      · rw [z]; exact Nat.le_succ _
      · rw [List.mem_singleton.mp z]; exact Nat.le_refl _
    exact I1.fpOk hle (I1.hok.fresh hle)
  rcases q1 with ⟨hq, q⟩ | ⟨hq, q⟩
  · obtain ⟨its, rv, pl, _⟩ := I1.list hq
    refine call_enumerate_list pl.isList fun h' he hit _ hk => wpAny_pyIter_enum he ?_
    exact ⟨_, [s1.heap.objs.size + 1, s1.heap.objs.size], _, _, H1, rfl, fin h' hk, turn_enum a _ _, ⟨⟨.none, he⟩, hit, Nat.succ_ne_self _⟩, fp, q⟩
  · obtain ⟨its, rv, pl, _⟩ := I1.tuple hq
    refine enum_callT (show s1.heap.IsTuple a its.toArray from pl) fun h' he hit hk => wpAny_pyIter_enum he ?_
    exact ⟨_, [s1.heap.objs.size + 1, s1.heap.objs.size], _, _, H1, rfl, fin h' hk, turn_enumT a _ _, ⟨⟨.none, he⟩, hit, Nat.succ_ne_self _⟩, fp, q⟩
/-- a list or a tuple walked -/
def iSeq (K : PySem.W.Frag) (tl : TE) : TI := fun σ H R => tl σ H fun x H1 => ∃ a xs, x = .ref a ∧ ((SqL K H1 a xs ∧ R (Itl K a) H1) ∨ (SqT K H1 a xs ∧ R (Itt K a) H1))
theorem pi_seq {X : Cx} {tg l : Expr} {tl : TE} (hl : PE X l tl) : PI X tg l (iSeq X.K tl) := by
  refine ⟨fun pins s σ H R I h => ?_⟩
  refine thn (hl.run pins s σ H _ I h) fun v s1 ⟨x, H1, I1, r1, a, xs, ex, q1⟩ => ?_
  subst ex
  obtain rfl : v = Value.ref a := r1
  have fp : ∀ b ∈ [s1.heap.objs.size], FpOk X pins H1 b := fun b hb => by
    rw [List.mem_singleton.mp hb]; exact I1.fpOk (Nat.le_refl _) I1.fresh
  have push : ∀ o, Inv X pins σ H1 { s1 with heap := s1.heap.push o } := fun o => I1.kept (t' := s1.toks) fun b u e => Heap.get?_push_of_some _ e
  rcases q1 with ⟨hq, q⟩ | ⟨hq, q⟩
  · obtain ⟨its, rv, pl, _⟩ := I1.list hq
    exact wpAny_pyIter_list pl.isList ⟨_, [s1.heap.objs.size], _, _, H1, rfl, push _, turn_list a _, ⟨_, Heap.get?_push_size _ rfl, rfl, rfl⟩, fp, q⟩
  · obtain ⟨its, rv, pl, _⟩ := I1.tuple hq
    exact wpAny_pyIter_tuple (show s1.heap.IsTuple a its.toArray from pl) ⟨_, [s1.heap.objs.size], _, _, H1, rfl, push _, turn_tuple a _, ⟨_, Heap.get?_push_size _ rfl, rfl, rfl⟩, fp, q⟩
end CC

namespace CC
open PySem PySem.Spec PyProof.Rows L2
/-! ### what iterators walk -/
section
variable {K : PySem.W.Frag} {W : List Addr} {H : Hp}
theorem lsq_ext {H' : Hp} {a : Addr} {xs : List V} (e : Ext W H H') (h : (Rd H a (.lst xs) ∧ a ∉ W) ∨ SqL K HZ a xs) : (Rd H' a (.lst xs) ∧ a ∉ W) ∨ SqL K HZ a xs := h.imp (fun q => ⟨rd_ext e q.1 q.2, q.2⟩) id
theorem tsq_ext {H' : Hp} {a : Addr} {xs : List V} (e : Ext W H H') (h : (Rd H a (.tup xs) ∧ a ∉ W) ∨ SqT K HZ a xs) : (Rd H' a (.tup xs) ∧ a ∉ W) ∨ SqT K HZ a xs := h.imp (fun q => ⟨rd_ext e q.1 q.2, q.2⟩) id
theorem Rp.clears : ∀ (N : List Addr), (∀ a ∈ N, H a = none) → ∀ {v : V} (d : D), Rp K W H v d → Rp K (N ++ W) H v d
  | [], _, _, _, r => r
  | n :: N, h, _, d, r => Rp.clear (h n List.mem_cons_self) d (Rp.clears N (fun a m => h a (List.mem_cons_of_mem _ m)) d r)
theorem Rp.later {H2 : Hp} (e : Ext W H H2) {N : List Addr} (hN : ∀ a ∈ N, H a = none ∧ H2 a ≠ none) {v : V} (d : D) (r : Rp K W H v d) : Rp K (N ++ W) H2 v d :=
  Rp.ext e (fun _ m => List.mem_append_right _ m) d (Rp.clears N (fun a m => (hN a m).1) d r)
theorem RpA.val {vs : List V} {ds : List D} (t : RpA K W H vs ds) {i : Nat} (hi : i < ds.length) : ∃ v, vs[i]? = some v ∧ Rp K W H v ds[i] := t.get (List.getElem?_eq_getElem hi)
theorem wk_list {a : Addr} {vs : List V} {ds : List D} (q : (Rd H a (.lst vs) ∧ a ∉ W) ∨ SqL K HZ a vs) (z : vs.length ≤ sizeLine) (t : RpA K W H vs ds) : WkR K W (Itl K a) ds H where
  size := by rw [← t.length]; exact z
  go := fun i H2 e hi => by
    obtain ⟨v, hv, _⟩ := t.val hi
    exact ⟨vs, v, sqL_of (lsq_ext e q), hv⟩
  yld := fun i H2 x H3 e y hi => by
    obtain ⟨rfl, y⟩ := y
    refine ⟨Ext.refl _ _, fun N hN d hd => ?_⟩
    obtain ⟨v, hv, r⟩ := t.get hd
    have := (y vs (sqL_of (lsq_ext e q))).symm.trans hv
    obtain rfl : x = v := Option.some.inj this
    exact Rp.later e hN d r
  stop := fun i H2 e hi => ⟨vs, sqL_of (lsq_ext e q), by rw [t.length]; exact hi⟩
theorem wk_tup {a : Addr} {vs : List V} {ds : List D} (q : (Rd H a (.tup vs) ∧ a ∉ W) ∨ SqT K HZ a vs) (z : vs.length ≤ sizeLine) (t : RpA K W H vs ds) : WkR K W (Itt K a) ds H where
  size := by rw [← t.length]; exact z
  go := fun i H2 e hi => by
    obtain ⟨v, hv, _⟩ := t.val hi
    exact ⟨vs, v, sqT_of (tsq_ext e q), hv⟩
  yld := fun i H2 x H3 e y hi => by
    obtain ⟨rfl, y⟩ := y
    refine ⟨Ext.refl _ _, fun N hN d hd => ?_⟩
    obtain ⟨v, hv, r⟩ := t.get hd
    have := (y vs (sqT_of (tsq_ext e q))).symm.trans hv
    obtain rfl : x = v := Option.some.inj this
    exact Rp.later e hN d r
  stop := fun i H2 e hi => ⟨vs, sqT_of (tsq_ext e q), by rw [t.length]; exact hi⟩
theorem rngL_len (lo hi : Int) : (rngL lo hi).length = (hi - lo).toNat := by unfold rngL; rw [List.length_map, List.length_range]
theorem rngL_get {lo hi : Int} {i : Nat} {d : D} (h : (rngL lo hi)[i]? = some d) : d = .int (lo + i) := by
  unfold rngL at h
  rw [List.getElem?_map] at h
  obtain ⟨j, hj, e⟩ := Option.map_eq_some_iff.mp h
  by_cases hl : i < (hi - lo).toNat
  · rw [List.getElem?_range hl] at hj
    cases hj
    exact e.symm
  · rw [List.getElem?_eq_none (by simpa using hl)] at hj
    cases hj
theorem wk_rng {lo hi : Int} (h : (hi - lo).toNat ≤ sizeLine) : WkR K W (Itr lo (hi - lo).toNat) (rngL lo hi) H where
  size := by rw [rngL_len]; exact h
  go := fun i H2 e hi => by rw [rngL_len] at hi; exact hi
  yld := fun i H2 x H3 e y hi => by
    obtain ⟨rfl, rfl⟩ := y
    exact ⟨Ext.refl _ _, fun N hN d hd => by rw [rngL_get hd]; exact .int _⟩
  stop := fun i H2 e hi => by rw [rngL_len] at hi; exact hi
theorem enumL_len : ∀ (n : Nat) (ds : List D), (enumL n ds).length = ds.length
  | _, [] => rfl
  | n, d :: ds => by show (enumL (n + 1) ds).length + 1 = _; rw [enumL_len (n + 1) ds]; rfl
theorem enumL_get : ∀ (n : Nat) (ds : List D) (i : Nat) (d : D), (enumL n ds)[i]? = some d → ∃ x, ds[i]? = some x ∧ d = .tuple [.int ((n + i : Nat) : Int), x]
  | _, [], _, _, h => by cases h
  | n, x :: ds, 0, d, h => by cases h; exact ⟨x, rfl, rfl⟩
  | n, x :: ds, i + 1, d, h => by
    obtain ⟨y, h1, h2⟩ := enumL_get (n + 1) ds i d h
    exact ⟨y, h1, by rw [h2, show n + 1 + i = n + (i + 1) by omega]⟩
theorem pair_new {H2 H3 : Hp} {T : Addr} {v u : V} {d e : D} {N : List Addr} (hN : ∀ a ∈ N, H a = none ∧ H2 a ≠ none) (nt : NoTup W H) (x2 : Ext W H H2) (h0 : H2 T = none) (h3 : H3 = upd H2 T (.tup [v, u])) (rv : Rp K (N ++ W) H2 v d) (ru : Rp K (N ++ W) H2 u e) : Rp K (N ++ W) H3 (.ref T) (.tuple [d, e]) := by
  subst h3
  exact Rp.newTup h0 (by show 2 ≤ sizeLine; decide) (fun m => (List.mem_append.mp m).elim (fun m => (hN T m).2 h0) fun m => (x2.here T (nt T m).1) h0) (.cons rv (.cons ru .nil))
theorem wk_enumL {a : Addr} {vs : List V} {ds : List D} (nt : NoTup W H) (q : (Rd H a (.lst vs) ∧ a ∉ W) ∨ SqL K HZ a vs) (z : vs.length ≤ sizeLine) (t : RpA K W H vs ds) : WkR K W (Ite K a) (enumL 0 ds) H where
  size := by rw [enumL_len, ← t.length]; exact z
  go := fun i H2 e hi => by
    rw [enumL_len] at hi
    obtain ⟨v, hv, _⟩ := t.val hi
    exact ⟨vs, v, sqL_of (lsq_ext e q), hv⟩
  yld := fun i H2 x H3 e y hi => by
    rw [enumL_len] at hi
    obtain ⟨T, x1, rfl, h0, h3, y⟩ := y
    obtain ⟨v, hv, r⟩ := t.val hi
    obtain rfl : x1 = v := Option.some.inj ((y vs (sqL_of (lsq_ext e q))).symm.trans hv)
    refine ⟨by rw [h3]; exact Ext.new h0, fun N hN d hd => ?_⟩
    have z2 := pair_new hN nt e h0 h3 (.int (i : Nat)) (Rp.later e hN _ r)
    obtain ⟨x', hx', rfl⟩ := enumL_get 0 ds i d hd
    rw [List.getElem?_eq_getElem hi] at hx'
    cases hx'
    rw [Nat.zero_add]
    exact z2
  stop := fun i H2 e hi => ⟨vs, sqL_of (lsq_ext e q), by rw [enumL_len] at hi; rw [t.length]; exact hi⟩
theorem wk_enumT {a : Addr} {vs : List V} {ds : List D} (nt : NoTup W H) (q : (Rd H a (.tup vs) ∧ a ∉ W) ∨ SqT K HZ a vs) (z : vs.length ≤ sizeLine) (t : RpA K W H vs ds) : WkR K W (IteT K a) (enumL 0 ds) H where
  size := by rw [enumL_len, ← t.length]; exact z
  go := fun i H2 e hi => by
    rw [enumL_len] at hi
    obtain ⟨v, hv, _⟩ := t.val hi
    exact ⟨vs, v, sqT_of (tsq_ext e q), hv⟩
  yld := fun i H2 x H3 e y hi => by
    rw [enumL_len] at hi
    obtain ⟨T, x1, rfl, h0, h3, y⟩ := y
    obtain ⟨v, hv, r⟩ := t.val hi
    obtain rfl : x1 = v := Option.some.inj ((y vs (sqT_of (tsq_ext e q))).symm.trans hv)
    refine ⟨by rw [h3]; exact Ext.new h0, fun N hN d hd => ?_⟩
    have z2 := pair_new hN nt e h0 h3 (.int (i : Nat)) (Rp.later e hN _ r)
    obtain ⟨x', hx', rfl⟩ := enumL_get 0 ds i d hd
    rw [List.getElem?_eq_getElem hi] at hx'
    cases hx'
    rw [Nat.zero_add]
    exact z2
  stop := fun i H2 e hi => ⟨vs, sqT_of (tsq_ext e q), by rw [enumL_len] at hi; rw [t.length]; exact hi⟩
theorem zipL_get : ∀ (xs ys : List D) (i : Nat) (d : D), (zipL xs ys)[i]? = some d → ∃ x y, xs[i]? = some x ∧ ys[i]? = some y ∧ d = .tuple [x, y]
  | [], _, _, _, h => by cases h
  | _ :: _, [], _, _, h => by cases h
  | x :: xs, y :: ys, 0, d, h => by cases h; exact ⟨x, y, rfl, rfl, rfl⟩
  | x :: xs, y :: ys, i + 1, d, h => zipL_get xs ys i d h
theorem zipL_len : ∀ (xs ys : List D), (zipL xs ys).length = min xs.length ys.length
  | [], _ => by simp [zipL]
  | _ :: _, [] => by simp [zipL]
  | x :: xs, y :: ys => by show (zipL xs ys).length + 1 = min (xs.length + 1) (ys.length + 1); rw [zipL_len xs ys]; omega
theorem wk_zipT {a b : Addr} {vs us : List V} {ds es : List D} (nt : NoTup W H) (q : (Rd H a (.tup vs) ∧ a ∉ W) ∨ SqT K HZ a vs) (q' : (Rd H b (.tup us) ∧ b ∉ W) ∨ SqT K HZ b us) (z : vs.length ≤ sizeLine) (t : RpA K W H vs ds) (t' : RpA K W H us es) : WkR K W (RZ.ItzT K a b) (zipL ds es) H where
  size := by rw [zipL_len, ← t.length]; omega
  go := fun i H2 e hi => by
    rw [zipL_len] at hi
    obtain ⟨v, hv, _⟩ := t.val (i := i) (by omega)
    obtain ⟨u, hu, _⟩ := t'.val (i := i) (by omega)
    exact ⟨vs, us, v, u, sqT_of (tsq_ext e q), sqT_of (tsq_ext e q'), hv, hu⟩
  yld := fun i H2 x H3 e y hi => by
    rw [zipL_len] at hi
    obtain ⟨T, x1, x2, rfl, h0, h3, y1, y2⟩ := y
    have h1 : i < ds.length := by omega
    have h2 : i < es.length := by omega
    obtain ⟨v, hv, r⟩ := t.val h1
    obtain ⟨u, hu, r'⟩ := t'.val h2
    obtain rfl : x1 = v := Option.some.inj ((y1 vs (sqT_of (tsq_ext e q))).symm.trans hv)
    obtain rfl : x2 = u := Option.some.inj ((y2 us (sqT_of (tsq_ext e q'))).symm.trans hu)
    refine ⟨by rw [h3]; exact Ext.new h0, fun N hN d hd => ?_⟩
    have z2 := pair_new hN nt e h0 h3 (Rp.later e hN _ r) (Rp.later e hN _ r')
    obtain ⟨x', y', hx', hy', rfl⟩ := zipL_get ds es i d hd
    rw [List.getElem?_eq_getElem h1] at hx'
    rw [List.getElem?_eq_getElem h2] at hy'
    cases hx'
    cases hy'
    exact z2
  stop := fun i H2 e hi => ⟨vs, us, sqT_of (tsq_ext e q), sqT_of (tsq_ext e q'), by rw [zipL_len] at hi; rw [t.length, t'.length]; omega⟩
theorem WkR.clear {J : L2.It} {ds : List D} (wk : WkR K W J ds H) {D0 : Addr} {us : List V} (hD : H D0 = none) : WkR K (D0 :: W) J ds (upd H D0 (.lst us)) := by
  have back : ∀ {H2 : Hp}, Ext (D0 :: W) (upd H D0 (.lst us)) H2 → Ext W H H2 := fun e => ⟨fun a o n h => e.keep a o (fun m => (List.mem_cons.mp m).elim (fun z => by rw [z, hD] at h; cases h) n) ((Ext.new (W := []) hD).keep _ _ (fun z => nomatch z) h), fun a h => e.here a ((Ext.new (W := []) hD).here a h)⟩
  refine ⟨wk.size, fun i H2 e => wk.go i H2 (back e), fun i H2 x H3 e y hi => ?_, fun i H2 e => wk.stop i H2 (back e)⟩
  obtain ⟨h1, h2⟩ := wk.yld i H2 x H3 (back e) y hi
  refine ⟨h1, fun N hN d hd => ?_⟩
  have hn : ∀ a ∈ N ++ [D0], H a = none ∧ H2 a ≠ none := fun a m => by
    rcases List.mem_append.mp m with m | m
    · refine ⟨?_, (hN a m).2⟩
      have := (hN a m).1
      unfold upd at this
      split at this
      · cases this
      · exact this
    · rw [List.mem_singleton.mp m]
      exact ⟨hD, e.here D0 (by rw [upd_same]; simp)⟩
  exact Rp.mono (fun a m => by simpa [List.append_assoc] using m) d (h2 (N ++ [D0]) hn d hd)
end
section
variable {X : Cx} {f g : SemE} {fl : SemL} {a b e : Expr} {es : List Expr} {p pos : Pos} {m m' : Bool} {tg : Expr}
theorem i_of (ha : PE X a (tE X.K m f)) : PI X tg a (tI X.K fun ρ Q => f ρ fun d => itemsD d Q) := PIi (pi_seq ha) fun σ H R q => by
  obtain ⟨W0, ρ, Qd, E, q, k⟩ := q
  refine ⟨W0, ρ, _, E, q, fun v H1 d q1 E1 X1 r1 _ => ?_⟩
  cases d with
  | list ds => cases r1 with | lst qq z t => exact ⟨_, _, rfl, .inl ⟨sqL_of qq, k _ H1 ds q1 E1 X1 (wk_list qq z t)⟩⟩
  | tuple ds => cases r1 with | tup qq z t => exact ⟨_, _, rfl, .inr ⟨sqT_of qq, k _ H1 ds q1 E1 X1 (wk_tup qq z t)⟩⟩
  | _ => exact q1.elim
theorem r_size {i j : Int} (hi : inR i) (hj : inR j) : (j - i).toNat ≤ sizeLine := by
  have h1 := hi.1; have h2 := hi.2; have h3 := hj.1; have h4 := hj.2
  rw [sizeLine_eq]
  omega
theorem i_rng1 (hg : Gl X "range") (hm : X.mg "range" = none) (ha : PE X a (tE X.K m f)) (h1 : starEach [a] X.env = (false, eval a X.env) :: starEach [] X.env) (hs : starEach [a] X.env = [(false, eval a X.env)]) :
    PI X tg (.Call (.Name "range" p) [a] [] pos) (tI X.K fun ρ Q => f ρ fun d => intD d fun n => inR n ∧ Q (rngL 0 n)) := PIi (pi_range1 hg hm (pa_cons ha pa_nil h1) hs) fun σ H R q => by
  obtain ⟨W0, ρ, Qd, E, q, k⟩ := q
  refine ⟨W0, ρ, _, E, q, fun v H1 d q1 E1 X1 r1 _ => ?_⟩
  cases d with
  | int n =>
    cases r1
    have b1 := q1.1.1; have b2 := q1.1.2
    refine ⟨n, rfl, by omega, by omega, ?_⟩
    have := k _ H1 _ q1.2 E1 X1 (wk_rng (lo := 0) (hi := n) (r_size (i := 0) ⟨by omega, by omega⟩ q1.1))
    rw [Int.sub_zero] at this
    exact this
  | _ => exact q1.elim
theorem i_rng2 (hg : Gl X "range") (hm : X.mg "range" = none) (ha : PE X a (tE X.K m f)) (hb : PE X b (tE X.K m' g)) (h1 : starEach [a, b] X.env = (false, eval a X.env) :: starEach [b] X.env) (h2 : starEach [b] X.env = (false, eval b X.env) :: starEach [] X.env)
    (hs : starEach [a, b] X.env = [(false, eval a X.env), (false, eval b X.env)]) (hs2 : starEach [b] X.env = [(false, eval b X.env)]) :
    PI X tg (.Call (.Name "range" p) [a, b] [] pos) (tI X.K fun ρ Q => f ρ fun x => intD x fun i => g ρ fun y => intD y fun j => (inR i ∧ inR j) ∧ Q (rngL i j)) := PIi (pi_range2 hg hm (pa_cons ha (pa_cons hb pa_nil h2) h1) hs hs2) fun σ H R q => by
  obtain ⟨W0, ρ, Qd, E, q, k⟩ := q
  refine ⟨W0, ρ, _, E, q, fun v H1 d q1 E1 X1 r1 _ => ?_⟩
  cases d with
  | int i =>
    cases r1
    refine ⟨W0, ρ, _, E1, q1, fun u H2 d2 q2 E2 X2 r2 _ => ?_⟩
    cases d2 with
    | int j =>
      cases r2
      obtain ⟨⟨i1, i2⟩, q2⟩ := q2
      have b1 := i1.1; have b2 := i1.2; have b3 := i2.1; have b4 := i2.2
      exact ⟨i, j, rfl, ⟨by omega, by omega, by omega, by omega⟩, k _ H2 _ q2 E2 (X1.trans X2) (wk_rng (r_size i1 i2))⟩
    | _ => exact q2.elim
  | _ => exact q1.elim
theorem i_enum {tes : List Expr} {kk : Nat} {tp : Pos} (hg : Gl X "enumerate") (hm : X.mg "enumerate" = none) (ha : PE X a (tE X.K m f)) (h1 : starEach [a] X.env = (false, eval a X.env) :: starEach [] X.env) (hs : starEach [a] X.env = [(false, eval a X.env)]) :
    PI X (.Tuple tes kk tp) (.Call (.Name "enumerate" p) [a] [] pos) (tI X.K fun ρ Q => f ρ fun d => itemsD d fun ds => Q (enumL 0 ds)) := PIi (pi_enumA hg hm (pa_cons ha pa_nil h1) hs) fun σ H R q => by
  obtain ⟨W0, ρ, Qd, E, q, k⟩ := q
  refine ⟨W0, ρ, _, E, q, fun v H1 d q1 E1 X1 r1 _ => ?_⟩
  cases d with
  | list ds => cases r1 with | lst qq z t => exact ⟨_, _, rfl, .inl ⟨sqL_of qq, k _ H1 _ q1 E1 X1 (wk_enumL (NoTup.xa E1) qq z t)⟩⟩
  | tuple ds => cases r1 with | tup qq z t => exact ⟨_, _, rfl, .inr ⟨sqT_of qq, k _ H1 _ q1 E1 X1 (wk_enumT (NoTup.xa E1) qq z t)⟩⟩
  | _ => exact q1.elim
theorem i_zip {tes : List Expr} {kk : Nat} {tp : Pos} (hg : Gl X "zip") (hm : X.mg "zip" = none) (ha : PE X a (tE X.K m f)) (hb : PE X b (tE X.K m' g)) (h1 : starEach [a, b] X.env = (false, eval a X.env) :: starEach [b] X.env) (h2 : starEach [b] X.env = (false, eval b X.env) :: starEach [] X.env) (hpl : (backTo pos (starEach [b] X.env)).any (·.1) = false) :
    PI X (.Tuple tes kk tp) (.Call (.Name "zip" p) [a, b] [] pos) (tI X.K fun ρ Q => f ρ fun x => g ρ fun y => tupD x fun xs => tupD y fun ys => Q (zipL xs ys)) := PIi (RZ.pi_zipA hg hm (pa_cons ha (pa_cons hb pa_nil h2) h1) h1 hpl) fun σ H R q => by
  obtain ⟨W0, ρ, Qd, E, q, k⟩ := q
  refine ⟨W0, ρ, _, E, q, fun v H1 d q1 E1 X1 r1 _ => ⟨W0, ρ, _, E1, q1, fun u H2 e q2 E2 X2 r2 _ => ?_⟩⟩
  have r1' := Rp.ext X2 xsub d r1
  cases d with
  | tuple ds =>
    cases e with
    | tuple es =>
      cases r1' with
      | tup qq z t =>
        cases r2 with
        | tup qq' z' t' => exact ⟨_, _, _, _, rfl, .inr ⟨sqT_of qq, sqT_of qq', k _ H2 _ q2 E2 (X1.trans X2) (wk_zipT (NoTup.xa E2) qq qq' z t t')⟩⟩
    | _ => exact q2.elim
  | _ => exact q2.elim
end
end CC

namespace CC
open PySem PySem.Spec PyProof.Rows L2
/-! ### comprehensions -/
section
variable {K : PySem.W.Frag} {W0 : List Addr} {H H' : Hp} {σ : L2.St} {ρ : SEnv}
theorem EnvR.less (E : EnvR K W0 H σ ρ) {W1 : List Addr} (h : ∀ a ∈ W1, a ∈ W0) : EnvR K W1 H σ ρ :=
  ⟨E.len, fun i s e => let ⟨o, ho, r⟩ := E.slot i s e; ⟨o, ho, r.mono fun a m => (List.mem_append.mp m).elim (fun z => List.mem_append_left _ (h a z)) fun z => List.mem_append_right _ z⟩, E.one, E.nt.mono h, fun i a c e n m => E.ow i a c e n (h a m)⟩
/-- a new list that is kept clear of -/
theorem EnvR.clear (E : EnvR K W0 H σ ρ) {p : Addr} {vs : List V} (hp : H p = none) : EnvR K (p :: W0) (upd H p (.lst vs)) σ ρ := by
  have e : Ext [] H (upd H p (.lst vs)) := Ext.new hp
  refine ⟨E.len, fun i s h => ?_, E.one, fun a m => ?_, fun i a ds h nb m => ?_⟩
  · obtain ⟨o, ho, r⟩ := E.slot i s h
    refine ⟨o, ho, ?_⟩
    cases s with
    | un => trivial
    | dat d => obtain ⟨u, q, r⟩ := r; exact ⟨u, q, Rp.ext e (fun _ m => nomatch m) d (Rp.clear hp d r)⟩
    | cell a c =>
      refine ⟨r.1, ClR.ext e (W := p :: (W0 ++ cellA ρ)) (fun _ m => nomatch m) (fun m => nomatch m) ?_⟩
      cases c with
      | bag => exact r.2
      | lst ds => obtain ⟨ws, q, z, t, td⟩ := r.2; exact ⟨ws, q, z, RpA.clear hp ds t, td⟩
      | dk kvs => exact r.2
  · rcases List.mem_cons.mp m with rfl | m
    · refine ⟨by rw [upd_same]; simp, fun xs r => ?_⟩
      rcases r with r | ⟨o, r⟩ <;> (rw [upd_same] at r; cases r)
    · exact (E.nt.ext e fun _ _ m => nomatch m) a m
  · rcases List.mem_cons.mp m with rfl | m
    · obtain ⟨o, _, r⟩ := E.slot i _ h
      exact r.2.mut.1 hp
    · exact E.ow i a ds h nb m
/-- that list is written -/
theorem EnvR.put (E : EnvR K W0 H σ ρ) {p : Addr} {vs : List V} (hp : p ∈ W0) (hc : p ∉ cellA ρ) : EnvR K W0 (upd H p (.lst vs)) σ ρ := by
  have e : Ext [p] H (upd H p (.lst vs)) := Ext.put List.mem_cons_self
  have sub : ∀ a ∈ [p], a ∈ W0 ++ cellA ρ := fun a m => by rw [List.mem_singleton.mp m]; exact List.mem_append_left _ hp
  refine ⟨E.len, fun i s h => ?_, E.one, E.nt.ext e fun a _ m xs r => ?_, E.ow⟩
  · obtain ⟨o, ho, r⟩ := E.slot i s h
    refine ⟨o, ho, ?_⟩
    cases s with
    | un => trivial
    | dat d => obtain ⟨u, q, r⟩ := r; exact ⟨u, q, Rp.ext e sub d r⟩
    | cell a c => exact ⟨r.1, r.2.ext e sub fun m => hc (by rw [← List.mem_singleton.mp m]; exact mem_cellA.mpr ⟨i, c, h⟩)⟩
  · rw [List.mem_singleton.mp m] at r
    rcases r with r | ⟨o, r⟩ <;> (rw [upd_same] at r; cases r)
theorem wipeE_get : ∀ (vs : List Nat) (i : Nat), (wipeE ρ vs)[i]? = if i ∈ vs ∧ i < ρ.length then some .un else ρ[i]?
  | [], i => by simp [wipeE]
  | v :: vs, i => by
    show ((wipeE ρ vs).set v .un)[i]? = _
    have hl : ∀ vs, (wipeE ρ vs).length = ρ.length := fun vs => by
      induction vs with
      | nil => rfl
      | cons v vs ih => show ((wipeE ρ vs).set v .un).length = _; rw [List.length_set, ih]
    by_cases e : v = i
    · subst e
      by_cases h : v < ρ.length
      · rw [List.getElem?_set_self (by rw [hl]; exact h), if_pos ⟨List.mem_cons_self, h⟩]
      · rw [List.getElem?_eq_none (by rw [List.length_set, hl]; omega), if_neg fun z => h z.2, List.getElem?_eq_none (by omega)]
    · rw [List.getElem?_set_ne e, wipeE_get vs i]
      by_cases h : i ∈ vs
      · simp [h]
      · have : ¬ (i ∈ v :: vs) := fun m => (List.mem_cons.mp m).elim (fun z => e z.symm) h
        simp [h, this]
theorem wipeE_len (ρ : SEnv) : ∀ vs, (wipeE ρ vs).length = ρ.length
  | [] => rfl
  | v :: vs => by show ((wipeE ρ vs).set v .un).length = _; rw [List.length_set, wipeE_len ρ vs]
theorem wipe_get {σ : L2.St} : ∀ (vs : List Nat) (i : Nat), i ∉ vs → (wipe σ vs)[i]? = σ[i]?
  | [], i, _ => rfl
  | v :: vs, i, h => by
    show ((wipe σ vs).set v none)[i]? = _
    rw [List.getElem?_set_ne fun e => h (by rw [e]; exact List.mem_cons_self), wipe_get vs i fun m => h (List.mem_cons_of_mem _ m)]
theorem okW_cell {vs : List Nat} (h : okW ρ vs = true) {i : Nat} {a : Addr} {c : Cl} (e : ρ[i]? = some (.cell a c)) : i ∉ vs := fun m => by
  have := List.all_eq_true.mp h i m
  rw [e] at this
  cases this
theorem wipeE_cell {vs : List Nat} (h : okW ρ vs = true) {i : Nat} {a : Addr} {c : Cl} : (wipeE ρ vs)[i]? = some (.cell a c) ↔ ρ[i]? = some (.cell a c) := by
  rw [wipeE_get]
  constructor
  · intro z
    by_cases q : i ∈ vs ∧ i < ρ.length
    · rw [if_pos q] at z; cases z
    · rwa [if_neg q] at z
  · intro z
    rw [if_neg fun q => okW_cell h z q.1]
    exact z
theorem wipeE_A {vs : List Nat} (h : okW ρ vs = true) (a : Addr) : a ∈ cellA (wipeE ρ vs) ↔ a ∈ cellA ρ := by
  rw [mem_cellA, mem_cellA]
  exact ⟨fun ⟨i, c, e⟩ => ⟨i, c, (wipeE_cell h).mp e⟩, fun ⟨i, c, e⟩ => ⟨i, c, (wipeE_cell h).mpr e⟩⟩
theorem wipeE_X {vs : List Nat} (h : okW ρ vs = true) (a : Addr) : a ∈ xA (wipeE ρ vs) ↔ a ∈ xA ρ := by
  rw [mem_xA, mem_xA]
  exact ⟨fun ⟨i, e⟩ => ⟨i, (wipeE_cell h).mp e⟩, fun ⟨i, e⟩ => ⟨i, (wipeE_cell h).mpr e⟩⟩
theorem EnvR.wipe (E : EnvR K W0 H σ ρ) {vs : List Nat} (h : okW ρ vs = true) : EnvR K W0 H (L2.wipe σ vs) (wipeE ρ vs) := by
  refine ⟨by rw [wipe_length, wipeE_len]; exact E.len, fun i s e => ?_, fun i j a c c' h1 h2 => E.one i j a c c' ((wipeE_cell h).mp h1) ((wipeE_cell h).mp h2), E.nt, fun i a ds e n => E.ow i a ds ((wipeE_cell h).mp e) n⟩
  rw [wipeE_get] at e
  by_cases q : i ∈ vs ∧ i < ρ.length
  · rw [if_pos q] at e
    cases e
    have hi : i < (L2.wipe σ vs).length := by rw [wipe_length, E.len]; exact q.2
    exact ⟨_, List.getElem?_eq_getElem hi, trivial⟩
  · rw [if_neg q] at e
    obtain ⟨o, ho, r⟩ := E.slot i s e
    have hv : i ∉ vs := fun m => q ⟨m, by
      by_cases z : i < ρ.length
      · exact z
      · rw [List.getElem?_eq_none (by omega)] at e; cases e⟩
    exact ⟨o, by rw [wipe_get vs i hv]; exact ho, r.mono fun a m => (List.mem_append.mp m).elim (fun z => List.mem_append_left _ z) fun z => List.mem_append_right _ ((wipeE_A h a).mp z)⟩
end
section
variable {K : PySem.W.Frag} {W0 : List Addr} {H H' : Hp} {σ : L2.St} {ρ : SEnv}
theorem froz_get (i : Nat) : (froz ρ)[i]? = ρ[i]?.map frozS := by unfold froz; rw [List.getElem?_map]
theorem froz_cell {i : Nat} {a : Addr} {c : Cl} : (froz ρ)[i]? = some (.cell a c) ↔ ρ[i]? = some (.cell a c) ∧ c = .bag := by
  rw [froz_get]
  cases e : ρ[i]? with
  | none => simp
  | some s =>
    cases s with
    | un => simp [frozS]
    | dat d => simp [frozS]
    | cell b c' => cases c' <;> simp [frozS] <;> (try (rintro rfl rfl; rfl)) <;> (try (intro h1 h2 h3; subst h3; cases h2))
theorem froz_A (a : Addr) : a ∈ cellA (froz ρ) ↔ a ∈ xA ρ := by
  rw [mem_cellA, mem_xA]
  exact ⟨fun ⟨i, c, e⟩ => ⟨i, by obtain ⟨e, rfl⟩ := froz_cell.mp e; exact e⟩, fun ⟨i, e⟩ => ⟨i, .bag, froz_cell.mpr ⟨e, rfl⟩⟩⟩
theorem froz_X (a : Addr) : a ∈ xA (froz ρ) ↔ a ∈ xA ρ := by
  rw [mem_xA, mem_xA]
  exact ⟨fun ⟨i, e⟩ => ⟨i, (froz_cell.mp e).1⟩, fun ⟨i, e⟩ => ⟨i, froz_cell.mpr ⟨e, rfl⟩⟩⟩
theorem EnvR.froz (E : EnvR K W0 H σ ρ) : EnvR K W0 H σ (froz ρ) := by
  have sub : ∀ a ∈ W0 ++ cellA (CC.froz ρ), a ∈ W0 ++ cellA ρ := app_sub fun a m => xA_sub ((froz_A a).mp m)
  refine ⟨by unfold CC.froz; rw [List.length_map]; exact E.len, fun i s e => ?_, fun i j a c c' h1 h2 => E.one i j a c c' (froz_cell.mp h1).1 (froz_cell.mp h2).1, E.nt, fun i a ds e n => E.ow i a ds (froz_cell.mp e).1 n⟩
  rw [froz_get] at e
  cases e' : ρ[i]? with
  | none => rw [e'] at e; cases e
  | some s' =>
    rw [e'] at e
    obtain ⟨o, ho, r⟩ := E.slot i s' e'
    refine ⟨o, ho, ?_⟩
    cases e
    cases s' with
    | un => trivial
    | dat d => exact SlR.mono (s := .dat d) sub r
    | cell a c =>
      cases c with
      | bag => exact SlR.mono (s := .cell a .bag) sub r
      | lst ds =>
        obtain ⟨v, d, hσ, q, rr⟩ := E.read (i := i) (Q := fun d => d = .list ds) (by rw [e']; rfl)
        subst q
        rw [ho] at hσ
        cases hσ
        exact ⟨v, rfl, Rp.mono (app_sub fun a m => (froz_A a).mp m) _ rr⟩
      | dk kvs =>
        obtain ⟨v, d, hσ, q, rr⟩ := E.read (i := i) (Q := fun d => d = .dict (dkD kvs)) (by rw [e']; rfl)
        subst q
        rw [ho] at hσ
        cases hσ
        exact ⟨v, rfl, Rp.mono (app_sub fun a m => (froz_A a).mp m) _ rr⟩
end
section
variable {X : Cx} {elt tg iter : Expr} {ifs : List Expr} {scope : Scope} {own : List (Str × Nat)} {pos : Pos} {fi : SemL} {fe : SemE} {ft : SemT} {p : Pt} {m : Bool}
theorem lc_ent (hv : ∀ i ∈ p.ids, i ∈ own.map (·.2)) : ∀ σ H Q, tE X.K true (fun ρ Q => okW (froz ρ) (own.map (·.2)) = true ∧ fi ρ fun ds => compL (fun d k => p.bind d (wipeE (froz ρ) (own.map (·.2))) fun ρ1 => ft ρ1 fun b => if b = true then fe ρ1 fun y => k [y] else k []) ds [] fun es => Q (.list es)) σ H Q →
    tLc (tI X.K fi) (tG X.K p) (tT X.K ft) (tE X.K m fe) (own.map (·.2)) σ H Q := by
  generalize own.map (·.2) = vs at hv
  intro σ H Q q
  obtain ⟨W0, ρ, Qd, E, ⟨hw, q⟩, k⟩ := q
  refine ⟨W0, ρ, _, E, q, fun J H1 ds q1 E1 X1 wk D hD => ?_⟩
  have hDW : D ∉ W0 ++ xA ρ := (NoTup.xa E1).free hD
  have hDc : D ∉ cellA ρ := E1.ntc.free hD
  have EF := E1.froz
  have wk2 := wk.clear (us := []) hD
  refine ⟨fun i m' H2 => m' = ds.length - i ∧ i ≤ ds.length ∧ ∃ ys acc, H2 D = some (.lst ys) ∧ ys.length ≤ i ∧ RpA X.K ((D :: W0) ++ xA ρ) H2 ys acc ∧ EnvR X.K (D :: W0) H2 σ ρ ∧ Ext (D :: xA ρ) (upd H1 D (.lst [])) H2 ∧
    compL (fun d k => p.bind d (wipeE (froz ρ) vs) fun ρ1 => ft ρ1 fun b => if b = true then fe ρ1 fun y => k [y] else k []) (ds.drop i) acc fun es => Qd (.list es), ⟨ds.length, by simp, Nat.zero_le _, [], [], upd_same, Nat.le_refl _, .nil, E1.clear hD, Ext.refl _ _, q1⟩, ?_⟩
  rintro i m' H2 ⟨rfl, hi, ys, acc, hDy, hyl, ry, E2, X2, q2⟩
  have X2' : Ext (D :: (W0 ++ xA ρ)) (upd H1 D (.lst [])) H2 := X2.mono fun a z => (List.mem_cons.mp z).elim (fun z => by rw [z]; exact List.mem_cons_self) fun z => List.mem_cons_of_mem _ (List.mem_append_right _ z)
  by_cases hlt : i < ds.length
  · refine .inr ⟨wk2.go i H2 X2' hlt, fun H' => ∃ m', m' < ds.length - i ∧ m' = ds.length - (i + 1) ∧ i + 1 ≤ ds.length ∧ ∃ ys acc, H' D = some (.lst ys) ∧ ys.length ≤ i + 1 ∧ RpA X.K ((D :: W0) ++ xA ρ) H' ys acc ∧ EnvR X.K (D :: W0) H' σ ρ ∧ Ext (D :: xA ρ) (upd H1 D (.lst [])) H' ∧
      compL (fun d k => p.bind d (wipeE (froz ρ) vs) fun ρ1 => ft ρ1 fun b => if b = true then fe ρ1 fun y => k [y] else k []) (ds.drop (i + 1)) acc fun es => Qd (.list es), fun H' h => h, fun x H3 hy => ?_⟩
    obtain ⟨X3, rx⟩ := wk2.yld i H2 x H3 X2' hy hlt
    have hdi : ds[i]? = some ds[i] := List.getElem?_eq_getElem hlt
    have rx := rx [] (fun _ z => nomatch z) _ hdi
    rw [List.drop_eq_getElem_cons hlt] at q2
    have E3 : EnvR X.K (D :: W0) H3 σ ρ := E2.grow X3
    have D3 : H3 D = some (.lst ys) := X3.keep _ _ (fun z => nomatch z) hDy
    have Ew := E3.froz.wipe hw
    have rx' : Rp X.K ((D :: W0) ++ cellA (wipeE (froz ρ) vs)) H3 x ds[i] := Rp.mono (app_sub (A := D :: W0) fun a m => (froz_A a).mp ((wipeE_A hw a).mp m)) _ rx
    refine ⟨D :: W0, wipeE (froz ρ) vs, ds[i], _, Ew, rx', q2, fun σ4 ρ4 q4 E4 c4 x4 w4 o4 => ?_⟩
    have x4' : ∀ a ∈ xA ρ4, a ∈ xA ρ := fun a z => (froz_X a).mp ((wipeE_X hw a).mp (x4 a z))
    -- bags of the block are those of ours
    have x4b : ∀ a ∈ xA ρ, a ∈ xA ρ4 := fun a z => by
      obtain ⟨j, hj⟩ := mem_xA.mp ((wipeE_X hw a).mpr ((froz_X a).mpr z))
      refine mem_xA.mpr ⟨j, ?_⟩
      rw [o4 j fun mj => ?_]
      · exact hj
      · exact okW_cell hw ((wipeE_cell hw).mp hj) (hv j mj)
    have nDx : D ∉ xA ρ4 := fun z => hDc (xA_sub (x4' D z))
    refine ⟨?_, D :: W0, ρ4, _, E4, q4, fun b H5 q5 E5 X5 => ?_⟩
    · rw [w4 vs hv]
      have : ∀ (us : List Nat) (τ : L2.St), (∀ i ∈ us, i ∈ vs) → wipe (wipe τ us) vs = wipe τ vs := fun us => by
        induction us with
        | nil => intro τ _; rfl
        | cons u us ih => intro τ hu; show wipe ((wipe τ us).set u none) vs = _; rw [wipe_set (hu u List.mem_cons_self), ih τ fun i m => hu i (List.mem_cons_of_mem _ m)]
      exact this vs σ fun i m => m
    have D5 : H5 D = some (.lst ys) := X5.keep _ _ nDx D3
    have fin : ∀ {H6 : Hp}, Ext (xA ρ4) H3 H6 → EnvR X.K (D :: W0) H6 σ4 ρ4 → EnvR X.K (D :: W0) H6 σ ρ ∧ Ext (D :: xA ρ) (upd H1 D (.lst [])) H6 ∧ RpA X.K ((D :: W0) ++ xA ρ) H6 ys acc := fun {H6} X6 E6 => by
      have X6' : Ext (xA ρ) H3 H6 := X6.mono x4'
      refine ⟨E3.turn X6' fun a z => E6.bag (x4b a z), (X2.trans (X3.mono fun _ z => nomatch z)).trans (X6'.mono fun a z => List.mem_cons_of_mem _ z), ?_⟩
      exact RpA.ext (X3.mono (W' := xA ρ) (fun _ z => nomatch z) |>.trans X6') (fun a z => List.mem_append_right _ z) acc ry
    cases b with
    | false =>
      rw [if_neg Bool.false_ne_true] at q5
      refine iteF ?_
      obtain ⟨e1, e2, e3⟩ := fin X5 E5
      refine ⟨ds.length - (i + 1), by omega, rfl, hlt, ys, acc, D5, by omega, e3, e1, e2, ?_⟩
      rw [List.append_nil] at q5
      exact q5
    | true =>
      rw [if_pos rfl] at q5
      refine iteT ?_
      refine ⟨D :: W0, ρ4, _, E5, q5, fun y H6 dy q6 E6 X6 r6 _ => ?_⟩
      have X36 := X5.trans X6
      obtain ⟨e1, e2, e3⟩ := fin X36 E6
      have D6 : H6 D = some (.lst ys) := X36.keep _ _ nDx D3
      have hz : ys.length < sizeLine := Nat.lt_of_lt_of_le (Nat.lt_of_le_of_lt hyl hlt) wk.size
      refine ⟨ys, D6, hz, ds.length - (i + 1), by omega, rfl, hlt, ys ++ [y], acc ++ [dy], upd_same, by rw [List.length_append]; show ys.length + 1 ≤ _; omega, ?_, e1.put List.mem_cons_self hDc, e2.trans (Ext.put List.mem_cons_self), q6⟩
      have r6' : Rp X.K ((D :: W0) ++ xA ρ) H6 y dy := Rp.mono (app_sub (A := D :: W0) x4b) dy r6
      exact RpA.ext (Ext.put (W := [D]) List.mem_cons_self) (fun a z => by rw [List.mem_singleton.mp z]; exact List.mem_append_left _ List.mem_cons_self) _ (e3.append (.cons r6' .nil))
  · have e : i = ds.length := by omega
    subst e
    refine .inl ⟨wk2.stop _ H2 X2' (Nat.le_refl _), ?_⟩
    rw [List.drop_length] at q2
    have hz : ys.length ≤ sizeLine := Nat.le_trans hyl wk.size
    have r2 : RpA X.K (W0 ++ xA ρ) H2 ys acc := RpA.mono (fun a m => List.mem_cons_of_mem _ m) acc ry
    have X2x : Ext (xA ρ) H1 H2 := ⟨fun a o n h => X2.keep a o (fun m => (List.mem_cons.mp m).elim (fun z => by rw [z, hD] at h; cases h) n) ((Ext.new (W := []) hD).keep _ _ (fun z => nomatch z) h), fun a h => X2.here a ((Ext.new (W := []) hD).here a h)⟩
    exact k (.ref D) H2 (.list acc) q2 (E2.less fun a m => List.mem_cons_of_mem _ m) (X1.trans X2x) (.lst (.inl ⟨.inl hDy, hDW⟩) hz r2) fun _ es e => by
      cases e
      exact ⟨D, ys, rfl, X1.none hD, hDy, hz, r2⟩
/-- [e for p in it if c] -/
theorem s_comp (hc : X.calm = true) (hN : X.N.Nodup) (hi : PI X tg iter (tI X.K fi)) (ok : BlkOk X.N X.env.scope scope own) (hv : ∀ i ∈ p.ids, i ∈ own.map (·.2))
    (hg : ∀ (s : Shared) (H : Hp) (C : Addr) (cl : List (Str × Addr)) (fp : List Addr), PG (X.blk s H scope (compEnvC scope cl C X.env) fp) tg (tG X.K p))
    (ht : ∀ (s : Shared) (H : Hp) (C : Addr) (cl : List (Str × Addr)) (fp : List Addr), PTs (X.blk s H scope (compEnvC scope cl C X.env) fp) ifs (tT X.K ft))
    (he : ∀ (s : Shared) (H : Hp) (C : Addr) (cl : List (Str × Addr)) (fp : List Addr), PE (X.blk s H scope (compEnvC scope cl C X.env) fp) elt (tE X.K m fe)) (hs : ∀ x, foldedSetIterable iter X.env x = pure x) :
    PE X (.ListComp elt [⟨tg, iter, ifs, 0⟩] scope pos) (tE X.K true fun ρ Q => okW (froz ρ) (own.map (·.2)) = true ∧ fi ρ fun ds => compL (fun d k => p.bind d (wipeE (froz ρ) (own.map (·.2))) fun ρ1 => ft ρ1 fun b => if b = true then fe ρ1 fun y => k [y] else k []) ds [] fun es => Q (.list es)) :=
  PEi (pe_lc hc hN hi ok hg ht he hs) (lc_ent hv)
theorem ts_nil : PTs X [] (tT X.K fun _ Q => Q true) := ⟨fun pins s σ H Q I q => pts_nil.run pins s σ H Q I (by
  obtain ⟨W0, ρ, Qd, E, q, k⟩ := q
  exact k true H q E (Ext.refl _ _))⟩
end
end CC

namespace CC
open PySem PySem.Spec PyProof.Rows L2
/-! ### statements -/
section
variable {K : PySem.W.Frag} {W0 : List Addr} {H H' H1 H2 : Hp} {σ : L2.St} {ρ ρ' ρ1 : SEnv}
theorem Ev.refl (ρ : SEnv) (H : Hp) : Ev ρ H ρ H := ⟨Ext.refl _ _, fun _ m => .inl m⟩
theorem Ev.trans {ρ2 : SEnv} (a : Ev ρ H ρ1 H1) (b : Ev ρ1 H1 ρ2 H2) : Ev ρ H ρ2 H2 := by
  refine ⟨⟨fun x o n e => ?_, fun x e => b.1.here x (a.1.here x e)⟩, fun x m => ?_⟩
  · refine b.1.keep x o (fun m => ?_) (a.1.keep x o n e)
    rcases a.2 x m with z | z
    · exact n z
    · rw [z] at e; cases e
  · rcases b.2 x m with z | z
    · exact a.2 x z
    · exact .inr (a.1.none z)
theorem Ev.of {ρ' : SEnv} (e : Ext (xA ρ) H H') (h : ∀ a ∈ cellA ρ', a ∈ cellA ρ) : Ev ρ H ρ' H' := ⟨e.mono fun _ m => xA_sub m, fun a m => .inl (h a m)⟩
theorem hide_get (i : Nat) : (hide ρ)[i]? = ρ[i]?.map hideS := by unfold hide; rw [List.getElem?_map]
theorem hide_cell {i : Nat} {a : Addr} {c : Cl} : (hide ρ)[i]? = some (.cell a c) ↔ ρ[i]? = some (.cell a c) ∧ c = .bag := by
  rw [hide_get]
  cases e : ρ[i]? with
  | none => simp
  | some s =>
    cases s with
    | un => simp [hideS]
    | dat d => simp [hideS]
    | cell b c' => cases c' <;> simp [hideS] <;> (try (rintro rfl rfl; rfl)) <;> (try (intro h1 h2 h3; subst h3; cases h2))
theorem hide_A (a : Addr) : a ∈ cellA (hide ρ) ↔ a ∈ xA ρ := by
  rw [mem_cellA, mem_xA]
  exact ⟨fun ⟨i, c, e⟩ => ⟨i, by obtain ⟨e, rfl⟩ := hide_cell.mp e; exact e⟩, fun ⟨i, e⟩ => ⟨i, .bag, hide_cell.mpr ⟨e, rfl⟩⟩⟩
theorem hide_X (a : Addr) : a ∈ xA (hide ρ) ↔ a ∈ xA ρ := by
  rw [mem_xA, mem_xA]
  exact ⟨fun ⟨i, e⟩ => ⟨i, (hide_cell.mp e).1⟩, fun ⟨i, e⟩ => ⟨i, hide_cell.mpr ⟨e, rfl⟩⟩⟩
theorem EnvR.hide (E : EnvR K W0 H σ ρ) : EnvR K (W0 ++ cellA ρ) H σ (hide ρ) := by
  have sub : ∀ a ∈ (W0 ++ cellA ρ) ++ cellA (CC.hide ρ), a ∈ W0 ++ cellA ρ := fun a m => (List.mem_append.mp m).elim id fun z => List.mem_append_right _ (xA_sub ((hide_A a).mp z))
  refine ⟨by unfold CC.hide; rw [List.length_map]; exact E.len, fun i s e => ?_, fun i j a c c' h1 h2 => E.one i j a c c' (hide_cell.mp h1).1 (hide_cell.mp h2).1, E.nta, fun i a ds e n => absurd (hide_cell.mp e).2 n⟩
  rw [hide_get] at e
  cases e' : ρ[i]? with
  | none => rw [e'] at e; cases e
  | some s' =>
    rw [e'] at e
    obtain ⟨o, ho, r⟩ := E.slot i s' e'
    refine ⟨o, ho, ?_⟩
    cases e
    cases s' with
    | un => trivial
    | dat d => exact SlR.mono (s := .dat d) sub r
    | cell a c =>
      cases c with
      | bag => exact SlR.mono (s := .cell a .bag) sub r
      | lst ds => trivial
      | dk kvs => trivial
theorem putS_A {fz b : Bool} {a : Addr} (h : a ∈ cellA (putS fz ρ b)) : a ∈ cellA ρ := by
  unfold putS at h
  split at h
  · split at h
    · exact h
    · exact xA_sub ((froz_A a).mp h)
  · exact h
theorem putS_X {fz b : Bool} {a : Addr} : a ∈ xA (putS fz ρ b) ↔ a ∈ xA ρ := by
  unfold putS
  split
  · split
    · exact Iff.rfl
    · exact froz_X a
  · exact Iff.rfl
theorem EnvR.putS (E : EnvR K W0 H σ ρ) (fz b : Bool) : EnvR K W0 H σ (putS fz ρ b) := by
  unfold CC.putS
  split
  · split
    · exact E
    · exact E.froz
  · exact E
/-- an expression, looked at by a statement -/
theorem seen_ent {f : SemE} {n : Bool} {Qd : D → Prop} {Q : VK} (fz : Bool) (E : EnvR K W0 H σ ρ) (q : f (seenS fz ρ) Qd)
    (k : ∀ v H1 d, Qd d → EnvR K W0 H1 σ ρ → Ext (xA ρ) H H1 → (∀ b, (b = false ∨ td d = true) → Rp K (W0 ++ cellA (putS fz ρ b)) H1 v d) → Q v H1) : tE K n f σ H Q := by
  cases fz with
  | false =>
    refine ⟨W0 ++ cellA ρ, hide ρ, Qd, E.hide, q, fun v H1 d qd E1 X1 r1 _ => ?_⟩
    have X1' : Ext (xA ρ) H H1 := X1.mono fun a m => (hide_X a).mp m
    refine k v H1 d qd (E.turn X1' fun a m => E1.bag ((hide_X a).mpr m)) X1' fun b _ => Rp.mono (fun a m => List.mem_append_left _ ?_) d r1
    exact (List.mem_append.mp m).elim (fun z => List.mem_append_left _ z) fun z => List.mem_append_right _ (putS_A z)
  | true =>
    refine ⟨W0, ρ, Qd, E, q, fun v H1 d qd E1 X1 r1 _ => k v H1 d qd E1 X1 fun b hb => ?_⟩
    cases b with
    | false => exact Rp.mono (app_sub fun a m => (froz_A a).mp m) d r1
    | true => exact Rp.td E1.nta d (hb.elim (fun z => nomatch z) id) r1
end
section
variable {X : Cx} {f g : SemE} {n m : Bool} {i j : Nat} {st : Stmt}
theorem set_ent (fz : Bool) : ∀ D σ H, tS X.K (fun ρ nx _ => f (seenS fz ρ) fun d => nx ((putS fz ρ (td d)).set i (.dat d))) D σ H → tAsg (tE X.K n f) (gName i) D σ H := fun D σ H q => by
  obtain ⟨W0, ρ, nx, rt, E, q, kn, kr⟩ := q
  refine seen_ent fz E q fun v H1 d qd E1 X1 r1 => ?_
  have r := r1 (td d) (by cases td d <;> simp)
  exact kn _ H1 _ qd ((E1.putS fz (td d)).set r) (Ev.of X1 fun a m => putS_A (cellA_set m))
theorem tup_ent {p : Pt} (fz : Bool) : ∀ D σ H, tS X.K (fun ρ nx _ => f (seenS fz ρ) fun d => p.bind d (putS fz ρ (td d)) nx) D σ H → tAsg (tE X.K n f) (tG X.K p) D σ H := fun D σ H q => by
  obtain ⟨W0, ρ, nx, rt, E, q, kn, kr⟩ := q
  refine seen_ent fz E q fun v H1 d qd E1 X1 r1 => ?_
  have r := r1 (td d) (by cases td d <;> simp)
  exact ⟨W0, putS fz ρ (td d), d, _, E1.putS fz (td d), r, qd, fun σ' ρ' hk E2 c2 x2 _ _ => kn _ H1 _ hk E2 (Ev.of X1 fun a m => putS_A (c2 a m))⟩
theorem EnvR.newCell {K : PySem.W.Frag} {W0 : List Addr} {H H1 : Hp} {σ : L2.St} {ρ : SEnv} {p : Addr} {cc : Cl} (E : EnvR K W0 H σ ρ) (E1 : EnvR K W0 H1 σ ρ) (X1 : Ext (xA ρ) H H1) (h0 : H p = none) (h1 : ∃ o, H1 p = some o ∧ ∀ xs, o ≠ .tup xs ∧ ∀ ob, o ≠ .frz ob (.tup xs)) (hcc : NoTup (W0 ++ cellA (ρ.set i (.cell p cc))) H1 → ClR K (W0 ++ cellA (ρ.set i (.cell p cc))) H1 p cc) :
    EnvR K W0 H1 (σ.set i (some (.ref p))) (ρ.set i (.cell p cc)) ∧ Ev ρ H (ρ.set i (.cell p cc)) H1 := by
  have hpc : p ∉ cellA ρ := E.ntc.free h0
  have hp0 : p ∉ W0 := E.nt.free h0
  have look : ∀ j s, (ρ.set i (.cell p cc))[j]? = some s → (i = j ∧ s = .cell p cc ∧ i < ρ.length) ∨ (i ≠ j ∧ ρ[j]? = some s) := fun j s h => by
    by_cases e : i = j
    · subst e
      by_cases hl : i < ρ.length
      · rw [List.getElem?_set_self hl] at h; cases h; exact .inl ⟨rfl, rfl, hl⟩
      · rw [List.getElem?_eq_none (by simpa using hl)] at h; cases h
    · rw [List.getElem?_set_ne e] at h
      exact .inr ⟨e, h⟩
  have cells : ∀ a ∈ cellA (ρ.set i (.cell p cc)), a = p ∨ a ∈ cellA ρ := fun a m => by
    obtain ⟨j, c, h⟩ := mem_cellA.mp m
    rcases look j _ h with ⟨_, h, _⟩ | ⟨_, h⟩
    · cases h; exact .inl rfl
    · exact .inr (mem_cellA.mpr ⟨j, c, h⟩)
  obtain ⟨ho, h1, hno⟩ := h1
  have mp : ∀ xs, ¬ Rd H1 p (.tup xs) := fun xs r => by
    rcases r with r | ⟨o, r⟩
    · rw [h1] at r; exact (hno xs).1 (Option.some.inj r)
    · rw [h1] at r; exact (hno xs).2 o (Option.some.inj r)
  have nt2 : NoTup (W0 ++ cellA (ρ.set i (.cell p cc))) H1 := fun a m => by
    rcases List.mem_append.mp m with m | m
    · exact E1.nt a m
    · rcases cells a m with rfl | m
      · exact ⟨by rw [h1]; simp, mp⟩
      · exact E1.ntc a m
  refine ⟨⟨by rw [List.length_set, List.length_set]; exact E1.len, fun j s h => ?_, fun j k a c c' e1 e2 => ?_, E1.nt, fun j a ds' h nb => ?_⟩, X1.mono fun a m => xA_sub m, fun a m => ?_⟩
  · rcases look j s h with ⟨rfl, rfl, hl⟩ | ⟨e, h⟩
    · exact ⟨_, List.getElem?_set_self (by rw [E1.len]; exact hl), rfl, hcc nt2⟩
    · obtain ⟨o, ho, r⟩ := E1.slot j s h
      refine ⟨o, by rw [List.getElem?_set_ne e]; exact ho, ?_⟩
      obtain ⟨o', ho', r'⟩ := E.slot j s h
      rw [ho] at ho'
      cases ho'
      cases s with
      | un => trivial
      | dat d =>
        obtain ⟨u, e, r'⟩ := r'
        refine ⟨u, e, ?_⟩
        have : Rp K (p :: (W0 ++ cellA ρ)) H1 u d := Rp.ext X1 (fun a m => List.mem_cons_of_mem _ (List.mem_append_right _ (xA_sub m))) d (Rp.clear h0 d r')
        refine Rp.mono (fun a m => ?_) d this
        rcases List.mem_append.mp m with m | m
        · exact List.mem_cons_of_mem _ (List.mem_append_left _ m)
        · rcases cells a m with rfl | m
          · exact List.mem_cons_self
          · exact List.mem_cons_of_mem _ (List.mem_append_right _ m)
      | cell a c => exact ⟨r.1, ClR.more nt2 r.2⟩
  · rcases look j _ e1 with ⟨rfl, h, _⟩ | ⟨n1, h⟩
    · cases h
      rcases look k _ e2 with ⟨rfl, _, _⟩ | ⟨n2, h'⟩
      · rfl
      · exact absurd (mem_cellA.mpr ⟨k, c', h'⟩) hpc
    · rcases look k _ e2 with ⟨rfl, h', _⟩ | ⟨n2, h'⟩
      · cases h'
        exact absurd (mem_cellA.mpr ⟨j, c, h⟩) hpc
      · exact E1.one j k a c c' h h'
  · rcases look j _ h with ⟨_, h, _⟩ | ⟨_, h⟩
    · cases h; exact hp0
    · exact E1.ow j a ds' h nb
  · rcases cells a m with rfl | m
    · exact .inr h0
    · exact .inl m
theorem own_ent : ∀ D σ H, tS X.K (fun ρ nx _ => f ρ fun d => match d with
    | .list ds => tdA ds = true ∧ ∀ a, nx (ρ.set i (.cell a (.lst ds)))
    | _ => False) D σ H → tAsg (tE X.K true f) (gName i) D σ H := fun D σ H q => by
  obtain ⟨W0, ρ, nx, rt, E, q, kn, kr⟩ := q
  refine ⟨W0, ρ, _, E, q, fun v H1 d qd E1 X1 r1 nw => ?_⟩
  cases d with
  | list ds =>
    obtain ⟨ht, qd⟩ := qd
    obtain ⟨p, xs, rfl, h0, h1, hz, t⟩ := nw rfl ds rfl
    obtain ⟨e1, e2⟩ := E.newCell (i := i) (cc := .lst ds) E1 X1 h0 ⟨_, h1, fun _ => ⟨fun z => (nomatch z), fun _ z => (nomatch z)⟩⟩ fun nt => ⟨xs, h1, hz, RpA.td nt ds ht t, ht⟩
    exact kn _ H1 _ (qd p) e1 e2
  | _ => exact qd.elim
theorem bag_ent : ∀ D σ H, tS X.K (fun ρ nx _ => f ρ fun d => bagD d ∧ ∀ a, nx (ρ.set i (.cell a .bag))) D σ H → tAsg (tE X.K true f) (gName i) D σ H := fun D σ H q => by
  obtain ⟨W0, ρ, nx, rt, E, q, kn, kr⟩ := q
  refine ⟨W0, ρ, _, E, q, fun v H1 d qd E1 X1 r1 nw => ?_⟩
  obtain ⟨hb, qd⟩ := qd
  obtain ⟨x, y, rfl, hb⟩ : ∃ x y, d = .list [.int x, .int y] ∧ BagV x y := by
    unfold bagD at hb
    split at hb
    · exact ⟨_, _, rfl, hb⟩
    · exact hb.elim
  obtain ⟨p, xs, rfl, h0, h1, hz, t⟩ := nw rfl _ rfl
  have e : xs = [.int x, .int y] := by
    obtain ⟨v, u, rfl, r1, r2⟩ := rp2 t
    cases r1; cases r2; rfl
  subst e
  obtain ⟨e1, e2⟩ := E.newCell (i := i) (cc := .bag) E1 X1 h0 ⟨_, h1, fun _ => ⟨fun z => (nomatch z), fun _ z => (nomatch z)⟩⟩ fun nt => ⟨x, y, h1, hb⟩
  exact kn _ H1 _ (qd p) e1 e2
theorem ex_ent : ∀ D σ H, tS X.K (fun ρ nx _ => f ρ fun _ => nx ρ) D σ H → tDrop (tE X.K n f) D σ H := fun D σ H q => by
  obtain ⟨W0, ρ, nx, rt, E, q, kn, kr⟩ := q
  exact ⟨W0, ρ, _, E, q, fun v H1 d qd E1 X1 r1 nw => kn σ H1 ρ qd E1 (Ev.of X1 fun _ m => m)⟩
theorem ret_entS : ∀ D σ H, tS X.K (fun ρ _ rt => f ρ fun d => rt ρ d) D σ H → tRet (tE X.K n f) D σ H := fun D σ H q => by
  obtain ⟨W0, ρ, nx, rt, E, q, kn, kr⟩ := q
  exact ⟨W0, ρ, _, E, q, fun v H1 d qd E1 X1 r1 nw => kr v H1 σ ρ d qd E1 (Ev.of X1 fun _ m => m) (Rp.mono (fun a m => List.mem_append_left _ m) d r1)⟩
abbrev SemS := SEnv → (SEnv → Prop) → (SEnv → D → Prop) → Prop
variable {ft : SemT} {fa fb : SemS}
theorem if_ent : ∀ D σ H, tS X.K (fun ρ nx rt => ft ρ fun k => if k = true then fa ρ nx rt else fb ρ nx rt) D σ H → tIfS (tT X.K ft) (tS X.K fa) (tS X.K fb) D σ H := fun D σ H q => by
  obtain ⟨W0, ρ, nx, rt, E, q, kn, kr⟩ := q
  refine ⟨W0, ρ, _, E, q, fun b H1 qb E1 X1 => ?_⟩
  have e1 : Ev ρ H ρ H1 := Ev.of X1 fun _ m => m
  cases b with
  | true => exact ⟨W0, ρ, nx, rt, E1, qb, fun σ' H' ρ' h E' e => kn σ' H' ρ' h E' (e1.trans e), fun v H' σ' ρ' d h E' e r => kr v H' σ' ρ' d h E' (e1.trans e) r⟩
  | false => exact ⟨W0, ρ, nx, rt, E1, qb, fun σ' H' ρ' h E' e => kn σ' H' ρ' h E' (e1.trans e), fun v H' σ' ρ' d h E' e r => kr v H' σ' ρ' d h E' (e1.trans e) r⟩
theorem nil_ent : ∀ D σ H, tS X.K (fun ρ nx _ => nx ρ) D σ H → tNext D σ H := fun D σ H q => by
  obtain ⟨W0, ρ, nx, rt, E, q, kn, kr⟩ := q
  exact kn σ H ρ q E (Ev.refl _ _)
theorem seq_ent : ∀ D σ H, tS X.K (fun ρ nx rt => fa ρ (fun ρ' => fb ρ' nx rt) rt) D σ H → tSeq (tS X.K fa) (tS X.K fb) D σ H := fun D σ H q => by
  obtain ⟨W0, ρ, nx, rt, E, q, kn, kr⟩ := q
  refine ⟨W0, ρ, _, rt, E, q, fun σ1 H1 ρ1 q1 E1 e1 => ?_, fun v H' σ' ρ' d h E' e r => kr v H' σ' ρ' d h E' e r⟩
  exact ⟨W0, ρ1, nx, rt, E1, q1, fun σ' H' ρ' h E' e => kn σ' H' ρ' h E' (e1.trans e), fun v H' σ' ρ' d h E' e r => kr v H' σ' ρ' d h E' (e1.trans e) r⟩
theorem while_ent : ∀ D σ H, tS X.K (fun ρ nx rt => ∃ (I : SEnv → Prop) (m : SEnv → Nat), I ρ ∧ ∀ ρ, I ρ → ft ρ fun k => if k = true then fa ρ (fun ρ' => I ρ' ∧ m ρ' < m ρ) rt else nx ρ) D σ H → tWhile (tT X.K ft) (tS X.K fa) D σ H := fun D σ H q => by
  obtain ⟨W0, ρ, nx, rt, E, ⟨I, mm, h0, hs⟩, kn, kr⟩ := q
  refine ⟨fun k σ' H' => ∃ ρ', k = mm ρ' ∧ I ρ' ∧ EnvR X.K W0 H' σ' ρ' ∧ Ev ρ H ρ' H', ⟨mm ρ, ρ, rfl, h0, E, Ev.refl _ _⟩, ?_⟩
  rintro k σ1 H1 ⟨ρ1, rfl, i1, E1, e1⟩
  refine ⟨W0, ρ1, _, E1, hs ρ1 i1, fun b H2 qb E2 X2 => ?_⟩
  have e2 := e1.trans (Ev.of (ρ' := ρ1) X2 fun _ m => m)
  cases b with
  | true =>
    refine iteT ⟨fun σ' H' => ∃ ρ', I ρ' ∧ mm ρ' < mm ρ1 ∧ EnvR X.K W0 H' σ' ρ' ∧ Ev ρ H ρ' H', fun σ' H' ⟨ρ', h1, h2, h3, h4⟩ => ⟨_, h2, ρ', rfl, h1, h3, h4⟩, ?_⟩
    exact ⟨W0, ρ1, _, rt, E2, qb, fun σ' H' ρ' h E' e => ⟨ρ', h.1, h.2, E', e2.trans e⟩, fun v H' σ' ρ' d h E' e r => kr v H' σ' ρ' d h E' (e2.trans e) r⟩
  | false => exact iteF (kn σ1 H2 ρ1 qb E2 e2)
theorem for_ent {fi : SemL} {p : Pt} (fz : Bool) : ∀ D σ H, tS X.K (fun ρ nx rt => fi (seenS fz ρ) fun ds => forL (fun d ρ k => p.bind d ρ fun ρ1 => fa ρ1 k rt) ds (putS fz ρ false) nx) D σ H → tFor (tI X.K fi) (tG X.K p) (tS X.K fa) D σ H := fun D σ H q => by
  obtain ⟨W0, ρ, nx, rt, E, q, kn, kr⟩ := q
  have key : ∀ (Wi : List Addr) (J : L2.It) (H1 : Hp) (ds : List CC.D), EnvR X.K W0 H1 σ ρ → Ext (xA ρ) H H1 → WkR X.K Wi J ds H1 → (∀ a ∈ W0, a ∈ Wi) → (∀ a ∈ cellA (putS fz ρ false), a ∈ Wi) → forL (fun d ρ k => p.bind d ρ fun ρ1 => fa ρ1 k rt) ds (putS fz ρ false) nx →
      ∃ W : Nat → Nat → L2.St → Hp → Prop, (∃ m, W 0 m σ H1) ∧ ∀ i m σ H, W i m σ H → (J.stop i H ∧ D.nx σ H) ∨ (J.go i H ∧ ∃ N : L2.St → Hp → Prop, (∀ σ' H', N σ' H' → ∃ m', m' < m ∧ W (i + 1) m' σ' H') ∧ ∀ x H', J.yld i H x H' → tG X.K p x σ H' fun σ2 H2 => tS X.K fa { D with nx := N, ct := N, bk := D.nx } σ2 H2) := by
    intro Wi J H1 ds E1 X1 wk sub0 subc q1
    have e01 : Ev ρ H (putS fz ρ false) H1 := Ev.of X1 fun a m => putS_A m
    generalize hρ0 : putS fz ρ false = ρ0 at q1 subc e01
    have E0 : EnvR X.K W0 H1 σ ρ0 := by rw [← hρ0]; exact E1.putS fz false
    refine ⟨fun i m σ' H' => m = ds.length - i ∧ i ≤ ds.length ∧ ∃ ρ', EnvR X.K W0 H' σ' ρ' ∧ Ev ρ0 H1 ρ' H' ∧ forL (fun d ρ k => p.bind d ρ fun ρ1 => fa ρ1 k rt) (ds.drop i) ρ' nx, ⟨ds.length, by simp, Nat.zero_le _, ρ0, E0, Ev.refl _ _, q1⟩, ?_⟩
    rintro i m σ2 H2 ⟨rfl, hi, ρ2, E2, e2, q2⟩
    have X2 : Ext Wi H1 H2 := e2.1.mono subc
    by_cases hlt : i < ds.length
    · rw [List.drop_eq_getElem_cons hlt] at q2
      refine .inr ⟨wk.go i H2 X2 hlt, fun σ' H' => ∃ ρ', EnvR X.K W0 H' σ' ρ' ∧ Ev ρ0 H1 ρ' H' ∧ forL (fun d ρ k => p.bind d ρ fun ρ1 => fa ρ1 k rt) (ds.drop (i + 1)) ρ' nx, fun σ' H' ⟨ρ', a, b, c⟩ => ⟨ds.length - (i + 1), by omega, rfl, hlt, ρ', a, b, c⟩, fun x H3 hy => ?_⟩
      obtain ⟨X3, rx⟩ := wk.yld i H2 x H3 X2 hy hlt
      have E3 := E2.grow X3
      -- the cells that came since the loop began
      have rx : Rp X.K (W0 ++ cellA ρ2) H3 x ds[i] := by
        refine Rp.mono (fun a m => ?_) _ (rx ((cellA ρ2).filter fun a => decide (a ∉ cellA ρ0)) (fun a m => ?_) _ (List.getElem?_eq_getElem hlt))
        · rcases List.mem_append.mp m with m | m
          · exact List.mem_append_right _ (sub0 a m)
          · by_cases z : a ∈ cellA ρ0
            · exact List.mem_append_right _ (subc a z)
            · exact List.mem_append_left _ (List.mem_filter.mpr ⟨m, decide_eq_true z⟩)
        · obtain ⟨m1, m2⟩ := List.mem_filter.mp m
          exact ⟨(e2.2 a m1).resolve_left (of_decide_eq_true m2), (E2.ntc a m1).1⟩
      refine ⟨W0, ρ2, ds[i], _, E3, rx, q2, fun σ4 ρ4 q4 E4 c4 x4 w4 o4 => ?_⟩
      have e24 : Ev ρ2 H2 ρ4 H3 := ⟨X3.mono fun _ z => (nomatch z), fun a m => .inl (c4 a m)⟩
      have e4 := e2.trans e24
      exact ⟨W0, ρ4, _, rt, E4, q4, fun σ' H' ρ' h E' e => ⟨ρ', E', e4.trans e, h⟩, fun v H' σ' ρ' d h E' e r => kr v H' σ' ρ' d h E' (e01.trans (e4.trans e)) r⟩
    · have e : i = ds.length := by omega
      subst e
      rw [List.drop_length] at q2
      exact .inl ⟨wk.stop _ H2 X2 (Nat.le_refl _), kn σ2 H2 ρ2 q2 E2 (e01.trans e2)⟩
  cases fz with
  | false =>
    refine ⟨W0 ++ cellA ρ, hide ρ, _, E.hide, q, fun J H1 ds q1 E1 X1 wk => ?_⟩
    have X1' : Ext (xA ρ) H H1 := X1.mono fun a m => (hide_X a).mp m
    exact key _ J H1 ds (E.turn X1' fun a m => E1.bag ((hide_X a).mpr m)) X1' wk (fun a m => List.mem_append_left _ (List.mem_append_left _ m)) (fun a m => List.mem_append_left _ (List.mem_append_right _ m)) q1
  | true =>
    refine ⟨W0, ρ, _, E, q, fun J H1 ds q1 E1 X1 wk => ?_⟩
    exact key _ J H1 ds E1 X1 wk (fun a m => List.mem_append_left _ m) (fun a m => List.mem_append_right _ ((froz_A a).mp m)) q1
end
end CC

namespace CC
open PySem PySem.Spec PyProof.Rows L2
section
variable {X : Cx} {f g : SemE} {n m : Bool} {i j : Nat} {st : Stmt}
/-- a list cell with another content -/
theorem EnvR.relist {K : PySem.W.Frag} {W0 : List Addr} {H : Hp} {σ : L2.St} {ρ : SEnv} (E : EnvR K W0 H σ ρ) {a : Addr} {ds es : List D} {vs : List V} (hi : ρ[i]? = some (.cell a (.lst ds))) (hz : vs.length ≤ sizeLine) (r : RpA K (W0 ++ cellA ρ) H vs es) (ht : tdA es = true) :
    EnvR K W0 (upd H a (.lst vs)) σ (ρ.set i (.cell a (.lst es))) ∧ Ev ρ H (ρ.set i (.cell a (.lst es))) (upd H a (.lst vs)) := by
  have ha : a ∈ cellA ρ := mem_cellA.mpr ⟨i, _, hi⟩
  have hl : i < ρ.length := by
    by_cases z : i < ρ.length
    · exact z
    · rw [List.getElem?_eq_none (by omega)] at hi; cases hi
  have e : Ext [a] H (upd H a (.lst vs)) := Ext.put List.mem_cons_self
  have sub : ∀ b ∈ [a], b ∈ W0 ++ cellA ρ := fun b m => by rw [List.mem_singleton.mp m]; exact List.mem_append_right _ ha
  have look : ∀ k s, (ρ.set i (.cell a (.lst es)))[k]? = some s → (i = k ∧ s = .cell a (.lst es)) ∨ (i ≠ k ∧ ρ[k]? = some s) := fun k s h => by
    by_cases q : i = k
    · subst q
      rw [List.getElem?_set_self hl] at h; cases h; exact .inl ⟨rfl, rfl⟩
    · rw [List.getElem?_set_ne q] at h
      exact .inr ⟨q, h⟩
  have cells : ∀ b, b ∈ cellA (ρ.set i (.cell a (.lst es))) → b ∈ cellA ρ := fun b m => by
    obtain ⟨k, c, h⟩ := mem_cellA.mp m
    rcases look k _ h with ⟨_, h⟩ | ⟨_, h⟩
    · cases h; exact ha
    · exact mem_cellA.mpr ⟨k, c, h⟩
  have subc : ∀ b ∈ W0 ++ cellA (ρ.set i (.cell a (.lst es))), b ∈ W0 ++ cellA ρ := app_sub cells
  refine ⟨⟨by rw [List.length_set]; exact E.len, fun k s h => ?_, fun k l b c c' h1 h2 => ?_, E.nt.ext e fun b _ m xs r => ?_, fun k b ds' h nb => ?_⟩, e.mono fun b m => by rw [List.mem_singleton.mp m]; exact ha, fun b m => .inl (cells b m)⟩
  · rcases look k s h with ⟨rfl, rfl⟩ | ⟨q, h⟩
    · obtain ⟨o, ho, r0⟩ := E.slot i _ hi
      exact ⟨o, ho, r0.1, vs, upd_same, hz, RpA.mono subc es (RpA.ext e sub es r), ht⟩
    · obtain ⟨o, ho, r0⟩ := E.slot k s h
      refine ⟨o, ho, ?_⟩
      cases s with
      | un => trivial
      | dat d => obtain ⟨u, q, r0⟩ := r0; exact ⟨u, q, Rp.mono subc d (Rp.ext e sub d r0)⟩
      | cell b c => exact ⟨r0.1, (r0.2.ext e sub fun m => q (E.one i k a _ c hi (by rw [← List.mem_singleton.mp m]; exact h))).mono subc⟩
  · rcases look k _ h1 with ⟨e1, g1⟩ | ⟨q1, g1⟩
    · cases g1
      rcases look l _ h2 with ⟨e2, _⟩ | ⟨q2, g2⟩
      · rw [← e1, ← e2]
      · rw [← e1]; exact E.one _ _ _ _ _ hi g2
    · rcases look l _ h2 with ⟨e2, g2⟩ | ⟨q2, g2⟩
      · cases g2
        rw [← e2]; exact E.one _ _ _ _ _ g1 hi
      · exact E.one _ _ _ _ _ g1 g2
  · rw [List.mem_singleton.mp m] at r
    rcases r with r | ⟨o, r⟩ <;> (rw [upd_same] at r; cases r)
  · rcases look k _ h with ⟨_, g⟩ | ⟨_, g⟩
    · cases g; exact E.ow _ _ _ hi (fun z => nomatch z)
    · exact E.ow _ _ _ g nb
theorem app_ent : ∀ D σ H, tS X.K (fun ρ nx _ => match ρ[i]? with
    | some (.cell a (.lst ds)) => f ρ fun d => td d = true ∧ ds.length < sizeLine ∧ nx (ρ.set i (.cell a (.lst (ds ++ [d]))))
    | _ => False) D σ H → tDrop (tBM X.K "list" rAppend (tVar i) (tCons (tE X.K n f) tNil)) D σ H := fun D σ H q => by
  obtain ⟨W0, ρ, nx, rt, E, q, kn, kr⟩ := q
  cases e : ρ[i]? with
  | none => rw [e] at q; exact q.elim
  | some s =>
    rw [e] at q
    cases s with
    | un => exact q.elim
    | dat d => exact q.elim
    | cell a c =>
      cases c with
      | bag => exact q.elim
      | dk kvs => exact q.elim
      | lst ds =>
        obtain ⟨o, hσ, rfl, vs, hH, hz, r, ht⟩ := E.slot i _ e
        refine ⟨.ref a, hσ, .inl ⟨rfl, _, SqL.of hH⟩, W0, ρ, _, E, q, fun v H1 d qd E1 X1 r1 nw => ?_⟩
        obtain ⟨td1, hl, qd⟩ := qd
        obtain ⟨o, hσ', ho, vs', hH', hz', r', ht'⟩ := E1.slot i _ e
        have hl' : vs'.length < sizeLine := by rw [r'.length]; exact hl
        refine ⟨a, vs', v, rfl, rfl, hH', hl', ?_⟩
        have rv : Rp X.K (W0 ++ cellA ρ) H1 v d := Rp.td E1.nta d td1 r1
        obtain ⟨E2, e2⟩ := E1.relist (vs := vs' ++ [v]) (es := ds ++ [d]) e (by rw [List.length_append]; exact hl') (r'.append (.cons rv .nil)) (by rw [tdA_append, ht']; simp [tdA, td1])
        exact kn σ _ _ qd E2 ((Ev.of (ρ' := ρ) X1 fun _ m => m).trans e2)
/-- a dict cell with another content -/
theorem EnvR.redk {K : PySem.W.Frag} {W0 : List Addr} {H : Hp} {σ : L2.St} {ρ : SEnv} (E : EnvR K W0 H σ ρ) {a : Addr} {ds es : List (Int × Int)} (hi : ρ[i]? = some (.cell a (.dk ds))) :
    EnvR K W0 (upd H a (.dK (dkV es))) σ (ρ.set i (.cell a (.dk es))) ∧ Ev ρ H (ρ.set i (.cell a (.dk es))) (upd H a (.dK (dkV es))) := by
  have ha : a ∈ cellA ρ := mem_cellA.mpr ⟨i, _, hi⟩
  have hl : i < ρ.length := by
    by_cases z : i < ρ.length
    · exact z
    · rw [List.getElem?_eq_none (by omega)] at hi; cases hi
  have e : Ext [a] H (upd H a (.dK (dkV es))) := Ext.put List.mem_cons_self
  have sub : ∀ b ∈ [a], b ∈ W0 ++ cellA ρ := fun b m => by rw [List.mem_singleton.mp m]; exact List.mem_append_right _ ha
  have look : ∀ k s, (ρ.set i (.cell a (.dk es)))[k]? = some s → (i = k ∧ s = .cell a (.dk es)) ∨ (i ≠ k ∧ ρ[k]? = some s) := fun k s h => by
    by_cases q : i = k
    · subst q
      rw [List.getElem?_set_self hl] at h; cases h; exact .inl ⟨rfl, rfl⟩
    · rw [List.getElem?_set_ne q] at h
      exact .inr ⟨q, h⟩
  have cells : ∀ b, b ∈ cellA (ρ.set i (.cell a (.dk es))) → b ∈ cellA ρ := fun b m => by
    obtain ⟨k, c, h⟩ := mem_cellA.mp m
    rcases look k _ h with ⟨_, h⟩ | ⟨_, h⟩
    · cases h; exact ha
    · exact mem_cellA.mpr ⟨k, c, h⟩
  have subc : ∀ b ∈ W0 ++ cellA (ρ.set i (.cell a (.dk es))), b ∈ W0 ++ cellA ρ := app_sub cells
  refine ⟨⟨by rw [List.length_set]; exact E.len, fun k s h => ?_, fun k l b c c' h1 h2 => ?_, E.nt.ext e fun b _ m xs r => ?_, fun k b ds' h nb => ?_⟩, e.mono fun b m => by rw [List.mem_singleton.mp m]; exact ha, fun b m => .inl (cells b m)⟩
  · rcases look k s h with ⟨rfl, rfl⟩ | ⟨q, h⟩
    · obtain ⟨o, ho, r0⟩ := E.slot i _ hi
      exact ⟨o, ho, r0.1, upd_same⟩
    · obtain ⟨o, ho, r0⟩ := E.slot k s h
      refine ⟨o, ho, ?_⟩
      cases s with
      | un => trivial
      | dat d => obtain ⟨u, q, r0⟩ := r0; exact ⟨u, q, Rp.mono subc d (Rp.ext e sub d r0)⟩
      | cell b c => exact ⟨r0.1, (r0.2.ext e sub fun m => q (E.one i k a _ c hi (by rw [← List.mem_singleton.mp m]; exact h))).mono subc⟩
  · rcases look k _ h1 with ⟨e1, g1⟩ | ⟨q1, g1⟩
    · cases g1
      rcases look l _ h2 with ⟨e2, _⟩ | ⟨q2, g2⟩
      · rw [← e1, ← e2]
      · rw [← e1]; exact E.one _ _ _ _ _ hi g2
    · rcases look l _ h2 with ⟨e2, g2⟩ | ⟨q2, g2⟩
      · cases g2
        rw [← e2]; exact E.one _ _ _ _ _ g1 hi
      · exact E.one _ _ _ _ _ g1 g2
  · rw [List.mem_singleton.mp m] at r
    rcases r with r | ⟨o, r⟩ <;> (rw [upd_same] at r; cases r)
  · rcases look k _ h with ⟨_, g⟩ | ⟨_, g⟩
    · cases g; exact E.ow _ _ _ hi (fun z => nomatch z)
    · exact E.ow _ _ _ g nb
theorem putK_dk (kvs : List (Int × Int)) (g z : Int) : putK (dkV kvs) (.inl g) (V.int z) = dkV (putI kvs g z) := by
  have e1 : ((dkV kvs).any fun kv => decide (kv.1 = (.inl g : Key))) = kvs.any fun p => decide (p.1 = g) := by
    unfold dkV
    rw [List.any_map]
    congr 1
    funext p
    simp
  unfold putK putI
  rw [e1]
  by_cases h : (kvs.any fun p => decide (p.1 = g)) = true
  · rw [if_pos h, if_pos h]
    unfold dkV
    rw [List.map_map, List.map_map]
    refine List.map_congr_left fun p _ => ?_
    by_cases e : p.1 = g <;> simp [e]
  · rw [if_neg h, if_neg h]
    unfold dkV
    rw [List.map_append]; rfl
theorem dput_ent : ∀ D σ H, tS X.K (fun ρ nx _ => match ρ[i]? with
    | some (.cell a (.dk kvs)) => f ρ fun y => g ρ fun x => intD x fun g => intD y fun z => kvs.length < sizeLine ∧ nx (ρ.set i (.cell a (.dk (putI kvs g z))))
    | _ => False) D σ H → sDPut (tVar i) (tE X.K m g) (tE X.K n f) D σ H := fun D σ H q => by
  obtain ⟨W0, ρ, nx, rt, E, q, kn, kr⟩ := q
  cases e : ρ[i]? with
  | none => rw [e] at q; exact q.elim
  | some s =>
    rw [e] at q
    cases s with
    | un => exact q.elim
    | dat d => exact q.elim
    | cell a c =>
      cases c with
      | bag => exact q.elim
      | lst ds => exact q.elim
      | dk kvs =>
        refine ⟨W0, ρ, _, E, q, fun v H1 y qy E1 X1 r1 _ => ?_⟩
        obtain ⟨o, hσ, rfl, hH⟩ := E1.slot i _ e
        refine ⟨.ref a, hσ, W0, ρ, _, E1, qy, fun u H2 x qx E2 X2 r2 _ => ?_⟩
        cases x with
        | int gi => cases y with
          | int z =>
            cases r1; cases r2
            obtain ⟨hl, qn⟩ := qx
            obtain ⟨o', hσ', ho, hH'⟩ := E2.slot i _ e
            refine ⟨a, _, rfl, DPut.k (k := .inl gi) hH' (by unfold dkV; rw [List.length_map]; exact hl), ?_⟩
            rw [putK_dk]
            obtain ⟨E3, e3⟩ := E2.redk (es := putI kvs gi z) e
            exact kn σ _ _ qn E3 ((Ev.of (ρ' := ρ) (X1.trans X2) fun _ m => m).trans e3)
          | _ => exact qx.elim
        | _ => exact qx.elim
theorem dnew_ent {k : Int} : ∀ D σ H, tS X.K (fun ρ nx _ => ∀ a, nx ((ρ.set i (.cell a (.dk []))).set j (.dat (.int k)))) D σ H → tPar i j (tCons tDNewK (tCons (tC (.int k)) tNil)) D σ H := fun D σ H q => by
  obtain ⟨W0, ρ, nx, rt, E, q, kn, kr⟩ := q
  intro p hp
  have X1 : Ext (xA ρ) H (upd H p (.dK [])) := Ext.new hp
  have X0 : Ext [] H (upd H p (.dK [])) := Ext.new hp
  obtain ⟨E2, e2⟩ := E.newCell (i := i) (cc := .dk []) (E.grow X0) X1 hp ⟨_, upd_same, fun _ => ⟨fun z => (nomatch z), fun _ z => (nomatch z)⟩⟩ fun nt => upd_same
  refine ⟨.ref p, .int k, rfl, ?_⟩
  exact kn _ _ _ (q p) (E2.set (i := j) (.int k)) ⟨e2.1, fun a m => e2.2 a (cellA_set m)⟩
theorem par_ent (fz : Bool) (hij : i ≠ j) : ∀ D σ H, tS X.K (fun ρ nx _ => f (seenS fz ρ) fun x => g (seenS fz ρ) fun y => nx (((putS fz ρ (td x && td y)).set i (.dat x)).set j (.dat y))) D σ H → tPar i j (tCons (tE X.K n f) (tCons (tE X.K m g) tNil)) D σ H := fun D σ H q => by
  obtain ⟨W0, ρ, nx, rt, E, q, kn, kr⟩ := q
  refine seen_ent fz E q fun v H1 x qx E1 X1 r1 => ?_
  refine seen_ent fz E1 qx fun u H2 y qy E2 X2 r2 => ?_
  refine ⟨v, u, rfl, ?_⟩
  have rx := r1 (td x && td y) (by cases td x <;> simp)
  have ry := r2 (td x && td y) (by cases td x <;> cases td y <;> simp)
  have rx2 : Rp X.K (W0 ++ cellA (putS fz ρ (td x && td y))) H2 v x := Rp.ext X2 (fun a z => List.mem_append_right _ (xA_sub (putS_X.mpr z))) x rx
  have Ea := (E2.putS fz (td x && td y)).set (i := i) rx2
  have Eb := Ea.set (i := j) (Rp.mono (app_sub fun a z => cellA_set z) y ry)
  exact kn _ H2 _ qy Eb (Ev.of (X1.trans X2) fun a z => putS_A (cellA_set (cellA_set z)))
/-! ### the bag of a law's draws -/
theorem isBag_ok {s : Option Sl} (h : isBag s) : ∃ a, s = some (.cell a .bag) := by
  unfold isBag at h
  split at h
  · exact ⟨_, rfl⟩
  · exact h.elim
theorem s_bx {x : Str} {px p2 pos : Pos} {j k2 : Nat} (hN : X.N[i]? = some x) (hv : Vis X.env.scope x) (hd : (x == ("__debug__" : Str)) = false) (hcd : (x == ("__classdict__" : Str)) = false) (hj : j < 2) :
    PE X (.Subscript (.Name x px) (.Constant (.int (j : Int)) k2 p2) pos) (tE X.K false fun ρ Q => isBag ρ[i]? ∧ ∀ z : Int, 0 ≤ z → (j = 1 → z < 2147483179) → Q (.int z)) :=
  PEi (pe_ix ix_seq (pe_var hN hv hd hcd) pe_int fun _ _ => rfl) fun σ H Q q => by
    obtain ⟨W0, ρ, Qd, E, ⟨hb, q⟩, k⟩ := q
    obtain ⟨a, ha⟩ := isBag_ok hb
    obtain ⟨o, hσ, rfl, z, y, hH, b1, b2, b3⟩ := E.slot i _ ha
    refine ⟨.ref a, hσ, .inl ?_⟩
    match j, hj with
    | 0, _ => exact ⟨a, _, 0, .int z, rfl, rfl, SqL.of hH, rfl, k _ H _ (q z b1 fun e => nomatch e) E (Ext.refl _ _) (.int z) .no⟩
    | 1, _ => exact ⟨a, _, 1, .int y, rfl, rfl, SqL.of hH, rfl, k _ H _ (q y b2 fun _ => b3) E (Ext.refl _ _) (.int y) .no⟩
theorem EnvR.bagPut {K : PySem.W.Frag} {W0 : List Addr} {H : Hp} {σ : L2.St} {ρ : SEnv} {a : Addr} {x y : Int} (E : EnvR K W0 H σ ρ) (hi : ρ[i]? = some (.cell a .bag)) (hb : BagV x y) : EnvR K W0 (upd H a (.lst [.int x, .int y])) σ ρ ∧ Ext (xA ρ) H (upd H a (.lst [.int x, .int y])) := by
  have m : a ∈ xA ρ := mem_xA.mpr ⟨i, hi⟩
  have e : Ext (xA ρ) H (upd H a (.lst [.int x, .int y])) := Ext.put m
  refine ⟨E.turn e fun b hb' => ?_, e⟩
  by_cases z : b = a
  · subst z; exact ⟨x, y, upd_same, hb⟩
  · obtain ⟨u, v, h1, h2⟩ := E.bag hb'
    exact ⟨u, v, by rw [upd_ne z]; exact h1, h2⟩
theorem bw_ent {j : Nat} (hj : j < 2) : ∀ D σ H, tS X.K (fun ρ nx _ => f ρ fun d => isBag ρ[i]? ∧ intD d fun v => 0 ≤ v ∧ (j = 1 → v < 2147483179) ∧ nx ρ) D σ H → tAsg (tE X.K n f) (gSub (tVar i) (tC (.int (j : Int))) rSetL) D σ H := fun D σ H q => by
  obtain ⟨W0, ρ, nx, rt, E, q, kn, kr⟩ := q
  refine ⟨W0, ρ, _, E, q, fun v H1 d qd E1 X1 r1 nw => ?_⟩
  obtain ⟨hb, qd⟩ := qd
  obtain ⟨a, ha⟩ := isBag_ok hb
  cases d with
  | int z =>
    obtain ⟨z0, z1, qd⟩ := qd
    cases r1
    obtain ⟨o, hσ, rfl, u, y, hH, b1, b2, b3⟩ := E1.slot i _ ha
    refine ⟨.ref a, hσ, ?_⟩
    have fin : ∀ x y, BagV x y → D.nx σ (upd H1 a (.lst [.int x, .int y])) := fun x y h => by
      obtain ⟨e1, e2⟩ := E1.bagPut ha h
      exact kn σ _ ρ qd e1 (Ev.of (X1.trans e2) fun _ m => m)
    match j, hj with
    | 0, _ => exact ⟨a, _, 0, 0, rfl, rfl, hH, rfl, fin z y ⟨z0, b2, b3⟩⟩
    | 1, _ => exact ⟨a, _, 1, 1, rfl, rfl, hH, rfl, fin u z ⟨b1, z0, z1 rfl⟩⟩
  | _ => exact qd.elim
end
/-! ### a def -/
@[simp] def argS : Arg → Sl
  | .dat d => .dat d
  | .bag a => .cell a .bag
def initE (as : List Arg) (n : Nat) : SEnv := as.map argS ++ List.replicate (n - as.length) .un
@[simp] def keepB : List Arg → SEnv → Prop
  | [], _ => True
  | .dat _ :: as, _ :: ρ => keepB as ρ
  | .bag a :: as, s :: ρ => s = .cell a .bag ∧ keepB as ρ
  | _ :: _, [] => False
theorem keepB_get : ∀ {as : List Arg} {ρ : SEnv}, keepB as ρ → ∀ a ∈ argX as, a ∈ xA ρ
  | [], _, _, _, m => nomatch m
  | .dat _ :: as, _ :: ρ, h, a, m => by
    obtain ⟨i, hi⟩ := mem_xA.mp (keepB_get (as := as) (ρ := ρ) h a m)
    exact mem_xA.mpr ⟨i + 1, hi⟩
  | .bag b :: as, s :: ρ, h, a, m => by
    rcases List.mem_cons.mp m with rfl | m
    · exact mem_xA.mpr ⟨0, by rw [h.1]; rfl⟩
    · obtain ⟨i, hi⟩ := mem_xA.mp (keepB_get (as := as) (ρ := ρ) h.2 a m)
      exact mem_xA.mpr ⟨i + 1, hi⟩
theorem argX_mem : ∀ {as : List Arg} {i : Nat} {a : Addr}, as[i]? = some (.bag a) → a ∈ argX as
  | [], i, _, h => by simp at h
  | .dat _ :: as, 0, _, h => by cases h
  | .dat _ :: as, i + 1, a, h => argX_mem (as := as) h
  | .bag b :: as, 0, a, h => by cases h; exact List.mem_cons_self
  | .bag b :: as, i + 1, a, h => List.mem_cons_of_mem _ (argX_mem (as := as) h)
theorem one1_ix : ∀ {as : List Arg}, one1 (argX as) → ∀ {i j : Nat} {a b : Addr}, as[i]? = some (.bag a) → as[j]? = some (.bag b) → i = j
  | [], _, i, _, _, _, h, _ => by simp at h
  | .dat _ :: as, o, 0, _, _, _, h, _ => by cases h
  | .dat _ :: as, o, _, 0, _, _, _, h => by cases h
  | .dat _ :: as, o, i + 1, j + 1, a, b, h1, h2 => by rw [one1_ix (as := as) o h1 h2]
  | .bag c :: as, o, 0, 0, _, _, _, _ => rfl
  | .bag c :: as, o, 0, j + 1, a, b, _, h2 => by
    have := argX_mem (as := as) h2
    change one1 (c :: argX as) at o
    cases e : argX as with
    | nil => rw [e] at this; cases this
    | cons _ _ => rw [e] at o; exact o.elim
  | .bag c :: as, o, i + 1, _, a, b, h1, _ => by
    have := argX_mem (as := as) h1
    change one1 (c :: argX as) at o
    cases e : argX as with
    | nil => rw [e] at this; cases this
    | cons _ _ => rw [e] at o; exact o.elim
theorem Paired.at {α β : Type} {F : α → β → Prop} : ∀ {xs : List α} {ys : List β}, Paired F xs ys → ∀ {i : Nat} {y : β}, ys[i]? = some y → ∃ x, xs[i]? = some x ∧ F x y
  | _, _, .nil, _, _, h => by simp at h
  | _, _, .cons r t, 0, _, h => by cases h; exact ⟨_, rfl, r⟩
  | _, _, .cons r t, i + 1, _, h => Paired.at t (by simpa using h)
theorem env_init {K : PySem.W.Frag} {W0 : List Addr} {H : Hp} {vs : List V} {as : List Arg} {N : List Str} (r : Paired (ArgR K W0 H) vs as) (nt : NoTup W0 H) (o : one1 (argX as)) (hl : as.length ≤ N.length) : EnvR K W0 H (L2.start N vs) (initE as N.length) := by
  have hvl : vs.length = as.length := r.length
  have look : ∀ (i : Nat) (s : Sl), (initE as N.length)[i]? = some s → (∃ a, as[i]? = some a ∧ s = argS a) ∨ s = .un := fun i s h => by
    unfold initE at h
    by_cases q : i < as.length
    · rw [List.getElem?_append_left (by simpa using q), List.getElem?_map] at h
      obtain ⟨a, ha, e⟩ := Option.map_eq_some_iff.mp h
      exact .inl ⟨a, ha, e.symm⟩
    · rw [List.getElem?_append_right (by simpa using q), List.getElem?_replicate] at h
      split at h
      · cases h; exact .inr rfl
      · cases h
  have cells : ∀ (i : Nat) (a : Addr) (c : Cl), (initE as N.length)[i]? = some (Sl.cell a c) → as[i]? = some (Arg.bag a) ∧ c = Cl.bag := fun i a c h => by
    rcases look i _ h with ⟨b, hb, e⟩ | e
    · cases b with
      | dat d => cases e
      | bag b => cases e; exact ⟨hb, rfl⟩
    · cases e
  have inW : ∀ (i : Nat) (a : Addr), as[i]? = some (Arg.bag a) → a ∈ W0 := fun i a h => by
    obtain ⟨v, _, rr⟩ := Paired.at r h
    exact rr.2.2
  have sub : ∀ a ∈ W0 ++ cellA (initE as N.length), a ∈ W0 := fun a m => (List.mem_append.mp m).elim id fun m => by
    obtain ⟨i, c, h⟩ := mem_cellA.mp m
    exact inW i a (cells i a c h).1
  refine ⟨?_, fun i s h => ?_, fun i j a c c' h1 h2 => one1_ix o (cells i a c h1).1 (cells j a c' h2).1, nt, fun i a ds h n => absurd (cells i a _ h).2 n⟩
  · unfold L2.start initE
    rw [List.length_append, List.length_append, List.length_map, List.length_map, List.length_replicate, List.length_replicate, hvl]
  · rcases look i s h with ⟨a, ha, rfl⟩ | rfl
    · obtain ⟨v, hv, rr⟩ := Paired.at r ha
      have hi : i < vs.length := by
        by_cases z : i < vs.length
        · exact z
        · rw [List.getElem?_eq_none (by omega)] at hv; cases hv
      refine ⟨some v, ?_, ?_⟩
      · unfold L2.start
        rw [List.getElem?_append_left (by simpa using hi), List.getElem?_map, hv]
        rfl
      · cases a with
        | dat d => exact ⟨v, rfl, Rp.mono sub d rr⟩
        | bag b => exact ⟨by rw [rr.1], rr.2.1⟩
    · have hi : i < (L2.start N vs).length := by
        unfold L2.start
        unfold initE at h
        have : i < (as.map argS ++ List.replicate (N.length - as.length) Sl.un).length := by
          by_cases z : i < (as.map argS ++ List.replicate (N.length - as.length) Sl.un).length
          · exact z
          · rw [List.getElem?_eq_none (by omega)] at h; cases h
        rw [List.length_append, List.length_map, List.length_replicate] at this ⊢
        rw [hvl]
        exact this
      exact ⟨_, List.getElem?_eq_getElem hi, trivial⟩
/-- what a def's body is to show, by data -/
def DefSem (f : SemS) (n np : Nat) (F : Spec) : Prop := ∀ as Q, F as Q → as.length = np ∧ f (initE as n) (fun ρ => keepB as ρ ∧ Q .none) (fun ρ d => keepB as ρ ∧ Q d)
section
variable {P : Program} {w : World} {K : PySem.W.Frag} {mg : Str → Option Value} {base : Heap}
theorem def_go {N ps : List Str} {F : Spec} {fb : SemS} {vs : List V} {H : Hp} {Q : VK} {E : XK} (hp : ps.length ≤ N.length) (hd : DefSem fb N.length ps.length F) (h : spD K F vs H Q E) : tS K fb { nx := fun _ H' => Q .non H', rt := Q } (L2.start N vs) H := by
  obtain ⟨W0, as, Qd, r, nt, o, hf, k⟩ := h
  obtain ⟨hl, hs⟩ := hd as Qd hf
  have E0 : EnvR K W0 H (L2.start N vs) (initE as N.length) := env_init r nt o (by rw [hl]; exact hp)
  have xs : ∀ a ∈ cellA (initE as N.length), a ∈ argX as := fun a m => by
    obtain ⟨i, c, h⟩ := mem_cellA.mp m
    unfold initE at h
    by_cases q : i < as.length
    · rw [List.getElem?_append_left (by simpa using q), List.getElem?_map] at h
      obtain ⟨b, hb, e⟩ := Option.map_eq_some_iff.mp h
      cases b with
      | dat d => cases e
      | bag b => cases e; exact argX_mem hb
    · rw [List.getElem?_append_right (by simpa using q), List.getElem?_replicate] at h
      split at h <;> cases h
  have fin : ∀ v H' σ' ρ' d, keepB as ρ' → Qd d → EnvR K W0 H' σ' ρ' → Ev (initE as N.length) H ρ' H' → Rp K W0 H' v d → Q v H' := fun v H' σ' ρ' d kb qd E' e r' => k v H' d qd r' (e.1.mono xs) fun a m => E'.bag (keepB_get kb a m)
  exact ⟨W0, _, _, _, E0, hs, fun σ' H' ρ' h E' e => fin .non H' σ' ρ' .none h.1 h.2 E' e .non, fun v H' σ' ρ' d h E' e r' => fin v H' σ' ρ' d h.1 h.2 E' e r'⟩
end
/-- .. of a def that gives out a new list -/
def DefSemN (fs : SemS) (fe : SemE) (n np : Nat) (F : Spec) : Prop := ∀ as Q, F as Q → as.length = np ∧ fs (initE as n) (fun ρ => keepB as ρ ∧ fe ρ fun d => ∃ ds, d = .list ds ∧ Q d) (fun _ _ => False)
theorem def_goN {K : PySem.W.Frag} {N ps : List Str} {F : Spec} {fs : SemS} {fe : SemE} {vs : List V} {H : Hp} {Q : VK} {E : XK} (hp : ps.length ≤ N.length) (hd : DefSemN fs fe N.length ps.length F) (h : spN K F vs H Q E) : tSeq (tS K fs) (tRet (tE K true fe)) { nx := fun _ H' => Q .non H', rt := Q } (L2.start N vs) H := by
  obtain ⟨W0, as, Qd, r, nt, o, hf, k⟩ := h
  obtain ⟨hl, hs⟩ := hd as Qd hf
  have E0 : EnvR K W0 H (L2.start N vs) (initE as N.length) := env_init r nt o (by rw [hl]; exact hp)
  have xs : ∀ a ∈ cellA (initE as N.length), a ∈ argX as := fun a m => by
    obtain ⟨i, c, h⟩ := mem_cellA.mp m
    unfold initE at h
    by_cases q : i < as.length
    · rw [List.getElem?_append_left (by simpa using q), List.getElem?_map] at h
      obtain ⟨b, hb, e⟩ := Option.map_eq_some_iff.mp h
      cases b with
      | dat d => cases e
      | bag b => cases e; exact argX_mem hb
    · rw [List.getElem?_append_right (by simpa using q), List.getElem?_replicate] at h
      split at h <;> cases h
  refine ⟨W0, _, _, _, E0, hs, fun σ' H' ρ' h E' e => ?_, fun v H' σ' ρ' d h E' e r' => h.elim⟩
  refine ⟨W0, ρ', _, E', h.2, fun v H2 d qd E2 X2 r2 nw => ?_⟩
  obtain ⟨ds, rfl, qd⟩ := qd
  obtain ⟨p, ys, rfl, h0, h1, hz, t⟩ := nw rfl ds rfl
  have e2 := e.trans (Ev.of (ρ' := ρ') X2 fun _ m => m)
  exact k p H2 ds ys qd (e.1.none h0) h1 hz (RpA.mono (fun a m => List.mem_append_left _ m) ds t) (Rp.mono (fun a m => List.mem_append_left _ m) _ r2) (e2.1.mono xs) fun a m => E2.bag (keepB_get h.1 a m)
end CC

namespace CC
open PySem PySem.Spec PyProof.Rows L2
/-! ### names -/
def sEq (x y : Str) : Bool := x.cps.toList == y.cps.toList
theorem sEq_ok {x y : Str} (h : sEq x y = true) : x = y := by
  cases x with | mk a => cases y with | mk b =>
  have := eq_of_beq h
  exact congrArg Str.mk (Array.toList_inj.mp this)
theorem sEq_self (x : Str) : sEq x x = true := by unfold sEq; exact beq_self_eq_true _
theorem sEq_no {x y : Str} (h : sEq x y = false) : x ≠ y := fun e => by rw [e, sEq_self] at h; cases h
theorem sEq_beq (x y : Str) : (x == y) = sEq x y := by
  cases h : sEq x y with
  | true => rw [sEq_ok h]; exact beq_self_eq_true _
  | false => exact beq_eq_false_iff_ne.mpr (sEq_no h)
def lk (x : Str) : List (Str × NameKind) → Option NameKind
  | [] => none
  | p :: r => if sEq x p.1 then some p.2 else lk x r
theorem lk_eq (x : Str) : ∀ l, lk x l = List.lookup x l
  | [] => rfl
  | (y, k) :: r => by
    rw [List.lookup, lk, sEq_beq, lk_eq x r]
    cases sEq x y <;> rfl
def ixOf (x : Str) : List Str → Option Nat
  | [] => none
  | y :: ys => if sEq x y then some 0 else (ixOf x ys).map (· + 1)
theorem ixOf_ok {x : Str} : ∀ {l i}, ixOf x l = some i → l[i]? = some x
  | [], _, h => by cases h
  | y :: ys, i, h => by
    unfold ixOf at h
    by_cases q : sEq x y = true
    · rw [if_pos q] at h; cases h; rw [sEq_ok q]; rfl
    · rw [if_neg q] at h
      obtain ⟨j, hj, e⟩ := Option.map_eq_some_iff.mp h
      cases e
      exact ixOf_ok (l := ys) hj
structure FnI where
  x : Str
  ix : Nat
  np : Nat
  df : Option Int
  fr : Bool
/-- what a def's text is read by -/
structure Cfg where
  N : List Str
  sc : Scope
  cel : Str → Bool
  co : List (Str × D)
  fs : List FnI
  own : List Nat
  bags : List Nat
def free1 (c : Cfg) (x : Str) : Bool := (c.co.all fun p => !sEq x p.1) && c.fs.all fun p => !sEq x p.x
def goodN (x : Str) : Bool := !sEq x "__debug__" && !sEq x "__classdict__" && !sEq x "__name__"
theorem goodN_ok {x : Str} (h : goodN x = true) : (x == ("__debug__" : Str)) = false ∧ (x == ("__classdict__" : Str)) = false ∧ x ≠ "__name__" := by
  unfold goodN at h
  simp only [Bool.and_eq_true, Bool.not_eq_true'] at h
  exact ⟨by rw [sEq_beq]; exact h.1.1, by rw [sEq_beq]; exact h.1.2, sEq_no h.2⟩
def slotV (c : Cfg) (x : Str) : Option Nat :=
  match lk x c.sc.names with
  | some .local => if goodN x then ixOf x c.N else none
  | some .cell => if goodN x then ixOf x c.N else none
  | some .free => if goodN x then ixOf x c.N else none
  | _ => none
theorem slotV_ok {c : Cfg} {x : Str} {i : Nat} (h : slotV c x = some i) : c.N[i]? = some x ∧ Vis c.sc x ∧ goodN x = true := by
  unfold slotV at h
  cases e : lk x c.sc.names with
  | none => rw [e] at h; cases h
  | some k =>
    rw [e] at h
    have g : goodN x = true := by
      cases q : goodN x with
      | true => rfl
      | false => rw [q] at h; cases k <;> cases h
    rw [g] at h
    rw [lk_eq] at e
    unfold Vis
    rw [e]
    cases k with
    | «local» => exact ⟨ixOf_ok h, .inl rfl, g⟩
    | cell => exact ⟨ixOf_ok h, .inr (.inl rfl), g⟩
    | free => exact ⟨ixOf_ok h, .inr (.inr rfl), g⟩
    | globalExplicit => cases h
    | globalImplicit => cases h
/-- a name that is set: (its place, whether it is local) -/
def slotT (c : Cfg) (x : Str) : Option (Nat × Bool) :=
  match lk x c.sc.names with
  | some .local => (ixOf x c.N).map (·, true)
  | some .cell => if c.cel x then (ixOf x c.N).map (·, false) else none
  | _ => none
theorem slotT_ok {c : Cfg} {x : Str} {i : Nat} {b : Bool} (h : slotT c x = some (i, b)) : c.N[i]? = some x ∧ L2.Loc c.sc x ∧ (c.cel x = true ∨ List.lookup x c.sc.names = some .local) ∧ (b = true → List.lookup x c.sc.names = some .local) ∧ (b = false → List.lookup x c.sc.names = some .cell) := by
  unfold slotT at h
  cases e : lk x c.sc.names with
  | none => rw [e] at h; cases h
  | some k =>
    rw [e] at h
    rw [lk_eq] at e
    unfold L2.Loc
    rw [e]
    cases k with
    | «local» =>
      obtain ⟨j, hj, q⟩ := Option.map_eq_some_iff.mp h
      cases q
      exact ⟨ixOf_ok hj, .inl rfl, .inr rfl, fun _ => rfl, (fun z => nomatch z)⟩
    | cell =>
      cases hc : c.cel x with
      | true =>
        simp only [hc, if_true] at h
        obtain ⟨j, hj, q⟩ := Option.map_eq_some_iff.mp h
        cases q
        exact ⟨ixOf_ok hj, .inr rfl, .inl rfl, (fun z => nomatch z), fun _ => rfl⟩
      | false => simp [hc] at h
    | free => cases h
    | globalExplicit => cases h
    | globalImplicit => cases h
def isGl (c : Cfg) (x : Str) : Bool :=
  match lk x c.sc.names with
  | some .globalImplicit => goodN x
  | _ => false
theorem isGl_ok {c : Cfg} {x : Str} (h : isGl c x = true) : List.lookup x c.sc.names = some .globalImplicit ∧ goodN x = true := by
  unfold isGl at h
  rw [← lk_eq]
  cases e : lk x c.sc.names with
  | none => rw [e] at h; cases h
  | some k => rw [e] at h; cases k <;> first | exact ⟨rfl, h⟩ | cases h
/-- the context that a text is read in -/
structure Good (Φ : Nat → Spec) (bl : List Str) (c : Cfg) (X : Cx) : Prop where
  N : X.N = c.N
  sc : X.env.scope = c.sc
  cel : ∀ x, c.cel x = true → X.fn x = true
  calm : X.calm = true
  nd : c.N.Nodup
  un : X.A.units + 64 < cLine
  bl : ∀ x, x ∈ bl → X.mg x = none
  co : ∀ p, p ∈ c.co → ∃ v u, X.mg p.1 = some u ∧ RelV v u ∧ (∀ W H, Rp X.K W H v p.2) ∧ (∀ ds, p.2 ≠ .list ds) ∧ ∀ ds, p.2 = .tuple ds → ∀ H, tyV X.K "tuple" v H
  fs : ∀ p, p ∈ c.fs → ∃ k fa fd ps, FnOk X.prog X.w X.K X.mg X.base CX0 k fa fd ps (spX p.fr X.K (Φ p.ix)) ∧ Room k X.A ∧ X.mg p.x = some (.ref fa) ∧ PySem.W.keepIn X.K (.ref fa) = true ∧ Binds X.K fd ps [] ∧ ∀ j, p.df = some j → ∃ t, Binds X.K fd ps [.int j t]
structure GoodS (Φ : Nat → Spec) (bl : List Str) (c : Cfg) (X : Cx) : Prop extends Good Φ bl c X where
  xe : ∀ e s, ¬ X.xe e s
section
variable {Φ : Nat → Spec} {bl : List Str} {c : Cfg} {X : Cx}
theorem GoodS.own (G : GoodS Φ bl c X) : PassesOwn (model X.prog X.w) X.A X.env X.xe := fun e s h => (G.xe e s h).elim
theorem Good.gl (G : Good Φ bl c X) {x : Str} (h : isGl c x = true) : Gl X x := by
  unfold Gl Env.kindOf
  rw [G.sc]
  exact (isGl_ok h).1
theorem Good.slot (G : Good Φ bl c X) {x : Str} {i : Nat} (h : slotV c x = some i) : X.N[i]? = some x ∧ Vis X.env.scope x := by
  rw [G.N, G.sc]
  exact ⟨(slotV_ok h).1, (slotV_ok h).2.1⟩
theorem Good.nd' (G : Good Φ bl c X) : X.N.Nodup := by rw [G.N]; exact G.nd
/-- in a block of a comprehension -/
def Cfg.blk (c : Cfg) (scope : Scope) : Cfg := { c with sc := relS scope c.sc, cel := fun x => List.lookup x scope.names == some .cell }
theorem Good.blk (G : Good Φ bl c X) (scope : Scope) (s : Shared) (H : Hp) (C : Addr) (cl : List (Str × Addr)) (fp : List Addr) : Good Φ bl (c.blk scope) (X.blk s H scope (compEnvC scope cl C X.env) fp) where
  N := G.N
  sc := by
    show relabel scope X.env = relS scope c.sc
    rw [← G.sc]; rfl
  cel := fun x h => h
  calm := G.calm
  nd := G.nd
  un := G.un
  bl := G.bl
  co := G.co
  fs := G.fs
/-! ### marks -/
def isStar : Expr → Bool
  | .Starred _ _ => true
  | _ => false
theorem star_cons {a : Expr} {es : List Expr} {env : Env} (h : isStar a = false) : starEach (a :: es) env = (false, eval a env) :: starEach es env := by
  cases a <;> first | rfl | cases h
theorem star_any {pos : Pos} {env : Env} : ∀ {es : List Expr}, es.all (fun a => !isStar a) = true → (backTo pos (starEach es env)).any (·.1) = false
  | [], _ => rfl
  | a :: es, h => by
    rw [List.all_cons, Bool.and_eq_true] at h
    rw [star_cons (by simpa using h.1)]
    show (false || (backTo pos (starEach es env)).any (·.1)) = false
    rw [star_any h.2]; rfl
theorem star_all {pos : Pos} {env : Env} : ∀ {es : List Expr}, es.all (fun a => !isStar a) = true → (backTo pos (starEach es env)).all (fun x => !x.1) = true
  | [], _ => rfl
  | a :: es, h => by
    rw [List.all_cons, Bool.and_eq_true] at h
    rw [star_cons (by simpa using h.1)]
    show (true && (backTo pos (starEach es env)).all (fun x => !x.1)) = true
    rw [star_all h.2]; rfl
def isCallE : Expr → Bool
  | .Call _ _ _ _ => true
  | _ => false
theorem base_ok {o : Expr} {n : Str} {env : Env} (h : isCallE o = false) : attributeBase o n env (eval o env) = eval o env := by
  cases o <;> first | rfl | cases h
theorem star_asg {a : Expr} {es : List Expr} {env : Env} (h : isStar a = false) : assignEach (a :: es) env = (false, assign a env) :: assignEach es env := by
  cases a <;> first | rfl | cases h
def isSlice : Expr → Bool
  | .Slice _ _ _ _ => true
  | _ => false
theorem plain_ix {b : Expr} (h : isSlice b = false) : PlainIx b := fun o i => by
  cases b <;> first | rfl | cases h
def isSet : Expr → Bool
  | .Set _ _ _ => true
  | _ => false
theorem no_marks {op : CmpOp} {b : Expr} (h : isSet b = false) : behindInMarks op b = false := by
  cases b <;> first | rfl | cases h
theorem no_last {op op' : CmpOp} {b c : Expr} (h : isSet c = false) : lastMarks [op, op'] [b, c] = false := no_marks h
theorem no_fold {e : Expr} {env : Env} (h : isSet e = false) (x : Value) : foldedSetIterable e env x = pure x := by
  cases e <;> first | rfl | cases h
def isTst : Expr → Bool
  | .BoolOp _ _ _ => true
  | .Compare _ _ _ _ => true
  | .UnaryOp _ _ _ => true
  | .IfExp _ _ _ _ => true
  | .Constant _ _ _ => true
  | .NamedExpr _ _ _ => true
  | _ => false
theorem plain_true {e : Expr} {env : Env} (h : isTst e = false) : ∀ whole, isTrue e env whole = (do let v ← whole; standAt e.pos; holding [v] (truthy v)) := fun whole => by
  cases e <;> first | rfl | cases h
def isLc : Expr → Bool
  | .ListComp _ _ _ _ => true
  | .SetComp _ _ _ _ => true
  | .DictComp _ _ _ _ _ => true
  | _ => false
theorem sw_no {e : Expr} {t : Option Expr} {l : Nat} {env : Env} (h : isLc e = false) : swapsWith e t l env = pure false := by
  cases e <;> first | rfl | cases h
def isTupE : Expr → Bool
  | .Tuple _ _ _ => true
  | _ => false
theorem ss_name {x : Str} {p : Pos} {e : Expr} {env : Env} : swappedStores [.Name x p] e env = pure none := rfl
theorem ss_val {ts : List Expr} {k : Nat} {p : Pos} {e : Expr} {env : Env} (h : isTupE e = false) : swappedStores [.Tuple ts k p] e env = pure none := by
  cases e <;> first | rfl | cases h
theorem sws_tup {ts : List Expr} {k : Nat} {p : Pos} {e : Expr} {l : Nat} {env : Env} : swapsWithSole [.Tuple ts k p] e l env = pure false := by
  cases e <;> rfl
end
end CC

namespace CC
open PySem PySem.Spec PyProof.Rows L2
section
variable {X : Cx} {f : SemE} {fl : SemL} {e : Expr} {p p2 pos pos2 : Pos} {m : Bool}
theorem boot_sorted : bootBuiltins ("sorted" : Str) = some (.builtin "sorted") := rfl
theorem boot_setT : bootBuiltins ("set" : Str) = some (.type "set") := rfl
/-- sorted(set([..])) of fewer than 64 ints -/
theorem s_sset (hc : X.calm = true) (hg : Gl X "sorted") (hm : X.mg "sorted" = none) (hg2 : Gl X "set") (hm2 : X.mg "set" = none) (ha : PA X [e] (tL X.K 1 fl)) (h1 : isStar e = false) :
    PE X (.Call (.Name "sorted" p) [.Call (.Name "set" p2) [e] [] pos2] [] pos) (tE X.K true fun ρ Q => fl ρ fun ds => biD .ssetI ds Q) :=
  PEi (pe_callB (cr_ssetAny hc) hg hm boot_sorted (pa_cons (pe_callTy (cr_setL hc) hg2 hm2 boot_setT ha (by decide +kernel) (by decide +kernel) (star_cons h1) rfl) pa_nil rfl) (by decide +kernel) (by decide +kernel) rfl rfl) fun σ H Q q => by
    obtain ⟨W0, ρ, Qd, E, q, k⟩ := q
    refine ⟨W0, ρ, _, E, q, fun vs H1 ds q1 E1 X1 r1 hl => ?_⟩
    obtain ⟨d, rfl⟩ : ∃ d, ds = [d] := by
      match ds, hl with
      | [d], _ => exact ⟨d, rfl⟩
    obtain ⟨v, rfl, rv⟩ := rp1 r1
    cases d with
    | list ds =>
      obtain ⟨ns, L, rfl, hn, hL, hm, q1⟩ := q1
      cases rv with
      | lst qq z t =>
        obtain rfl := t.ints
        refine ⟨_, ns, rfl, sqL_of qq, by show ns.length + 1 < 4096; omega, fun a n ha hn' => ?_⟩
        refine ⟨a, _, n, rfl, upd_same, by have := hn' L hm; omega, fun ms p' hp hmem hlen hp' => ?_⟩
        have X3 : Ext [] H1 (upd H1 a (SetO X.w a (fun j => decide (j ∈ ns)) n)) := Ext.new ha
        have X4 := X3.trans (Ext.new (W := []) (o := .lst (ms.map V.int)) hp')
        have hz : (ms.map V.int).length ≤ sizeLine := by rw [List.length_map, hlen, sizeLine_eq]; have := hn' L hm; omega
        have E3 := E1.grow X3
        refine k _ _ _ (q1 ms hp fun x => by rw [hmem]; exact decide_eq_true_iff) (E1.grow X4) (X1.trans (X4.mono fun _ z => nomatch z)) (Rp.newLst hp' hz ((NoTup.xa E3).free hp') (RpA.ofInts ms)) (.new (X1.none (X3.none hp')) hp' hz (RpA.ofInts ms))
    | _ => exact q1.elim
end
end CC

namespace CC
open PySem PySem.Spec PyProof.Rows L2
section
variable {prog : Program} {w : World} {A : Around} {E : Value → Shared → Prop} {s : Shared}
theorem fm_congr {α β : Type} {f g : α → Option β} : ∀ {l : List α}, (∀ x ∈ l, f x = g x) → l.filterMap f = l.filterMap g
  | [], _ => rfl
  | x :: l, h => by
    rw [List.filterMap_cons, List.filterMap_cons, h x List.mem_cons_self, fm_congr fun y m => h y (List.mem_cons_of_mem _ m)]
theorem pick_back (xs : Array Value) : ((List.range xs.size).filterMap fun (m : Nat) => xs[((xs.size : Int) - 1 + (m : Int) * (-1)).toNat]?).toArray = xs.toList.reverse.toArray := by
  congr 1
  have e : ∀ m ∈ List.range xs.size, xs[((xs.size : Int) - 1 + (m : Int) * (-1)).toNat]? = xs.toList.reverse[m]? := fun m hm => by
    have hm := List.mem_range.mp hm
    have e1 : ((xs.size : Int) - 1 + (m : Int) * (-1)).toNat = xs.size - 1 - m := by omega
    rw [e1, List.getElem?_reverse (by simpa using hm), ← Array.getElem?_toList]
    simp
  rw [fm_congr e]
  have g : ∀ l : List Value, (List.range l.length).filterMap (fun m => l[m]?) = l := fun l => by
    induction l with
    | nil => rfl
    | cons x r ih =>
      rw [List.length_cons, List.range_succ_eq_map, List.filterMap_cons]
      simp only [List.getElem?_cons_zero, List.filterMap_map]
      congr 1
  have := g xs.toList.reverse
  simpa using this
theorem applied_back {sl : Addr} {vs : Value} {n : Nat} {Q : Int × Int × Nat → Shared → Prop} (hq : s.heap.IsSliceOf sl .none .none vs) (ps : IsPart vs (some (-1))) (h : Q ((n : Int) - 1, -1, n) s) : wpAny (model prog w) A (Builtin.Slice.sliceApplied (.ref sl) (pure (n : Int))) Q E s := by
  obtain ⟨os, e1, e2, e3⟩ := id hq
  unfold Builtin.Slice.sliceApplied Builtin.Slice.sliceFields
  refine wpAny_bind (wpAny_bind (wpAny_field e1 e3 (x := .none) rfl (wpAny_bind (wpAny_field e1 e3 (x := .none) rfl (wpAny_bind (wpAny_field e1 e3 (x := vs) rfl (wpAny_pure ?_)))))))
  refine wpAny_bind (HT.slicePart_ ps ?_)
  show wpAny _ _ (if ((-1 : Int) == 0) = true then _ else _) _ _ s
  rw [if_neg (by decide)]
  refine wpAny_bind (HT.slicePart_ .none (wpAny_bind (HT.slicePart_ .none (wpAny_bind (wpAny_pure ?_)))))
  show wpAny _ _ (pure ((n : Int) - 1, (-1 : Int), Builtin.Slice.slicePlaces ((n : Int) - 1) (-1) (-1))) _ _ s
  have e : Builtin.Slice.slicePlaces ((n : Int) - 1) (-1) (-1) = n := by
    unfold Builtin.Slice.slicePlaces
    have h1 : ¬ (-1 : Int) > 0 := by decide
    simp only [h1, if_false]
    rw [show (- -1 : Int) = 1 by decide, Int.ediv_one]
    split <;> omega
  rw [e]
  exact wpAny_pure h
theorem getItem_back {t sl : Addr} {items : Array Value} {vs : Value} {Q : Value → Shared → Prop} (ht : IsTup s.heap t items) (hq : s.heap.IsSliceOf sl .none .none vs) (ps : IsPart vs (some (-1)))
    (h : Q (.ref s.heap.objs.size) { s with heap := s.heap.push { cls := .type "tuple", data := .seq items.toList.reverse.toArray } }) (hz : items.size ≤ sizeLine) : wpAny (model prog w) A (getItem (.ref t) (.ref sl)) Q E s := by
  have fits : sizeOk (.seq items.toList.reverse.toArray) := by
    show items.toList.reverse.toArray.size ≤ sizeLine
    simpa using hz
  obtain ⟨os, e1, e2, e3⟩ := id hq
  have tyS : s.TypeIs (.ref sl) "slice" := ⟨os, e1, e2⟩
  unfold getItem
  try with_reducible refine wpAny_holding ?_
  first | refine wpAny_bind (wpAny_pure ?_) | skip
  refine wpAny_bind (wpAny_sequenceKey ht.typeIs (by decide) ?_)
  refine wpAny_bind (wpAny_callSpecial?_slot (name := Str.ofString "__getitem__") ht.typeIs PyProof.Rows.slot_tuple_getitem (wpAny_call_entry PyProof.Rows.slot_tuple_getitem ht.typeIs entry_tuple_getitem ?_ (args_tuple_getitem _ _)))
  show wpAny _ _ (Builtin.Tuple.tupleItemsOf (.ref t) >>= _) _ _ s
  refine wpAny_bind (PyProof.Rows.tupleItemsOf_ ht ?_)
  refine wpAny_bind (wpAny_typeOf tyS ?_)
  rw [if_pos (by decide)]
  refine wpAny_bind (applied_back hq ps ?_)
  have no : ¬ ((((items.size : Int) - 1) == 0 && (-1 : Int) == 1 && items.size == items.size) = true) := by simp
  show wpAny _ _ (if (((items.size : Int) - 1) == 0 && (-1 : Int) == 1 && items.size == items.size) = true then _ else _) _ _ s
  rw [if_neg no, pick_back]
  first
    | exact wpAny_bind (m := Builtin.Tuple.tupleExact _) (wpAny_newObj_type (wpAny_pure ⟨_, rfl, wpAny_pure h⟩) fits)
    | exact wpAny_bind (m := Builtin.Tuple.tupleExact _) (wpAny_newObj_type (wpAny_bind (wpAny_pure (wpAny_pure ⟨_, rfl, wpAny_pure h⟩))) fits)
    | exact wpAny_bind (wpAny_bind (m := Builtin.Tuple.tupleExact _) (wpAny_newObj_type (wpAny_pure (wpAny_pure ⟨_, rfl, wpAny_pure h⟩)) fits))
    | exact wpAny_bind (wpAny_bind (m := Builtin.Tuple.tupleExact _) (wpAny_newObj_type (wpAny_pure ⟨_, rfl, wpAny_pure h⟩) fits))
end
def tRev (K : PySem.W.Frag) (te : TE) : TE := fun σ H Q => te σ H fun x H1 => (∃ a xs, x = .ref a ∧ SqT K H1 a xs ∧ ∀ p, H1 p = none → Q (.ref p) (upd H1 p (.tup xs.reverse))) ∨ ∃ a xs, x = .ref a ∧ SqL K H1 a xs ∧ ∀ p, H1 p = none → Q (.ref p) (upd H1 p (.lst xs.reverse))
section
variable {X : Cx}
/-- t[::-1], a tuple or a list -/
theorem pe_rev {e : Expr} {te : TE} {k : Nat} {p1 p2 p3 pos : Pos} (he : PE X e te) : PE X (.Subscript e (.Slice none none (some (.UnaryOp .USub (.Constant (.int 1) k p1) p2)) p3) pos) (tRev X.K te) := by
  refine ⟨fun pins s σ H Q I h => ?_⟩
  refine Subscript_ (thn (he.run pins s σ H _ I h) fun v s1 ⟨x, H1, I1, r1, q1⟩ => ?_)
  have st1 : PO X (some (.UnaryOp .USub (.Constant (.int 1) k p1) p2)) (tPart (tUn (rU fun i => .int (-i)) (tC (.int 1)))) := po_some (pe_un un_neg pe_int)
  refine wpAny_Slice (thn (po_none.run pins s1 σ H1 (fun o H2 => o = none ∧ H2 = H1) I1 ⟨rfl, rfl⟩) fun vl s2 ⟨l, H2, I2, pl, el, e2⟩ => ?_)
  subst el e2
  refine thn (po_none.run pins s2 σ H2 (fun o H3 => o = none ∧ H3 = H2) I2 ⟨rfl, rfl⟩) fun vu s3 ⟨u, H3, I3, pu, eu, e3⟩ => ?_
  subst eu e3
  refine thn (st1.run pins s3 σ H3 (fun o H4 => o = some (-1) ∧ H4 = H3) I3 ⟨1, rfl, -1, rfl, rfl, rfl⟩) fun vs s4 ⟨o, H4, I4, ps, eo, e4⟩ => ?_
  subst eo e4
  have I5 : Inv X pins σ H4 { s4 with heap := s4.heap.push { cls := .type "slice", data := .fields #[vl, vu, vs] } } := I4.kept (t' := s4.toks) fun b ob q => Heap.get?_push_of_some _ q
  cases pl
  cases pu
  rcases q1 with ⟨a, xs, rfl, hx, q⟩ | ⟨a, xs, rfl, hx, q⟩
  · cases r1
    obtain ⟨its, r, ht, hz⟩ := I5.tuple hx
    have hlen := r.length
    show wpAny (model X.prog X.w) X.A (subscriptTail e (.Slice none none (some (.UnaryOp .USub (.Constant (.int 1) k p1) p2)) p3) (.ref a) (.ref s4.heap.objs.size)) (EP X pins σ Q) X.xe { s4 with heap := s4.heap.push { cls := .type "slice", data := .fields #[.none, .none, vs] } }
    refine tail_any (ops := [.ref a, .ref s4.heap.objs.size]) ht.typeIs (PyProof.Rows.slot_tuple_getitem.lookup) ?_ (by with_unfolding_all rfl)
    refine getItem_back ht (Heap.IsSliceOf.new _ .none .none vs) ps ?_ (by rw [List.size_toArray]; omega)
    refine ⟨.ref _, _, I5.laid (t' := s4.toks) (o := .tup xs.reverse) (fun b ob q => Heap.get?_push_of_some _ q) (Nat.le_refl _) ?_, rfl, q _ (I5.hok.fresh (Nat.le_refl _))⟩
    exact ⟨by rw [List.length_reverse]; exact hz, _, r.reverse, IsTup.new _ _⟩
  · cases r1
    obtain ⟨its, r, ht, hz⟩ := I5.list hx
    have hlen := r.length
    show wpAny (model X.prog X.w) X.A (subscriptTail e (.Slice none none (some (.UnaryOp .USub (.Constant (.int 1) k p1) p2)) p3) (.ref a) (.ref s4.heap.objs.size)) (EP X pins σ Q) X.xe { s4 with heap := s4.heap.push { cls := .type "slice", data := .fields #[.none, .none, vs] } }
    refine tail_any (ops := [.ref a, .ref s4.heap.objs.size]) ht.isList.typeIs (PySem.slot_list_getitem.lookup) ?_ (by with_unfolding_all rfl)
    refine wpAny_getItem_list_slice ht.isList (Heap.IsSliceOf.new _ .none .none vs) .none .none ps (by decide) ?_ (by rw [List.size_toArray]; omega)
    rw [PySem.W.krv_pick]
    refine ⟨.ref _, _, I5.laid (t' := s4.toks) (o := .lst xs.reverse) (fun b ob q => Heap.get?_push_of_some _ q) (Nat.le_refl _) ?_, rfl, q _ (I5.hok.fresh (Nat.le_refl _))⟩
    exact ⟨by rw [List.length_reverse]; exact hz, _, 0, r.reverse, Heap.get?_push_size _ rfl⟩
end
end CC

namespace CC
open PySem PySem.Spec PyProof.Rows L2
section
variable {X : Cx} {f : SemE} {fl : SemL} {e : Expr} {p p2 pos pos2 : Pos} {m : Bool}
theorem s_rev {k : Nat} {q1 q2 q3 : Pos} (he : PE X e (tE X.K m f)) : PE X (.Subscript e (.Slice none none (some (.UnaryOp .USub (.Constant (.int 1) k q1) q2)) q3) pos) (tE X.K false fun ρ Q => f ρ fun d => revD d Q) := PEi (pe_rev he) fun σ H Q q => by
  obtain ⟨W0, ρ, Qd, E, q, k⟩ := q
  refine ⟨W0, ρ, _, E, q, fun v H1 d qd E1 X1 r nw => ?_⟩
  cases d with
  | list ds =>
    cases r with
    | lst qq z t => exact .inr ⟨_, _, rfl, sqL_of qq, fun p hp => k _ _ _ qd (E1.grow (Ext.new hp)) (X1.trans (Ext.new hp)) (Rp.newLst hp (by rw [List.length_reverse]; exact z) ((NoTup.xa E1).free hp) t.reverse) .no⟩
  | tuple ds =>
    cases r with
    | tup qq z t => exact .inl ⟨_, _, rfl, sqT_of qq, fun p hp => k _ _ _ qd (E1.grow (Ext.new hp)) (X1.trans (Ext.new hp)) (Rp.newTup hp (by rw [List.length_reverse]; exact z) ((NoTup.xa E1).free hp) t.reverse) .no⟩
  | _ => exact qd.elim
theorem rgV_rp {K : PySem.W.Frag} {W : List Addr} {H : Hp} (a b : Int) : RpA K W H (rgV a b) (rngL a b) := by
  unfold rgV rngL
  generalize List.range (b - a).toNat = l
  induction l with
  | nil => exact .nil
  | cons x r ih => exact .cons (.int _) ih
theorem rgOk {n : Int} (h : inR n) : RgOk 0 n := ⟨by decide, by decide, by have := h.1; omega, by have := h.2; omega, by have := h.2; omega⟩
theorem rg_len {n : Int} (h : inR n) : (rgV 0 n).length ≤ sizeLine := by rw [rgV_length, sizeLine_eq]; have := h.2; omega
/-- list(range(n)) -/
theorem s_listR (hc : X.calm = true) (hg : Gl X "list") (hm : X.mg "list" = none) (hg2 : Gl X "range") (hm2 : X.mg "range" = none) (he : PE X e (tE X.K m f)) (h1 : isStar e = false) :
    PE X (.Call (.Name "list" p) [.Call (.Name "range" p2) [e] [] pos2] [] pos) (tE X.K true fun ρ Q => f ρ fun d => biD .listR [d] Q) :=
  PEi (pe_listRg hc hg hm (prg_1 hg2 hm2 he (star_cons h1)) rfl) fun σ H Q q => by
    obtain ⟨W0, ρ, Qd, E, q, k⟩ := q
    refine ⟨W0, ρ, _, E, q, fun v H1 d q1 E1 X1 r1 _ => ?_⟩
    cases d with
    | int n =>
      cases r1
      obtain ⟨hn, q1⟩ := q1
      refine ⟨n, rfl, rgOk hn, fun p hp => ?_⟩
      exact k _ _ _ q1 (E1.grow (Ext.new hp)) (X1.trans (Ext.new hp)) (Rp.newLst hp (rg_len hn) ((NoTup.xa E1).free hp) (rgV_rp 0 n)) (.new (X1.none hp) hp (rg_len hn) (rgV_rp 0 n))
    | _ => exact q1.elim
theorem s_tupleR (hc : X.calm = true) (hg : Gl X "tuple") (hm : X.mg "tuple" = none) (hg2 : Gl X "range") (hm2 : X.mg "range" = none) (he : PE X e (tE X.K m f)) (h1 : isStar e = false) :
    PE X (.Call (.Name "tuple" p) [.Call (.Name "range" p2) [e] [] pos2] [] pos) (tE X.K false fun ρ Q => f ρ fun d => biD .tupleR [d] Q) :=
  PEi (pe_tupRg hc hg hm (prg_1 hg2 hm2 he (star_cons h1)) rfl) fun σ H Q q => by
    obtain ⟨W0, ρ, Qd, E, q, k⟩ := q
    refine ⟨W0, ρ, _, E, q, fun v H1 d q1 E1 X1 r1 _ => ?_⟩
    cases d with
    | int n =>
      cases r1
      obtain ⟨hn, q1⟩ := q1
      refine ⟨n, rfl, rgOk hn, fun p hp => ?_⟩
      exact k _ _ _ q1 (E1.grow (Ext.new hp)) (X1.trans (Ext.new hp)) (Rp.newTup hp (rg_len hn) ((NoTup.xa E1).free hp) (rgV_rp 0 n)) .no
    | _ => exact q1.elim
end
end CC

namespace CC
open PySem PySem.Spec PyProof.Rows L2
/-! ### operators -/
def arOf : Operator → Option Ar
  | .Add => some .add
  | .Sub => some .sub
  | .Mult => some .mul
  | .FloorDiv => some .fdiv
  | .Mod => some .mod
  | .Pow => some .pow
  | _ => none
theorem ar_ok {X : Cx} : ∀ {op : Operator} {o : Ar}, arOf op = some o → ∃ r, OpR X (binaryOp op) r ∧ OpD X.K r (binD o) true := by
  intro op o h
  cases op <;> cases h
  · exact ⟨_, op_addD, od_add⟩
  · exact ⟨_, op_sub, od_sub⟩
  · exact ⟨_, op_mul, od_mul⟩
  · exact ⟨_, op_mod, od_mod⟩
  · exact ⟨_, op_pow, od_pow⟩
  · exact ⟨_, op_fdivW, od_fdiv⟩
def cmOf : CmpOp → Option Cm
  | .Eq => some .eq
  | .NotEq => some .ne
  | .Lt => some .lt
  | .LtE => some .le
  | .Gt => some .gt
  | .GtE => some .ge
  | .Is => some .isN
  | .IsNot => some .notN
  | .In => some .isin
  | .NotIn => some .notin
theorem cm_ok {X : Cx} (hu : X.A.units + 64 < cLine) : ∀ {op : CmpOp} {o : Cm}, cmOf op = some o → ∃ r, OpR X (compareOp op) r ∧ OpD X.K r (cmpD o) true := by
  intro op o h
  cases op <;> cases h
  · exact ⟨_, op_eqA hu, od_eq⟩
  · exact ⟨_, op_neA hu, od_ne⟩
  · exact ⟨_, op_lt, od_lt⟩
  · exact ⟨_, op_le, od_le⟩
  · exact ⟨_, op_gt, od_gt⟩
  · exact ⟨_, op_ge, od_ge⟩
  · exact ⟨_, op_isN, od_isN⟩
  · exact ⟨_, op_notN, od_notN⟩
  · exact ⟨_, opOr op_in_seq (op_inD hu), od_isin⟩
  · exact ⟨_, opOr op_notIn_seq (op_notinD hu), od_notin⟩
theorem cm_B (o : Cm) (x y : D) (Q : D → Prop) (h : cmpD o x y Q) : cmpD o x y fun d => ∃ k, d = .bool k ∧ Q d := by
  cases o with
  | eq => exact ⟨h.1, _, rfl, h.2⟩
  | ne => exact ⟨h.1, _, rfl, h.2⟩
  | lt => cases x <;> first | exact h.elim | (cases y <;> first | exact h.elim | exact ⟨_, rfl, h⟩)
  | le => cases x <;> first | exact h.elim | (cases y <;> first | exact h.elim | exact ⟨_, rfl, h⟩)
  | gt => cases x <;> first | exact h.elim | (cases y <;> first | exact h.elim | exact ⟨_, rfl, h⟩)
  | ge => cases x <;> first | exact h.elim | (cases y <;> first | exact h.elim | exact ⟨_, rfl, h⟩)
  | isin => cases y <;> first | exact h.elim | exact ⟨h.1, _, rfl, h.2⟩ | (obtain ⟨i, e, h⟩ := h; exact ⟨i, e, _, rfl, h⟩)
  | notin => cases y <;> first | exact h.elim | exact ⟨h.1, _, rfl, h.2⟩ | (obtain ⟨i, e, h⟩ := h; exact ⟨i, e, _, rfl, h⟩)
  | isN => cases y <;> first | exact h.elim | exact ⟨_, rfl, h⟩
  | notN => cases y <;> first | exact h.elim | exact ⟨_, rfl, h⟩
/-! ### built-ins -/
structure BiR where
  x : Str
  many : Nat
  b : Bi
  n : Bool
def BiOk (p : BiR) : Prop := ∀ X : Cx, X.calm = true → X.A.units + 64 < cLine → (∃ id r, bootBuiltins p.x = some (.builtin id) ∧ CallR X (.builtin id) r ∧ CallD X.K r (biD p.b) p.n) ∨ ∃ T r, bootBuiltins p.x = some (.type T) ∧ CallR X (.type T) r ∧ CallD X.K r (biD p.b) p.n
def biT : List BiR := [⟨"len", 1, .len, false⟩, ⟨"int", 1, .int, false⟩, ⟨"all", 1, .all, false⟩, ⟨"tuple", 1, .tuple, false⟩, ⟨"str", 1, .str, false⟩, ⟨"max", 2, .max2, false⟩, ⟨"min", 2, .min2, false⟩,
  ⟨"list", 1, .list, true⟩, ⟨"abs", 1, .abs, false⟩, ⟨"any", 1, .any, false⟩, ⟨"max", 1, .maxI, false⟩, ⟨"min", 1, .minI, false⟩, ⟨"sum", 1, .sum, false⟩, ⟨"bool", 1, .bool, false⟩, ⟨"sorted", 1, .srt, true⟩]
theorem biT_ok : ∀ p ∈ biT, BiOk p := by
  intro p hp X hc hu
  simp only [biT, List.mem_cons, List.not_mem_nil, or_false] at hp
  rcases hp with rfl | rfl | rfl | rfl | rfl | rfl | rfl | rfl | rfl | rfl | rfl | rfl | rfl | rfl | rfl
  · exact .inl ⟨_, _, rfl, cr_len2, cd_len⟩
  · exact .inr ⟨_, _, rfl, call_int1, cd_int⟩
  · exact .inl ⟨_, _, rfl, cr_all hc, cd_all⟩
  · exact .inr ⟨_, _, rfl, call_tuple_of, cd_tuple⟩
  · exact .inr ⟨_, _, rfl, call_str_int.or SkE.call_str_str, cd_str⟩
  · exact .inl ⟨_, _, rfl, call_max2 hc, cd_max2⟩
  · exact .inl ⟨_, _, rfl, call_min2 hc, cd_min2⟩
  · exact .inr ⟨_, _, rfl, call_list_of.or (call_list_dK hc), cd_list⟩
  · exact .inl ⟨_, _, rfl, call_abs, cd_abs⟩
  · exact .inl ⟨_, _, rfl, cr_any hc, cd_any⟩
  · exact .inl ⟨_, _, rfl, cr_maxDt hc hu, cd_maxI⟩
  · exact .inl ⟨_, _, rfl, cr_minDt hc hu, cd_minI⟩
  · exact .inl ⟨_, _, rfl, cr_sum hc, cd_sum⟩
  · exact .inr ⟨_, _, rfl, call_bool1, cd_bool⟩
  · exact .inl ⟨_, _, rfl, cr_sortedI, cd_srt⟩
def biOf (x : Str) (n : Nat) : Option BiR := biT.find? fun p => sEq x p.x && p.many == n
theorem biOf_ok {x : Str} {n : Nat} {p : BiR} (h : biOf x n = some p) : x = p.x ∧ BiOk p := by
  have h1 := List.find?_some h
  simp only [Bool.and_eq_true] at h1
  exact ⟨sEq_ok h1.1, biT_ok p (List.mem_of_find?_eq_some h)⟩
/-- the built-in names that a text may not bind -/
def blt : List Str := ["len", "int", "all", "tuple", "str", "max", "min", "list", "abs", "any", "sum", "bool", "range", "enumerate", "zip", "isinstance", "sorted", "set"]
def isBl (x : Str) : Bool := blt.any fun y => sEq x y
theorem isBl_ok {x : Str} (h : isBl x = true) : x ∈ blt := by
  obtain ⟨y, hy, e⟩ := List.any_eq_true.mp h
  rw [sEq_ok e]
  exact hy
def tyOf (x : Str) : Option Ty :=
  if sEq x "int" then some .int else if sEq x "bool" then some .bool else if sEq x "str" then some .str else if sEq x "tuple" then some .tuple else if sEq x "list" then some .list else none
theorem tyOf_ok {x : Str} {T : Ty} (h : tyOf x = some T) : bootBuiltins x = some (.type (tyN T)) := by
  unfold tyOf at h
  repeat (split at h; rename_i q; (cases h; rw [sEq_ok q]; rfl))
  cases h
/-! ### the blocks of comprehensions -/
def isOwn : NameKind → Bool
  | .local => true
  | .cell => true
  | _ => false
def ownOf (N : List Str) : List (Str × NameKind) → List (Str × Nat)
  | [] => []
  | y :: r => if isOwn y.2 then match ixOf y.1 N with
      | some i => (y.1, i) :: ownOf N r
      | none => ownOf N r
    else ownOf N r
def fnKind : ScopeKind → Bool
  | .function => true
  | _ => false
def blkOk (N : List Str) (sc scope : Scope) : Bool := fnKind scope.kind && (scope.names.all fun y => decide (lk y.1 scope.names = some y.2)) && scope.names.all fun y => decide (y.2 = .free) == false || (decide (lk y.1 sc.names = some .cell) || decide (lk y.1 sc.names = some .free))
theorem ixOf_none {x : Str} : ∀ {l}, ixOf x l = none → x ∉ l
  | [], _, m => nomatch m
  | y :: ys, h, m => by
    unfold ixOf at h
    by_cases q : sEq x y = true
    · rw [if_pos q] at h; cases h
    · rw [if_neg q] at h
      rcases List.mem_cons.mp m with e | m
      · rw [e, sEq_self] at q; exact q rfl
      · exact ixOf_none (Option.map_eq_none_iff.mp h) m
theorem ownOf_ix {N : List Str} : ∀ {l : List (Str × NameKind)} {p : Str × Nat}, p ∈ ownOf N l → N[p.2]? = some p.1
  | [], _, m => nomatch m
  | y :: r, p, m => by
    unfold ownOf at m
    split at m
    · split at m
      · rename_i i h
        rcases List.mem_cons.mp m with rfl | m
        · exact ixOf_ok h
        · exact ownOf_ix m
      · exact ownOf_ix m
    · exact ownOf_ix m
theorem ownOf_own {N : List Str} : ∀ {l : List (Str × NameKind)} {y : Str × NameKind}, y ∈ l → isOwn y.2 = true → y.1 ∈ (ownOf N l).map (·.1) ∨ y.1 ∉ N
  | [], _, m, _ => nomatch m
  | z :: r, y, m, h => by
    unfold ownOf
    rcases List.mem_cons.mp m with rfl | m
    · rw [if_pos h]
      split
      · exact .inl List.mem_cons_self
      · rename_i e; exact .inr (ixOf_none e)
    · rcases ownOf_own (N := N) m h with q | q
      · refine .inl ?_
        split
        · split
          · exact List.mem_cons_of_mem _ q
          · exact q
        · exact q
      · exact .inr q
theorem blkOk_ok {N : List Str} {sc scope : Scope} (h : blkOk N sc scope = true) : BlkOk N sc scope (ownOf N scope.names) := by
  unfold blkOk at h
  simp only [Bool.and_eq_true] at h
  obtain ⟨⟨h1, h2⟩, h3⟩ := h
  refine ⟨?_, fun y m => ?_, fun p m => ownOf_ix m, fun y m e => ?_, fun y m e => ownOf_own m ?_⟩
  · cases q : scope.kind <;> rw [q] at h1 <;> first | rfl | cases h1
  · have := List.all_eq_true.mp h2 y m
    rw [← lk_eq]
    exact of_decide_eq_true this
  · have := List.all_eq_true.mp h3 y m
    rw [decide_eq_true e] at this
    simp only [Bool.or_eq_true] at this
    rw [← lk_eq]
    rcases this with z | z | z
    · cases z
    · exact .inl (of_decide_eq_true z)
    · exact .inr (of_decide_eq_true z)
  · rcases e with e | e <;> rw [e] <;> rfl
end CC

namespace CC
open PySem PySem.Spec PyProof.Rows L2
abbrev GoodB (Φ : Nat → Spec) (c : Cfg) (X : Cx) : Prop := Good Φ blt c X
/-- a comprehension as the value of an assignment -/
def LcP (Φ : Nat → Spec) (c : Cfg) (e : Expr) (n : Bool) (i : Ex) : Prop := ∀ X, GoodB Φ c X → ∀ (y : Str) (py spos : Pos) (j : Nat), X.N[j]? = some y → List.lookup y X.env.scope.names = some .local → swapsWith e (some (.Name y py)) spos.line X.env = pure true → PS X (.Assign [.Name y py] e spos) (tAsg (tE X.K n (i.sem Φ)) (gName j))
section
variable (Φ : Nat → Spec)
structure CE (c : Cfg) (e : Expr) where
  i : Ex
  n : Bool
  ok : ∀ X, GoodB Φ c X → PE X e (tE X.K n (i.sem Φ))
  lc : isLc e = true → LcP Φ c e n i
structure CL (c : Cfg) (es : List Expr) where
  i : Exs
  ok : ∀ X, GoodB Φ c X → PA X es (tL X.K i.len (i.sem Φ))
structure CA (c : Cfg) (es : List Expr) where
  i : Exs
  ok : ∀ X, GoodB Φ c X → PA X es (tA X.K (i.asem Φ))
structure CT (c : Cfg) (e : Expr) where
  i : Ts
  ok : ∀ X, GoodB Φ c X → PT X e (tT X.K (i.sem Φ))
structure CW (c : Cfg) (e : Expr) where
  i : Ts
  ok : ∀ X, GoodB Φ c X → PW X e (tT X.K (i.sem Φ))
structure CTs (c : Cfg) (es : List Expr) where
  i : Ts
  ok : ∀ X, GoodB Φ c X → PTs X es (tT X.K (i.sem Φ))
structure CI (c : Cfg) (tg e : Expr) where
  i : It
  ok : ∀ X, GoodB Φ c X → PI X tg e (tI X.K (i.sem Φ))
end
structure CG (c : Cfg) (e : Expr) where
  p : Pt
  ok : ∀ (Φ : Nat → Spec) X, GoodB Φ c X → PG X e (tG X.K p)
structure CGn (c : Cfg) (es : List Expr) where
  is : List Nat
  ok : ∀ (Φ : Nat → Spec) X, GoodB Φ c X → PGs X es (gNames is)
  len : ∀ env, (assignEach es env).length = is.length
  st : ∀ env, (assignEach es env).findIdx? (·.1) = none
/-! ### targets -/
def isNm : Expr → Bool
  | .Name _ _ => true
  | _ => false
theorem isNm_star {e : Expr} (h : isNm e = true) : isStar e = false := by cases e <;> first | rfl | cases h
def compN (c : Cfg) : (e : Expr) → Option { p : Nat // ∀ (Φ : Nat → Spec) X, GoodB Φ c X → PG X e (gName p) }
  | .Name x pos => match h : slotT c x with
    | some (i, b) => some ⟨i, fun Φ X G => pg_name G.nd' (by rw [G.N]; exact (slotT_ok h).1) (by rw [G.sc]; exact (slotT_ok h).2.1) ((slotT_ok h).2.2.1.imp (G.cel x) fun e => by rw [G.sc]; exact e)⟩
    | none => none
  | _ => none
def compGn (c : Cfg) : (es : List Expr) → Option (CGn c es)
  | [] => some ⟨[], fun _ _ _ => g_nil, fun _ => rfl, fun _ => rfl⟩
  | e :: es => match compN c e with
    | none => none
    | some a => match compGn c es with
      | none => none
      | some b => if h : isStar e = false then some ⟨a.1 :: b.is, fun Φ X G => g_cons (a.2 Φ X G) (b.ok Φ X G) (by rw [star_asg h]; rfl), fun env => by rw [star_asg h, List.length_cons, List.length_cons, b.len env], fun env => by
          rw [star_asg h, List.findIdx?_cons, b.st env]; rfl⟩ else none
def compT1 (c : Cfg) : (e : Expr) → Option { is : List Nat // ∀ (Φ : Nat → Spec) X, GoodB Φ c X → PG X e (tG X.K (.tp is)) }
  | .Tuple es k pos => match compGn c es with
    | none => none
    | some b => some ⟨b.is, fun Φ X G => g_tup G.calm (b.ok Φ X G) (b.len _) (b.st _)⟩
  | _ => none
def compG (c : Cfg) : (e : Expr) → Option (CG c e)
  | .Name x pos => (compN c (.Name x pos)).map fun a => ⟨.nm a.1, fun Φ X G => g_name (a.2 Φ X G)⟩
  | .Tuple [.Tuple e1 k1 p1, .Tuple e2 k2 p2] k pos => match compT1 c (.Tuple e1 k1 p1), compT1 c (.Tuple e2 k2 p2) with
    | some a, some b => some ⟨.tp2 a.1 b.1, fun Φ X G => g_tup2 G.calm (a.2 Φ X G) (b.2 Φ X G) rfl rfl rfl rfl⟩
    | _, _ => none
  | .Tuple es k pos => (compT1 c (.Tuple es k pos)).map fun a => ⟨.tp a.1, a.2⟩
  | _ => none
/-! ### expressions -/
section
variable {Φ : Nat → Spec} {c : Cfg}
theorem ok_v {x : Str} {pos : Pos} {i : Nat} (h : slotV c x = some i) (X : Cx) (G : GoodB Φ c X) : PE X (.Name x pos) (tE X.K false ((Ex.v i).sem Φ)) := s_v (G.slot h).1 (G.slot h).2 (goodN_ok (slotV_ok h).2.2).1 (goodN_ok (slotV_ok h).2.2).2.1
theorem ok_co {x : Str} {pos : Pos} {p : Str × D} (h : c.co.find? (fun q => sEq x q.1) = some p) (hg : isGl c x = true) (X : Cx) (G : GoodB Φ c X) : PE X (.Name x pos) (tE X.K false ((Ex.k p.2).sem Φ)) := by
  obtain ⟨v, u, h1, h2, h3, h4⟩ := G.co p (List.mem_of_find?_eq_some h)
  have hx := List.find?_some h
  rw [← sEq_ok (x := x) (y := p.1) (by simpa using hx)] at h1
  exact s_glob (G.gl hg) h1 h2 h3 h4.1 (goodN_ok (isGl_ok hg).2).1
theorem ok_bin {op : Operator} {o : Ar} {a b : Expr} {pos : Pos} (h : arOf op = some o) (A : CE Φ c a) (B : CE Φ c b) (X : Cx) (G : GoodB Φ c X) : PE X (.BinOp a op b pos) (tE X.K true ((Ex.bin o A.i B.i).sem Φ)) := by
  obtain ⟨r, h1, h2⟩ := ar_ok (X := X) h
  exact s_bin h1 h2 (A.ok X G) (B.ok X G)
theorem ok_cmp {op : CmpOp} {o : Cm} {a b : Expr} {pos : Pos} (h : cmOf op = some o) (A : CE Φ c a) (B : CE Φ c b) (hs : isSet b = false) (X : Cx) (G : GoodB Φ c X) : PE X (.Compare a [op] [b] pos) (tE X.K false ((Ex.cmp o A.i B.i).sem Φ)) := by
  obtain ⟨r, h1, h2⟩ := cm_ok G.un h
  exact s_cmp h1 h2 (A.ok X G) (B.ok X G) (no_marks hs)
theorem ok_tcmp {op : CmpOp} {o : Cm} {a b : Expr} {pos : Pos} (h : cmOf op = some o) (A : CE Φ c a) (B : CE Φ c b) (hs : isSet b = false) (X : Cx) (G : GoodB Φ c X) : PT X (.Compare a [op] [b] pos) (tT X.K ((Ts.of (.cmp o A.i B.i)).sem Φ)) := by
  obtain ⟨r, h1, h2⟩ := cm_ok G.un h
  exact s_tcmp h1 h2 (cm_B o) (A.ok X G) (B.ok X G) (no_marks hs)
theorem ok_chn {op op' : CmpOp} {o o' : Cm} {a b d : Expr} {pos : Pos} (h : cmOf op = some o) (h' : cmOf op' = some o') (A : CE Φ c a) (B : CE Φ c b) (C : CE Φ c d) (hs : isSet d = false) (X : Cx) (G : GoodB Φ c X) : PE X (.Compare a [op, op'] [b, d] pos) (tE X.K false ((Ex.chn o o' A.i B.i C.i).sem Φ)) := by
  obtain ⟨r, h1, h2⟩ := cm_ok G.un h
  obtain ⟨r', h1', h2'⟩ := cm_ok G.un h'
  exact s_chn h1 h1' h2 h2' (cm_B o) (A.ok X G) (B.ok X G) (C.ok X G) (no_last hs)
theorem ok_tchn {op op' : CmpOp} {o o' : Cm} {a b d : Expr} {pos : Pos} (h : cmOf op = some o) (h' : cmOf op' = some o') (A : CE Φ c a) (B : CE Φ c b) (C : CE Φ c d) (hs : isSet d = false) (X : Cx) (G : GoodB Φ c X) : PT X (.Compare a [op, op'] [b, d] pos) (tT X.K ((Ts.of (.chn o o' A.i B.i C.i)).sem Φ)) := by
  obtain ⟨r, h1, h2⟩ := cm_ok G.un h
  obtain ⟨r', h1', h2'⟩ := cm_ok G.un h'
  exact s_tchn h1 h1' h2 h2' (cm_B o) (cm_B o') (A.ok X G) (B.ok X G) (C.ok X G) (no_last hs)
theorem ok_bi {x : Str} {b : BiR} {e : Expr} {es : List Expr} {p pos : Pos} (A : CL Φ c (e :: es)) (h : biOf x (e :: es).length = some b) (hb : isBl x = true) (hg : isGl c x = true) (h1 : isStar e = false) (h2 : es.all (fun a => !isStar a) = true) (X : Cx) (G : GoodB Φ c X) :
    PE X (.Call (.Name x p) (e :: es) [] pos) (tE X.K b.n ((Ex.bi b.b A.i).sem Φ)) := by
  obtain ⟨rfl, hk⟩ := biOf_ok h
  obtain ⟨g1, _, g3⟩ := goodN_ok (isGl_ok hg).2
  rcases hk X G.calm G.un with ⟨id, r, e1, e2, e3⟩ | ⟨T, r, e1, e2, e3⟩
  · exact s_callB e2 e3 (G.gl hg) (G.bl _ (isBl_ok hb)) e1 (A.ok X G) g3 g1 (star_cons h1) (star_any h2)
  · exact s_callTy e2 e3 (G.gl hg) (G.bl _ (isBl_ok hb)) e1 (A.ok X G) g3 g1 (star_cons h1) (star_any h2)
theorem ok_isi {x y : Str} {T : Ty} {a : Expr} {p q pos : Pos} (A : CE Φ c a) (hx : sEq x "isinstance" = true) (hT : tyOf y = some T) (hb : isBl y = true) (hg : isGl c x = true) (hgT : isGl c y = true) (h1 : isStar a = false) (X : Cx) (G : GoodB Φ c X) :
    PE X (.Call (.Name x p) [a, .Name y q] [] pos) (tE X.K false ((Ex.isi A.i T).sem Φ)) := by
  obtain rfl := sEq_ok hx
  obtain ⟨g1, _, g3⟩ := goodN_ok (isGl_ok hgT).2
  exact s_isi (A.ok X G) (G.gl hg) (G.bl _ (by decide +kernel)) (G.gl hgT) (G.bl _ (isBl_ok hb)) (tyOf_ok hT) g3 g1 (star_cons h1)
theorem ok_call {x : Str} {f : FnI} {e : Expr} {es : List Expr} {p pos : Pos} (A : CA Φ c (e :: es)) (h : c.fs.find? (fun p => sEq x p.x) = some f) (hg : isGl c x = true) (h1 : isStar e = false) (h2 : es.all (fun a => !isStar a) = true) (X : Cx) (G : GoodB Φ c X) :
    PE X (.Call (.Name x p) (e :: es) [] pos) (tE X.K f.fr ((Ex.call f.ix A.i).sem Φ)) := by
  obtain ⟨k, fa, fd, ps, e1, e2, e3, e4, e5, e6⟩ := G.fs f (List.mem_of_find?_eq_some h)
  have hx := List.find?_some h
  obtain rfl := sEq_ok (by simpa using hx)
  cases q : f.fr with
  | true => rw [q] at e1; exact s_callN e1 e2 (G.gl hg) e3 e4 e5 (A.ok X G) (goodN_ok (isGl_ok hg).2).1 (star_cons h1) (star_any h2)
  | false => rw [q] at e1; exact s_call e1 e2 (G.gl hg) e3 e4 e5 (A.ok X G) (goodN_ok (isGl_ok hg).2).1 (star_cons h1) (star_any h2)
def Exs.snoc : Exs → Ex → Exs
  | .nil, x => .cons x .nil
  | .cons e es, x => .cons e (es.snoc x)
theorem asem_snoc {d : D} : ∀ (es : Exs) (ρ : SEnv) (Q : List Arg → Prop), (es.snoc (.k d)).asem Φ ρ Q = es.asem Φ ρ fun as => Q (as ++ [.dat d])
  | .nil, _, _ => rfl
  | .cons e es, ρ, Q => by cases e <;> simp only [Exs.snoc, Exs.asem, asem_snoc es, List.cons_append]
theorem ok_callD {x : Str} {f : FnI} {j : Int} {e : Expr} {es : List Expr} {p pos : Pos} (A : CA Φ c (e :: es)) (h : c.fs.find? (fun p => sEq x p.x) = some f) (hd : f.df = some j) (hn : f.fr = false) (hg : isGl c x = true) (h1 : isStar e = false) (h2 : es.all (fun a => !isStar a) = true) (X : Cx) (G : GoodB Φ c X) :
    PE X (.Call (.Name x p) (e :: es) [] pos) (tE X.K false ((Ex.call f.ix (A.i.snoc (.k (.int j)))).sem Φ)) := by
  obtain ⟨k, fa, fd, ps, e1, e2, e3, e4, e5, e6⟩ := G.fs f (List.mem_of_find?_eq_some h)
  have hx := List.find?_some h
  obtain rfl := sEq_ok (by simpa using hx)
  obtain ⟨t, e6⟩ := e6 j hd
  rw [hn] at e1
  have := s_callD (pos := pos) e1 e2 (G.gl hg) e3 e4 e6 (A.ok X G) (goodN_ok (isGl_ok hg).2).1 (star_cons h1) (star_any h2) (p := p)
  refine PEi this fun σ H Q q => ?_
  obtain ⟨W0, ρ, Qd, E, q, k⟩ := q
  refine ⟨W0, ρ, Qd, E, ?_, k⟩
  rw [Ex.sem, asem_snoc] at q
  exact q
theorem ok_call0 {x : Str} {f : FnI} {p pos : Pos} (hn : f.fr = false) (h : c.fs.find? (fun p => sEq x p.x) = some f) (hg : isGl c x = true) (X : Cx) (G : GoodB Φ c X) :
    PE X (.Call (.Name x p) [] [] pos) (tE X.K false ((Ex.call f.ix .nil).sem Φ)) := by
  obtain ⟨k, fa, fd, ps, e1, e2, e3, e4, e5, e6⟩ := G.fs f (List.mem_of_find?_eq_some h)
  have hx := List.find?_some h
  obtain rfl := sEq_ok (by simpa using hx)
  rw [hn] at e1
  refine PEi (s_call0 e1 e2 (G.gl hg) e3 e4 e5 (goodN_ok (isGl_ok hg).2).1) fun σ H Q q => ?_
  obtain ⟨W0, ρ, Qd, E, q, k⟩ := q
  exact ⟨W0, ρ, Qd, E, q.2, k⟩
def meOf (n : Str) : Option Me := if sEq n "join" then some .join else if sEq n "split" then some .split else if sEq n "get" then some .get else none
theorem meOf_ok {n : Str} {m : Me} (h : meOf n = some m) : n = meN m := by
  unfold meOf at h
  repeat (split at h; rename_i q; (cases h; exact sEq_ok q))
  cases h
def metOk (o e : Expr) (es : List Expr) (apos cpos : Pos) : Bool := !isCallE o && (!isStar e && (es.all (fun a => !isStar a) && ((apos.endLine == cpos.line) && decide (es.length < 20))))
theorem ok_met {M : Me} {n : Str} {o e : Expr} {es : List Expr} {apos cpos : Pos} (hn : meOf n = some M) (O : CE Φ c o) (A : CL Φ c (e :: es)) (h : metOk o e es apos cpos = true) (X : Cx) (G : GoodB Φ c X) : PE X (.Call (.Attribute o n apos) (e :: es) [] cpos) (tE X.K (meF M) ((Ex.met M O.i A.i).sem Φ)) := by
  unfold metOk at h
  simp only [Bool.and_eq_true, Bool.not_eq_true'] at h
  obtain ⟨h1, h2, h3, h4, h5⟩ := h
  have h5 := of_decide_eq_true h5
  refine s_met (meOf_ok hn) (O.ok X G) (A.ok X G) (base_ok h1) ?_ h4 (star_cons h2) (star_any h3)
  rw [star_all (by rw [List.all_cons, h2, h3]; rfl)]
  show (true && true && decide ((e :: es).length + 0 + 0 < 30)) = true
  rw [decide_eq_true (by rw [List.length_cons]; omega)]; rfl
def isTupD : (d : D) → Option { ds : List D // d = .tuple ds }
  | .tuple ds => some ⟨ds, rfl⟩
  | _ => none
theorem ok_kix {x n : Str} {pos apos cpos : Pos} {e : Expr} {p : Str × D} {ds : List D} (hn : sEq n "index" = true) (h : c.co.find? (fun q => sEq x q.1) = some p) (hd : p.2 = .tuple ds) (hg : isGl c x = true) (A : CE Φ c e) (hm : metOk (.Name x pos) e [] apos cpos = true) (X : Cx) (G : GoodB Φ c X) : PE X (.Call (.Attribute (.Name x pos) n apos) [e] [] cpos) (tE X.K false ((Ex.kix ds A.i).sem Φ)) := by
  obtain rfl := sEq_ok hn
  obtain ⟨v, u, g1, g2, g3, g4⟩ := G.co p (List.mem_of_find?_eq_some h)
  have hx := List.find?_some h
  rw [← sEq_ok (x := x) (y := p.1) (by simpa using hx)] at g1
  rw [hd] at g3 g4
  unfold metOk at hm
  simp only [Bool.and_eq_true, Bool.not_eq_true'] at hm
  obtain ⟨h1, h2, h3, h4, h5⟩ := hm
  refine s_kix (v := v) (pe_glob (G.gl hg) g1 g2 (goodN_ok (isGl_ok hg).2).1) g3 (g4.2 ds rfl) (A.ok X G) (base_ok h1) ?_ h4 (star_cons h2) (star_any h3)
  rw [star_all (by rw [List.all_cons, h2, h3]; rfl)]
  rfl
def compKV : (keys : List (Option Expr)) → (vals : List Expr) → Option { ks : List (Str × Int) // ∀ (X : Cx) (pos : Pos), PPs X pos keys vals (ks.map fun p => (tC (V.str p.1), tC (V.int p.2))) }
  | [], [] => some ⟨[], fun X pos => pps_nil⟩
  | some (.Constant (.str x) j1 p1) :: ks, .Constant (.int n) j2 p2 :: vs => match compKV ks vs with
    | some B => some ⟨(x, n) :: B.1, fun X pos => pps_cons pe_str pe_int (B.2 X pos)⟩
    | none => none
  | _, _ => none
def dsubOk (keys : List (Option Expr)) (vals : List Expr) (n : Nat) (e : Expr) : Bool := keys.all (·.isSome) && (decide (keys.length = vals.length) && (!keys.isEmpty && (decide (keys.length ≤ 15) && (decide (n ≤ 15) && !isSlice e))))
theorem ok_dsub {keys : List (Option Expr)} {vals : List Expr} {p1 pos : Pos} {e : Expr} (ks : { ks : List (Str × Int) // ∀ (X : Cx) (pos : Pos), PPs X pos keys vals (ks.map fun p => (tC (V.str p.1), tC (V.int p.2))) }) (A : CE Φ c e) (h : dsubOk keys vals ks.1.length e = true) (X : Cx) (G : GoodB Φ c X) :
    PE X (.Subscript (.Dict keys vals p1) e pos) (tE X.K false ((Ex.dsub ks.1 A.i).sem Φ)) := by
  unfold dsubOk at h
  simp only [Bool.and_eq_true, Bool.not_eq_true'] at h
  obtain ⟨h1, h2, h3, h4, h5, h6⟩ := h
  exact s_dsub (ks.2 X p1) h1 (of_decide_eq_true h2) (fun z => by rw [z] at h3; cases h3) (of_decide_eq_true h4) (of_decide_eq_true h5) (by have := G.un; omega) (A.ok X G) (plain_ix h6)
theorem ok_bx {x : Str} {px p2 pos : Pos} {i j k2 : Nat} (h : slotV c x = some i) (hj : j < 2) (X : Cx) (G : GoodB Φ c X) : PE X (.Subscript (.Name x px) (.Constant (.int (j : Int)) k2 p2) pos) (tE X.K false ((Ex.bx i j).sem Φ)) :=
  s_bx (G.slot h).1 (G.slot h).2 (goodN_ok (slotV_ok h).2.2).1 (goodN_ok (slotV_ok h).2.2).2.1 hj
def natI : Int → Option { n : Nat // n < 2 }
  | .ofNat 0 => some ⟨0, by decide⟩
  | .ofNat 1 => some ⟨1, by decide⟩
  | _ => none
theorem natI_ok {z : Int} {n : { n : Nat // n < 2 }} (h : natI z = some n) : z = (n.1 : Int) := by
  unfold natI at h
  split at h <;> cases h <;> rfl
/-- sorted(set(..)), list(range(..)), tuple(range(..)) -/
inductive Sp2 | sset | listR | tupleR
def sp2Of (x y : Str) : Option Sp2 := if sEq x "sorted" && sEq y "set" then some .sset else if sEq x "list" && sEq y "range" then some .listR else if sEq x "tuple" && sEq y "range" then some .tupleR else none
def sp2B : Sp2 → Bi
  | .sset => .ssetI
  | .listR => .listR
  | .tupleR => .tupleR
def sp2N : Sp2 → Bool
  | .tupleR => false
  | _ => true
theorem ok_sp2 {x y : Str} {t : Sp2} {e : Expr} {p p2 pos pos2 : Pos} (A : CE Φ c e) (h : sp2Of x y = some t) (hg : isGl c x = true) (hg2 : isGl c y = true) (h1 : isStar e = false) (X : Cx) (G : GoodB Φ c X) :
    PE X (.Call (.Name x p) [.Call (.Name y p2) [e] [] pos2] [] pos) (tE X.K (sp2N t) ((Ex.bi (sp2B t) (.cons A.i .nil)).sem Φ)) := by
  unfold sp2Of at h
  split at h
  · rename_i q
    cases h
    simp only [Bool.and_eq_true] at q
    obtain rfl := sEq_ok q.1
    obtain rfl := sEq_ok q.2
    exact s_sset G.calm (G.gl hg) (G.bl _ (by decide +kernel)) (G.gl hg2) (G.bl _ (by decide +kernel)) (s_cons (A.ok X G) s_nil (star_cons h1)) h1
  · split at h
    · rename_i q
      cases h
      simp only [Bool.and_eq_true] at q
      obtain rfl := sEq_ok q.1
      obtain rfl := sEq_ok q.2
      exact s_listR G.calm (G.gl hg) (G.bl _ (by decide +kernel)) (G.gl hg2) (G.bl _ (by decide +kernel)) (A.ok X G) h1
    · split at h
      · rename_i q
        cases h
        simp only [Bool.and_eq_true] at q
        obtain rfl := sEq_ok q.1
        obtain rfl := sEq_ok q.2
        exact s_tupleR G.calm (G.gl hg) (G.bl _ (by decide +kernel)) (G.gl hg2) (G.bl _ (by decide +kernel)) (A.ok X G) h1
      · cases h
/-- a call of these, if it is one -/
def spCall (rec : (e : Expr) → Option (CE Φ c e)) (x : Str) (p : Pos) : (e : Expr) → (es : List Expr) → (pos : Pos) → Option (CE Φ c (.Call (.Name x p) (e :: es) [] pos))
  | .Call (.Name y p2) [e] [] pos2, [], pos => match h : sp2Of x y, rec e with
    | some t, some A => if hg : isGl c x = true then if hg2 : isGl c y = true then if h1 : isStar e = false then
        some ⟨.bi (sp2B t) (.cons A.i .nil), sp2N t, fun X G => ok_sp2 A h hg hg2 h1 X G, fun z => nomatch z⟩ else none else none else none
    | _, _ => none
  | _, _, _ => none
end
end CC

namespace CC
open PySem PySem.Spec PyProof.Rows L2
section
variable {Φ : Nat → Spec} {c : Cfg}
theorem ids_ok {p : Pt} {own : List (Str × Nat)} (h : (p.ids.all fun i => own.any fun q => q.2 == i) = true) : ∀ i ∈ p.ids, i ∈ own.map (·.2) := fun i m => by
  have := List.all_eq_true.mp h i m
  obtain ⟨q, hq, e⟩ := List.any_eq_true.mp this
  exact List.mem_map.mpr ⟨q, hq, eq_of_beq e⟩
theorem ok_lc {tg iter elt : Expr} {ifs : List Expr} {scope : Scope} {pos : Pos} (it : CI Φ c tg iter) (g : CG (c.blk scope) tg) (ts : CTs Φ (c.blk scope) ifs) (el : CE Φ (c.blk scope) elt) (hb : blkOk c.N c.sc scope = true) (hi : (g.p.ids.all fun i => (ownOf c.N scope.names).any fun q => q.2 == i) = true) (hs : isSet iter = false) (X : Cx) (G : GoodB Φ c X) :
    PE X (.ListComp elt [⟨tg, iter, ifs, 0⟩] scope pos) (tE X.K true ((Ex.comp el.i g.p it.i ts.i ((ownOf c.N scope.names).map (·.2))).sem Φ)) :=
  s_comp G.calm G.nd' (it.ok X G) (by rw [G.N, G.sc]; exact blkOk_ok hb) (ids_ok hi) (fun s H C cl fp => g.ok Φ _ (G.blk scope s H C cl fp)) (fun s H C cl fp => ts.ok _ (G.blk scope s H C cl fp)) (fun s H C cl fp => el.ok _ (G.blk scope s H C cl fp)) (fun x => no_fold hs x)
theorem ok_slc {tg iter elt : Expr} {ifs : List Expr} {scope : Scope} {pos : Pos} (it : CI Φ c tg iter) (g : CG (c.blk scope) tg) (ts : CTs Φ (c.blk scope) ifs) (el : CE Φ (c.blk scope) elt) (hb : blkOk c.N c.sc scope = true) (hi : (g.p.ids.all fun i => (ownOf c.N scope.names).any fun q => q.2 == i) = true) (hs : isSet iter = false) :
    LcP Φ c (.ListComp elt [⟨tg, iter, ifs, 0⟩] scope pos) true (Ex.comp el.i g.p it.i ts.i ((ownOf c.N scope.names).map (·.2))) := fun X G y py spos j hj hl hw =>
  PSi (ps_setLc G.calm G.nd' hj hl hw (it.ok X G) (by rw [G.N, G.sc]; exact blkOk_ok hb) (fun s H C cl fp => g.ok Φ _ (G.blk scope s H C cl fp)) (fun s H C cl fp => ts.ok _ (G.blk scope s H C cl fp)) (fun s H C cl fp => el.ok _ (G.blk scope s H C cl fp)) (fun x => no_fold hs x)) fun D σ H q => lc_ent (ids_ok hi) σ H _ q
theorem ok_sl {a lo hi : Expr} {p2 pos : Pos} (A : CE Φ c a) (L : CE Φ c lo) (U : CE Φ c hi) (X : Cx) (G : GoodB Φ c X) : PE X (.Subscript a (.Slice (some lo) (some hi) none p2) pos) (tE X.K false ((Ex.sl A.i L.i U.i).sem Φ)) := s_sl (A.ok X G) (s_po (L.ok X G)) (s_po (U.ok X G))
theorem ok_sll {a lo : Expr} {p2 pos : Pos} (A : CE Φ c a) (L : CE Φ c lo) (X : Cx) (G : GoodB Φ c X) : PE X (.Subscript a (.Slice (some lo) none none p2) pos) (tE X.K false ((Ex.sll A.i L.i).sem Φ)) := s_sl (A.ok X G) (s_po (L.ok X G)) s_po_none
theorem ok_slh {a hi : Expr} {p2 pos : Pos} (A : CE Φ c a) (U : CE Φ c hi) (X : Cx) (G : GoodB Φ c X) : PE X (.Subscript a (.Slice none (some hi) none p2) pos) (tE X.K false ((Ex.slh A.i U.i).sem Φ)) := s_sl (A.ok X G) s_po_none (s_po (U.ok X G))
def isLst : Expr → Bool
  | .List _ _ => true
  | _ => false
def isV : Ex → Bool
  | .v _ => true
  | _ => false
theorem ok_acell {x : Str} {pos : Pos} {i : Nat} {es : List Expr} (h : slotV c x = some i) (B : CA Φ c es) (X : Cx) (G : GoodB Φ c X) : PA X (.Name x pos :: es) (tA X.K ((Exs.cons (.v i) B.i).asem Φ)) :=
  s_acell (G.slot h).1 (G.slot h).2 (goodN_ok (slotV_ok h).2.2).1 (goodN_ok (slotV_ok h).2.2).2.1 (B.ok X G) rfl
theorem ok_acons {e : Expr} {es : List Expr} (A : CE Φ c e) (B : CA Φ c es) (hv : isV A.i = false) (h : isStar e = false) (X : Cx) (G : GoodB Φ c X) : PA X (e :: es) (tA X.K ((Exs.cons A.i B.i).asem Φ)) := by
  refine PAi (s_acons (A.ok X G) (B.ok X G) (star_cons h)) fun σ H Q q => ?_
  obtain ⟨W0, ρ, Qd, E, q, k⟩ := q
  refine ⟨W0, ρ, Qd, E, ?_, k⟩
  cases e : A.i <;> rw [e] at q hv <;> first | exact q | cases hv
theorem ok_rng1 {x : Str} {a tg : Expr} {p pos : Pos} (A : CE Φ c a) (hx : isStar a = false ∧ isGl c x = true ∧ sEq x "range" = true) (X : Cx) (G : GoodB Φ c X) : PI X tg (.Call (.Name x p) [a] [] pos) (tI X.K ((It.rng1 A.i).sem Φ)) := by
  obtain ⟨h1, h2, h3⟩ := hx
  obtain rfl := sEq_ok h3
  exact i_rng1 (G.gl h2) (G.bl _ (by decide +kernel)) (A.ok X G) (star_cons h1) (star_cons h1)
theorem ok_rng2 {x : Str} {a b tg : Expr} {p pos : Pos} (A : CE Φ c a) (B : CE Φ c b) (hx : isStar a = false ∧ isStar b = false ∧ isGl c x = true ∧ sEq x "range" = true) (X : Cx) (G : GoodB Φ c X) : PI X tg (.Call (.Name x p) [a, b] [] pos) (tI X.K ((It.rng2 A.i B.i).sem Φ)) := by
  obtain ⟨h0, h1, h2, h3⟩ := hx
  obtain rfl := sEq_ok h3
  have e2 : starEach [b] X.env = [(false, eval b X.env)] := star_cons h1
  exact i_rng2 (G.gl h2) (G.bl _ (by decide +kernel)) (A.ok X G) (B.ok X G) (star_cons h0) (star_cons h1) (by rw [star_cons h0, e2]) e2
theorem ok_enum {x : Str} {a : Expr} {es : List Expr} {k : Nat} {tp p pos : Pos} (A : CE Φ c a) (hx : isStar a = false ∧ isGl c x = true ∧ sEq x "enumerate" = true) (X : Cx) (G : GoodB Φ c X) : PI X (.Tuple es k tp) (.Call (.Name x p) [a] [] pos) (tI X.K ((It.enum A.i).sem Φ)) := by
  obtain ⟨h1, h2, h3⟩ := hx
  obtain rfl := sEq_ok h3
  exact i_enum (G.gl h2) (G.bl _ (by decide +kernel)) (A.ok X G) (star_cons h1) (star_cons h1)
theorem ok_zip {x : Str} {a b : Expr} {es : List Expr} {k : Nat} {tp p pos : Pos} (A : CE Φ c a) (B : CE Φ c b) (hx : isStar a = false ∧ isStar b = false ∧ isGl c x = true ∧ sEq x "zip" = true) (X : Cx) (G : GoodB Φ c X) : PI X (.Tuple es k tp) (.Call (.Name x p) [a, b] [] pos) (tI X.K ((It.zip A.i B.i).sem Φ)) := by
  obtain ⟨h0, h1, h2, h3⟩ := hx
  obtain rfl := sEq_ok h3
  exact i_zip (G.gl h2) (G.bl _ (by decide +kernel)) (A.ok X G) (B.ok X G) (star_cons h0) (star_cons h1) (star_any (by simp [h1]))
end
section
variable (Φ : Nat → Spec)
mutual
def compE : Nat → (c : Cfg) → (e : Expr) → Option (CE Φ c e)
  | 0, _, _ => none
  | n + 1, c, .Name x pos => match h : slotV c x with
    | some i => some ⟨.v i, false, fun X G => ok_v h X G, fun z => nomatch z⟩
    | none => match h : c.co.find? (fun q => sEq x q.1) with
      | some p => if hg : isGl c x = true then some ⟨.k p.2, false, fun X G => ok_co h hg X G, fun z => nomatch z⟩ else none
      | none => none
  | n + 1, c, .Constant (.int i) j pos => some ⟨.k (.int i), false, fun X _ => s_int, fun z => nomatch z⟩
  | n + 1, c, .Constant (.bool i) j pos => some ⟨.k (.bool i), false, fun X _ => s_bool, fun z => nomatch z⟩
  | n + 1, c, .Constant .none j pos => some ⟨.k .none, false, fun X _ => s_none, fun z => nomatch z⟩
  | n + 1, c, .Constant (.str i) j pos => some ⟨.k (.str i), false, fun X _ => s_str, fun z => nomatch z⟩
  | n + 1, c, .Tuple es k pos => match compLs n c es with
    | some A => if h : A.i.len ≤ 1000 then some ⟨.tup A.i, false, fun X G => s_tup (A.ok X G) h, fun z => nomatch z⟩ else none
    | none => none
  | n + 1, c, .List es pos => match compLs n c es with
    | some A => if h : A.i.len ≤ 1000 then some ⟨.lst A.i, true, fun X G => s_lst (A.ok X G) h, fun z => nomatch z⟩ else none
    | none => none
  | n + 1, c, .BinOp a op b pos => match compE n c a, compE n c b with
    | some A, some B => match op with
      | .Mult => if h : A.n = true ∧ isLst a = true then some ⟨.rep A.i B.i, true, fun X G => s_rep (by have := A.ok X G; rw [h.1] at this; exact this) (B.ok X G), fun z => nomatch z⟩ else some ⟨.bin .mul A.i B.i, true, fun X G => ok_bin rfl A B X G, fun z => nomatch z⟩
      | op => match h : arOf op with
        | some o => some ⟨.bin o A.i B.i, true, fun X G => ok_bin h A B X G, fun z => nomatch z⟩
        | none => none
    | _, _ => none
  | n + 1, c, .UnaryOp .USub a pos => match compE n c a with
    | some A => some ⟨.neg A.i, false, fun X G => s_neg (A.ok X G), fun z => nomatch z⟩
    | none => none
  | n + 1, c, .UnaryOp .Not a pos => match compE n c a with
    | some A => some ⟨.not A.i, false, fun X G => s_not (A.ok X G), fun z => nomatch z⟩
    | none => none
  | n + 1, c, .Compare a [op] [b] pos => match compE n c a, compE n c b, h : cmOf op with
    | some A, some B, some o => if hs : isSet b = false then some ⟨.cmp o A.i B.i, false, fun X G => ok_cmp h A B hs X G, fun z => nomatch z⟩ else none
    | _, _, _ => none
  | n + 1, c, .Compare a [op, op'] [b, d] pos => match compE n c a, compE n c b, compE n c d, h : cmOf op, h' : cmOf op' with
    | some A, some B, some C, some o, some o' => if hs : isSet d = false then some ⟨.chn o o' A.i B.i C.i, false, fun X G => ok_chn h h' A B C hs X G, fun z => nomatch z⟩ else none
    | _, _, _, _, _ => none
  | n + 1, c, .BoolOp .And (a :: b :: r) pos => match compE n c a, compE n c (.BoolOp .And (b :: r) pos) with
    | some A, some B => some ⟨.and A.i B.i, false, fun X G => s_and (A.ok X G) (B.ok X G), fun z => nomatch z⟩
    | _, _ => none
  | n + 1, c, .BoolOp .Or (a :: b :: r) pos => match compE n c a, compE n c (.BoolOp .Or (b :: r) pos) with
    | some A, some B => some ⟨.or A.i B.i, false, fun X G => s_or (A.ok X G) (B.ok X G), fun z => nomatch z⟩
    | _, _ => none
  | n + 1, c, .BoolOp op [a] pos => match compE n c a with
    | some A => some ⟨A.i, A.n, fun X G => s_and1 (A.ok X G), fun z => nomatch z⟩
    | none => none
  | n + 1, c, .IfExp t a b pos => match compT n c t, compE n c a, compE n c b with
    | some T, some A, some B => some ⟨.ite T.i A.i B.i, A.n && B.n, fun X G => s_ite (T.ok X G) (A.ok X G) (B.ok X G), fun z => nomatch z⟩
    | _, _, _ => none
  | n + 1, c, .Subscript a (.Slice (some lo) (some hi) none p2) pos => match compE n c a, compE n c lo, compE n c hi with
    | some A, some L, some U => some ⟨.sl A.i L.i U.i, false, fun X G => ok_sl A L U X G, fun z => nomatch z⟩
    | _, _, _ => none
  | n + 1, c, .Subscript a (.Slice (some lo) none none p2) pos => match compE n c a, compE n c lo with
    | some A, some L => some ⟨.sll A.i L.i, false, fun X G => ok_sll A L X G, fun z => nomatch z⟩
    | _, _ => none
  | n + 1, c, .Subscript a (.Slice none (some hi) none p2) pos => match compE n c a, compE n c hi with
    | some A, some U => some ⟨.slh A.i U.i, false, fun X G => ok_slh A U X G, fun z => nomatch z⟩
    | _, _ => none
  | n + 1, c, .Subscript e (.Slice none none (some (.UnaryOp .USub (.Constant (.int z) k q1) q2)) q3) pos => match compE n c e with
    | some A => if hz : z = 1 then some ⟨.rev A.i, false, fun X G => by subst hz; exact s_rev (A.ok X G), fun z => nomatch z⟩ else none
    | none => none
  | n + 1, c, .Subscript (.Dict keys vals p1) e pos => match compKV keys vals, compE n c e with
    | some ks, some A => if h : dsubOk keys vals ks.1.length e = true then some ⟨.dsub ks.1 A.i, false, fun X G => ok_dsub ks A h X G, fun z => nomatch z⟩ else none
    | _, _ => none
  | n + 1, c, .Call (.Attribute (.Name x p) m apos) [e] [] cpos => match h : c.co.find? (fun q => sEq x q.1) with
    | some q => match hd : isTupD q.2, compE n c e with
      | some ds, some A => if hm : sEq m "index" = true then if hg : isGl c x = true then if hk : metOk (.Name x p) e [] apos cpos = true then some ⟨.kix ds.1 A.i, false, fun X G => ok_kix hm h ds.2 hg A hk X G, fun z => nomatch z⟩ else none else none else none
      | _, _ => none
    | none => match hm : meOf m, compE n c (.Name x p), compLs n c [e] with
      | some M, some O, some A => if h : metOk (.Name x p) e [] apos cpos = true then some ⟨.met M O.i A.i, meF M, fun X G => ok_met hm O A h X G, fun z => nomatch z⟩ else none
      | _, _, _ => none
  | n + 1, c, .Call (.Attribute o m apos) (e :: es) [] cpos => match hm : meOf m, compE n c o, compLs n c (e :: es) with
    | some M, some O, some A => if h : metOk o e es apos cpos = true then some ⟨.met M O.i A.i, meF M, fun X G => ok_met hm O A h X G, fun z => nomatch z⟩ else none
    | _, _, _ => none
  | n + 1, c, .Subscript (.Name x px) (.Constant (.int z) k2 p2) pos => match h : slotV c x, hz : natI z with
    | some i, some j => if c.bags.contains i then some ⟨.bx i j.1, false, fun X G => by rw [natI_ok hz]; exact ok_bx h j.2 X G, fun z => nomatch z⟩ else match compE n c (.Name x px) with
      | some A => some ⟨.ix A.i (.k (.int z)), false, fun X G => s_ix (A.ok X G) s_int (plain_ix rfl), fun z => nomatch z⟩
      | none => none
    | _, _ => match compE n c (.Name x px) with
      | some A => some ⟨.ix A.i (.k (.int z)), false, fun X G => s_ix (A.ok X G) s_int (plain_ix rfl), fun z => nomatch z⟩
      | none => none
  | n + 1, c, .Subscript a b pos => match compE n c a, compE n c b with
    | some A, some B => if h : isSlice b = false then some ⟨.ix A.i B.i, false, fun X G => s_ix (A.ok X G) (B.ok X G) (plain_ix h), fun z => nomatch z⟩ else none
    | _, _ => none
  | n + 1, c, .Call (.Name x p) [] [] pos => match h : c.fs.find? (fun q => sEq x q.x) with
    | some f => if hg : isGl c x = true then if hn : f.fr = false then some ⟨.call f.ix .nil, false, fun X G => ok_call0 hn h hg X G, fun z => nomatch z⟩ else none else none
    | none => none
  | n + 1, c, .Call (.Name x p) (e :: es) [] pos =>
    if hg : isGl c x = true then
    if h1 : isStar e = false then
    if h2 : es.all (fun a => !isStar a) = true then
    match h : c.fs.find? (fun q => sEq x q.x) with
    | some f => match compA n c (e :: es) with
      | none => none
      | some A => if es.length + 1 == f.np then some ⟨.call f.ix A.i, f.fr, fun X G => ok_call A h hg h1 h2 X G, fun z => nomatch z⟩
        else match hd : f.df with
        | none => none
        | some j => if es.length + 2 == f.np then if hn : f.fr = false then some ⟨.call f.ix (A.i.snoc (.k (.int j))), false, fun X G => ok_callD A h hd hn hg h1 h2 X G, fun z => nomatch z⟩ else none else none
    | none => match spCall (compE n c) x p e es pos with
     | some r => some r
     | none => match es with
      | [.Name y q] => if hx : sEq x "isinstance" = true then match hT : tyOf y, compE n c e with
          | some T, some A => if hb : isBl y = true then if hgT : isGl c y = true then some ⟨.isi A.i T, false, fun X G => ok_isi A hx hT hb hg hgT h1 X G, fun z => nomatch z⟩ else none else none
          | _, _ => none
        else match compLs n c [e, .Name y q], hb : biOf x 2 with
          | some A, some b => if hl : isBl x = true then some ⟨.bi b.b A.i, b.n, fun X G => ok_bi A hb hl hg h1 h2 X G, fun z => nomatch z⟩ else none
          | _, _ => none
      | es => match compLs n c (e :: es), hb : biOf x (e :: es).length with
          | some A, some b => if hl : isBl x = true then some ⟨.bi b.b A.i, b.n, fun X G => ok_bi A hb hl hg h1 h2 X G, fun z => nomatch z⟩ else none
          | _, _ => none
    else none else none else none
  | n + 1, c, .ListComp elt [⟨tg, iter, ifs, a⟩] scope pos => if h0 : a = 0 then match compI n c tg iter, compG (c.blk scope) tg, compTs n (c.blk scope) ifs, compE n (c.blk scope) elt with
    | some it, some g, some ts, some el => if hb : blkOk c.N c.sc scope = true then if hi : (g.p.ids.all fun i => (ownOf c.N scope.names).any fun q => q.2 == i) = true then if hs : isSet iter = false then
        some ⟨Ex.comp el.i g.p it.i ts.i ((ownOf c.N scope.names).map (·.2)), true, fun X G => h0 ▸ ok_lc it g ts el hb hi hs X G, fun _ => h0 ▸ ok_slc it g ts el hb hi hs⟩ else none else none else none
    | _, _, _, _ => none
    else none
  | _, _, _ => none
def compLs : Nat → (c : Cfg) → (es : List Expr) → Option (CL Φ c es)
  | 0, _, _ => none
  | n + 1, c, [] => some ⟨.nil, fun X _ => s_nil⟩
  | n + 1, c, e :: es => match compE n c e, compLs n c es with
    | some A, some B => if h : isStar e = false then some ⟨.cons A.i B.i, fun X G => s_cons (A.ok X G) (B.ok X G) (star_cons h)⟩ else none
    | _, _ => none
def compA : Nat → (c : Cfg) → (es : List Expr) → Option (CA Φ c es)
  | 0, _, _ => none
  | n + 1, c, [] => some ⟨.nil, fun X _ => s_anil⟩
  | n + 1, c, e :: es => match compA n c es with
    | none => none
    | some B => match e with
      | .Name x pos => match h : slotV c x with
        | some i => some ⟨.cons (.v i) B.i, fun X G => ok_acell h B X G⟩
        | none => match compE n c (.Name x pos) with
          | some A => if hv : isV A.i = false then some ⟨.cons A.i B.i, fun X G => ok_acons A B hv rfl X G⟩ else none
          | none => none
      | e => match compE n c e with
        | some A => if hv : isV A.i = false then if h : isStar e = false then some ⟨.cons A.i B.i, fun X G => ok_acons A B hv h X G⟩ else none else none
        | none => none
def compT : Nat → (c : Cfg) → (e : Expr) → Option (CT Φ c e)
  | 0, _, _ => none
  | n + 1, c, .BoolOp op es pos => match compW n c (.BoolOp op es pos) with
    | some A => some ⟨A.i, fun X G => (A.ok X G).pt⟩
    | none => none
  | n + 1, c, .UnaryOp .Not a pos => match compT n c a with
    | some A => some ⟨.not A.i, fun X G => s_tnot (A.ok X G)⟩
    | none => none
  | n + 1, c, .Compare a [op] [b] pos => match compE n c a, compE n c b, h : cmOf op with
    | some A, some B, some o => if hs : isSet b = false then some ⟨.of (.cmp o A.i B.i), fun X G => ok_tcmp h A B hs X G⟩ else none
    | _, _, _ => none
  | n + 1, c, .Compare a [op, op'] [b, d] pos => match compE n c a, compE n c b, compE n c d, h : cmOf op, h' : cmOf op' with
    | some A, some B, some C, some o, some o' => if hs : isSet d = false then some ⟨.of (.chn o o' A.i B.i C.i), fun X G => ok_tchn h h' A B C hs X G⟩ else none
    | _, _, _, _, _ => none
  | n + 1, c, e => if h : isTst e = false then match compE n c e with
      | some A => some ⟨.of A.i, fun X G => s_tru (A.ok X G) (plain_true h)⟩
      | none => none
    else none
def compW : Nat → (c : Cfg) → (e : Expr) → Option (CW Φ c e)
  | 0, _, _ => none
  | n + 1, c, .BoolOp .And (a :: b :: r) pos => match compT n c a, compW n c (.BoolOp .And (b :: r) pos) with
    | some A, some B => some ⟨.and A.i B.i, fun X G => s_tand (A.ok X G) (B.ok X G)⟩
    | _, _ => none
  | n + 1, c, .BoolOp .Or (a :: b :: r) pos => match compT n c a, compW n c (.BoolOp .Or (b :: r) pos) with
    | some A, some B => some ⟨.or A.i B.i, fun X G => s_tor (A.ok X G) (B.ok X G)⟩
    | _, _ => none
  | n + 1, c, .BoolOp op [a] pos => match compT n c a with
    | some A => some ⟨A.i, fun X G => s_tand1 (A.ok X G)⟩
    | none => none
  | _, _, _ => none
def compTs : Nat → (c : Cfg) → (es : List Expr) → Option (CTs Φ c es)
  | 0, _, _ => none
  | n + 1, c, [] => some ⟨.tt, fun X _ => ts_nil⟩
  | n + 1, c, [e] => match compT n c e with
    | some A => some ⟨A.i, fun X G => pts_one (A.ok X G)⟩
    | none => none
  | _, _, _ => none
def compI : Nat → (c : Cfg) → (tg e : Expr) → Option (CI Φ c tg e)
  | 0, _, _, _ => none
  | n + 1, c, tg, .Call (.Name x p) [a] [] pos => if isStar a = false ∧ isGl c x = true ∧ (c.fs.find? fun q => sEq x q.x).isNone = true then
      if hx : isStar a = false ∧ isGl c x = true ∧ sEq x "range" = true then match compE n c a with
        | some A => some ⟨.rng1 A.i, fun X G => ok_rng1 A hx X G⟩
        | none => none
      else if hx : isStar a = false ∧ isGl c x = true ∧ sEq x "enumerate" = true then match tg with
        | .Tuple es k tp => match compE n c a with
          | some A => some ⟨.enum A.i, fun X G => ok_enum A hx X G⟩
          | none => none
        | _ => none
      else match compE n c (.Call (.Name x p) [a] [] pos) with
        | some A => some ⟨.of A.i, fun X G => i_of (A.ok X G)⟩
        | none => none
    else match compE n c (.Call (.Name x p) [a] [] pos) with
      | some A => some ⟨.of A.i, fun X G => i_of (A.ok X G)⟩
      | none => none
  | n + 1, c, tg, .Call (.Name x p) [a, b] [] pos =>
      if hx : isStar a = false ∧ isStar b = false ∧ isGl c x = true ∧ sEq x "range" = true then match compE n c a, compE n c b with
        | some A, some B => some ⟨.rng2 A.i B.i, fun X G => ok_rng2 A B hx X G⟩
        | _, _ => none
      else if hx : isStar a = false ∧ isStar b = false ∧ isGl c x = true ∧ sEq x "zip" = true then match tg with
        | .Tuple es k tp => match compE n c a, compE n c b with
          | some A, some B => some ⟨.zip A.i B.i, fun X G => ok_zip A B hx X G⟩
          | _, _ => none
        | _ => none
      else match compE n c (.Call (.Name x p) [a, b] [] pos) with
        | some A => some ⟨.of A.i, fun X G => i_of (A.ok X G)⟩
        | none => none
  | n + 1, c, tg, e => match compE n c e with
      | some A => some ⟨.of A.i, fun X G => i_of (A.ok X G)⟩
      | none => none
end
end
end CC

namespace CC
open PySem PySem.Spec PyProof.Rows L2
/-! ### what an expression looks at -/
mutual
def Ex.ment (own : List Nat) : Ex → Bool
  | .v i => own.contains i
  | .k _ => false
  | .tup es => es.ment own
  | .lst es => es.ment own
  | .bin _ a b => a.ment own || b.ment own
  | .neg a => a.ment own
  | .cmp _ a b => a.ment own || b.ment own
  | .chn _ _ a b c => a.ment own || b.ment own || c.ment own
  | .and a b => a.ment own || b.ment own
  | .or a b => a.ment own || b.ment own
  | .not a => a.ment own
  | .ite t a b => t.ment own || a.ment own || b.ment own
  | .ix a b => a.ment own || b.ment own
  | .sl a b c => a.ment own || b.ment own || c.ment own
  | .sll a b => a.ment own || b.ment own
  | .slh a b => a.ment own || b.ment own
  | .rev a => a.ment own
  | .rep a b => a.ment own || b.ment own
  | .kix _ e => e.ment own
  | .met _ o es => o.ment own || es.ment own
  | .dsub _ e => e.ment own
  | .bx _ _ => false
  | .call _ es => es.ment own
  | .bi _ es => es.ment own
  | .isi a _ => a.ment own
  | .comp e _ it c _ => e.ment own || it.ment own || c.ment own
def Exs.ment (own : List Nat) : Exs → Bool
  | .nil => false
  | .cons e es => e.ment own || es.ment own
def Ts.ment (own : List Nat) : Ts → Bool
  | .tt => false
  | .of e => e.ment own
  | .and a b => a.ment own || b.ment own
  | .or a b => a.ment own || b.ment own
  | .not a => a.ment own
def It.ment (own : List Nat) : It → Bool
  | .of e => e.ment own
  | .rng1 e => e.ment own
  | .rng2 a b => a.ment own || b.ment own
  | .enum e => e.ment own
  | .zip a b => a.ment own || b.ment own
end
/-! ### a, b = x, y -/
def bkKind (sc : Scope) : ScopeKind := if sc.kind.isAnnotationScope = true then .function else sc.kind
def lcl (sc : Scope) (l : Nat) : Expr → Option Str
  | .Name id pos => if (List.lookup id sc.names == some NameKind.local && pos.line == l) = true then some id else none
  | _ => none
def swF (ts vs : List Expr) (sc : Scope) : Option (Option (List Str)) :=
  if (!(ts.length == 2 || ts.length == 3) || vs.length != ts.length || bkKind sc != ScopeKind.function) = true then some none
  else if vs.any isStar = true then some none
  else
    let names := ts.filterMap (lcl sc ((ts.head?.map fun x => x.pos.line).getD 0))
    if (names.length != ts.length || names.eraseDups.length != names.length) = true then some none
    else if vs.all (foldedForSure 8) = true then some none
    else if vs.all (constantsAlone 8) = true then none
    else some (some names)
theorem swF_ok {ts vs : List Expr} {k k2 : Nat} {p p2 : Pos} {env : Env} {r : Option (List Str)} (h : swF ts vs env.scope = some r) : swappedStores [.Tuple ts k p] (.Tuple vs k2 p2) env = pure r := by
  unfold swappedStores
  simp only
  generalize hN : List.filterMap _ ts = names
  have hN' : List.filterMap (lcl env.scope ((ts.head?.map fun x => x.pos.line).getD 0)) ts = names := by
    rw [← hN]
    congr 1
  generalize hS : vs.any _ = st
  have hS' : vs.any isStar = st := by
    rw [← hS]
    congr 1
  unfold swF at h
  simp only [hN', hS'] at h
  have e3 : env.blockKind = bkKind env.scope := rfl
  rw [e3]
  split at h
  · rename_i q; rw [if_pos q]; cases h; rfl
  · rename_i q; rw [if_neg q]
    split at h
    · rename_i q; rw [if_pos q]; cases h; rfl
    · rename_i q; rw [if_neg q]
      split at h
      · rename_i q; rw [if_pos q]; cases h; rfl
      · rename_i q; rw [if_neg q]
        split at h
        · rename_i q; rw [if_pos q]; cases h; rfl
        · rename_i q; rw [if_neg q]
          split at h
          · cases h
          · rename_i q; rw [if_neg q]; cases h; rfl
/-! ### a comprehension, set -/
theorem sw_cell {elt : Expr} {gs : List Comprehension} {scope : Scope} {pos py : Pos} {y : Str} {l : Nat} {env : Env} (h : List.lookup y env.scope.names = some .cell) : swapsWith (.ListComp elt gs scope pos) (some (.Name y py)) l env = pure false := by
  unfold swapsWith
  have : (env.kindOf y == some NameKind.local) = false := by
    unfold Env.kindOf
    rw [h]; rfl
  simp only [this, Bool.and_false, Bool.false_and]
def noOwn (y : Str) (scope : Scope) : Bool := scope.names.all fun p => !(sEq p.1 y && isOwn p.2)
theorem noOwn_ok {y : Str} {scope : Scope} (h : noOwn y scope = true) : (scope.names.any fun x => match x with
    | (n, k) => n == y && (k == NameKind.local || k == NameKind.cell)) = false := by
  rw [List.any_eq_false]
  intro x hx q
  have := List.all_eq_true.mp h x hx
  obtain ⟨n, k⟩ := x
  simp only [Bool.and_eq_true, Bool.or_eq_true] at q
  have q1 := eq_of_beq q.1
  subst q1
  rw [sEq_self] at this
  rcases q.2 with z | z <;> (have := eq_of_beq z; subst this; cases this)
section
variable (Φ : Nat → Spec)
abbrev GoodC (Φ : Nat → Spec) (c : Cfg) (X : Cx) : Prop := GoodS Φ blt c X
structure CS (c : Cfg) (st : Stmt) where
  i : Sm
  ok : ∀ X, GoodC Φ c X → PS X st (tS X.K (i.sem Φ))
structure CSs (c : Cfg) (sts : List Stmt) where
  i : Sms
  ok : ∀ X, GoodC Φ c X → PSs X sts (tS X.K (i.sem Φ))
end
section
variable {Φ : Nat → Spec} {c : Cfg}
/-- y = e -/
theorem ok_asg {y : Str} {py pos : Pos} {e : Expr} {i : Nat} {b : Bool} (A : CE Φ c e) (h : slotT c y = some (i, b)) (hs : isLc e = false) (X : Cx) (G : GoodC Φ c X) : PS X (.Assign [.Name y py] e pos) (tAsg (tE X.K A.n (A.i.sem Φ)) (gName i)) :=
  ps_set G.nd' (by rw [G.N]; exact (slotT_ok h).1) (by rw [G.sc]; exact (slotT_ok h).2.1) (A.ok X G.toGood) (sw_no hs) ((slotT_ok h).2.2.1.imp (G.cel y) fun e => by rw [G.sc]; exact e)
def lcOk (c : Cfg) (y : Str) (py : Pos) : Expr → Bool
  | .ListComp _ _ scope pos => fnKind c.sc.kind && (py.line == pos.line) && noOwn y scope
  | _ => false
def lcCell : Expr → Bool
  | .ListComp _ _ _ _ => true
  | _ => false
theorem ok_alc {y : Str} {py pos : Pos} {e : Expr} {i : Nat} (A : CE Φ c e) (h : slotT c y = some (i, true)) (hs : lcOk c y py e = true) (X : Cx) (G : GoodC Φ c X) : PS X (.Assign [.Name y py] e pos) (tAsg (tE X.K A.n (A.i.sem Φ)) (gName i)) := by
  cases e <;> try (cases hs; done)
  rename_i elt gs scope p
  unfold lcOk at hs
  simp only [Bool.and_eq_true] at hs
  obtain ⟨⟨h1, h2⟩, h3⟩ := hs
  have hk : X.env.scope.kind = .function := by
    rw [G.sc]
    cases q : c.sc.kind <;> rw [q] at h1 <;> first | rfl | cases h1
  have hl : List.lookup y X.env.scope.names = some .local := by rw [G.sc]; exact (slotT_ok h).2.2.2.1 rfl
  exact A.lc rfl X G.toGood y py pos i (by rw [G.N]; exact (slotT_ok h).1) hl (sw_true hk hl h2 (noOwn_ok h3))
theorem ok_alcC {y : Str} {py pos : Pos} {e : Expr} {i : Nat} (A : CE Φ c e) (h : slotT c y = some (i, false)) (hs : lcCell e = true) (X : Cx) (G : GoodC Φ c X) : PS X (.Assign [.Name y py] e pos) (tAsg (tE X.K A.n (A.i.sem Φ)) (gName i)) := by
  cases e <;> try (cases hs; done)
  exact ps_set G.nd' (by rw [G.N]; exact (slotT_ok h).1) (by rw [G.sc]; exact (slotT_ok h).2.1) (A.ok X G.toGood) (sw_cell (by rw [G.sc]; exact (slotT_ok h).2.2.2.2 rfl)) ((slotT_ok h).2.2.1.imp (G.cel y) fun e => by rw [G.sc]; exact e)
/-- an assignment to a name -/
def compAs (c : Cfg) (y : Str) (py pos : Pos) (e : Expr) (A : CE Φ c e) : Option { i : Nat // ∀ X, GoodC Φ c X → PS X (.Assign [.Name y py] e pos) (tAsg (tE X.K A.n (A.i.sem Φ)) (gName i)) } :=
  match h : slotT c y with
  | none => none
  | some (i, b) =>
    if hs : isLc e = false then some ⟨i, fun X G => ok_asg A h hs X G⟩
    else match b, h with
      | true, h => if hs : lcOk c y py e = true then some ⟨i, fun X G => ok_alc A h hs X G⟩ else none
      | false, h => if hs : lcCell e = true then some ⟨i, fun X G => ok_alcC A h hs X G⟩ else none
theorem ok_set {y : Str} {py pos : Pos} {e : Expr} {i : Nat} (A : CE Φ c e) (fz : Bool) (X : Cx) (h : PS X (.Assign [.Name y py] e pos) (tAsg (tE X.K A.n (A.i.sem Φ)) (gName i))) : PS X (.Assign [.Name y py] e pos) (tS X.K ((Sm.set fz i A.i).sem Φ)) := PSi h (set_ent fz)
theorem ok_own {y : Str} {py pos : Pos} {e : Expr} {i : Nat} (A : CE Φ c e) (hn : A.n = true) (X : Cx) (h : PS X (.Assign [.Name y py] e pos) (tAsg (tE X.K A.n (A.i.sem Φ)) (gName i))) : PS X (.Assign [.Name y py] e pos) (tS X.K ((Sm.own i A.i).sem Φ)) := by
  rw [hn] at h
  exact PSi h own_ent
theorem ok_bag {y : Str} {py pos : Pos} {e : Expr} {i : Nat} (A : CE Φ c e) (hn : A.n = true) (X : Cx) (h : PS X (.Assign [.Name y py] e pos) (tAsg (tE X.K A.n (A.i.sem Φ)) (gName i))) : PS X (.Assign [.Name y py] e pos) (tS X.K ((Sm.bag i A.i).sem Φ)) := by
  rw [hn] at h
  exact PSi h bag_ent
theorem ok_tup {ts : List Expr} {k : Nat} {p pos : Pos} {e : Expr} (A : CE Φ c e) (g : CG c (.Tuple ts k p)) (fz : Bool) (hs : ∀ env : Env, env.scope = c.sc → swappedStores [.Tuple ts k p] e env = pure none) (X : Cx) (G : GoodC Φ c X) : PS X (.Assign [.Tuple ts k p] e pos) (tS X.K ((Sm.tup fz g.p A.i).sem Φ)) :=
  PSi (ps_asg (A.ok X G.toGood) (g.ok Φ X G.toGood) sws_tup (hs _ G.sc) rfl) (tup_ent fz)
theorem ok_par {x y : Str} {px py pt pos pt2 : Pos} {kt k2 : Nat} {a b : Expr} {i j : Nat} (A : CE Φ c a) (B : CE Φ c b) (fz : Bool) (hx : slotT c x = some (i, true)) (hy : slotT c y = some (j, true)) (hij : i ≠ j) (ha : isStar a = false) (hb : isStar b = false) (hw : swF [.Name x px, .Name y py] [a, b] c.sc = some (some [x, y])) (X : Cx) (G : GoodC Φ c X) :
    PS X (.Assign [.Tuple [.Name x px, .Name y py] kt pt] (.Tuple [a, b] k2 pt2) pos) (tS X.K ((Sm.par fz i j A.i B.i).sem Φ)) :=
  PSi (ps_par G.calm G.nd' (by rw [G.N]; exact (slotT_ok hx).1) (by rw [G.N]; exact (slotT_ok hy).1) hij (by rw [G.sc]; exact (slotT_ok hx).2.2.2.1 rfl) (by rw [G.sc]; exact (slotT_ok hy).2.2.2.1 rfl) (pa_cons (A.ok X G.toGood) (pa_cons (B.ok X G.toGood) pa_nil (star_cons hb)) (star_cons ha)) (swF_ok (by rw [G.sc]; exact hw)) sws_tup) (par_ent fz hij)
theorem ok_dnew {x y : Str} {px py pt pos pt2 pd pz : Pos} {kt k2 kz : Nat} {z : Int} {i j : Nat} (hx : slotT c x = some (i, true)) (hy : slotT c y = some (j, true)) (hij : i ≠ j) (hw : swF [.Name x px, .Name y py] [.Dict [] [] pd, .Constant (.int z) kz pz] c.sc = some (some [x, y])) (X : Cx) (G : GoodC Φ c X) :
    PS X (.Assign [.Tuple [.Name x px, .Name y py] kt pt] (.Tuple [.Dict [] [] pd, .Constant (.int z) kz pz] k2 pt2) pos) (tS X.K ((Sm.dnew i j z).sem Φ)) :=
  PSi (ps_par G.calm G.nd' (by rw [G.N]; exact (slotT_ok hx).1) (by rw [G.N]; exact (slotT_ok hy).1) hij (by rw [G.sc]; exact (slotT_ok hx).2.2.2.1 rfl) (by rw [G.sc]; exact (slotT_ok hy).2.2.2.1 rfl) (pa_cons pe_dnewK (pa_cons pe_int pa_nil (star_cons rfl)) (star_cons rfl)) (swF_ok (by rw [G.sc]; exact hw)) sws_tup) dnew_ent
theorem ok_dput {x : Str} {px p3 pos : Pos} {k e : Expr} {i : Nat} (B : CE Φ c k) (A : CE Φ c e) (h : slotV c x = some i) (hs : isLc e = false) (X : Cx) (G : GoodC Φ c X) : PS X (.Assign [.Subscript (.Name x px) k p3] e pos) (tS X.K ((Sm.dput i B.i A.i).sem Φ)) :=
  PSi (ps_dput (by have := G.toGood.un; omega) (pe_var (G.toGood.slot h).1 (G.toGood.slot h).2 (goodN_ok (slotV_ok h).2.2).1 (goodN_ok (slotV_ok h).2.2).2.1) (B.ok X G.toGood) (A.ok X G.toGood) (sw_no hs)) dput_ent
theorem ok_app {x : Str} {px apos cpos pos : Pos} {e : Expr} {i : Nat} (A : CE Φ c e) (h : slotV c x = some i) (h1 : isStar e = false) (hl : (apos.endLine == cpos.line) = true) (X : Cx) (G : GoodC Φ c X) : PS X (.Expr (.Call (.Attribute (.Name x px) "append" apos) [e] [] cpos) pos) (tS X.K ((Sm.app i A.i).sem Φ)) :=
  PSi (ps_expr (pe_bm PySem.F.plainAttrs_list PySem.F.slot_list_append PySem.F.type_list_append mt_append (pe_var (G.toGood.slot h).1 (G.toGood.slot h).2 (goodN_ok (slotV_ok h).2.2).1 (goodN_ok (slotV_ok h).2.2).2.1) (pa_cons (A.ok X G.toGood) pa_nil (star_cons h1)) rfl (by rw [star_cons h1]; rfl) hl (star_cons h1) rfl) rfl) app_ent
theorem ok_bw {x : Str} {px p2 p3 pos : Pos} {e : Expr} {i j k2 : Nat} (A : CE Φ c e) (h : slotV c x = some i) (hj : j < 2) (hs : isLc e = false) (X : Cx) (G : GoodC Φ c X) : PS X (.Assign [.Subscript (.Name x px) (.Constant (.int (j : Int)) k2 p2) p3] e pos) (tS X.K ((Sm.bw i j A.i).sem Φ)) :=
  PSi (ps_asg (A.ok X G.toGood) (pg_sub (pe_var (G.toGood.slot h).1 (G.toGood.slot h).2 (goodN_ok (slotV_ok h).2.2).1 (goodN_ok (slotV_ok h).2.2).2.1) pe_int set_list) (by unfold swapsWithSole; exact sw_no hs) (by cases e <;> rfl) rfl) (bw_ent hj)
theorem ok_ex {e : Expr} {pos : Pos} (A : CE Φ c e) (h : isLc e = false) (X : Cx) (G : GoodC Φ c X) : PS X (.Expr e pos) (tS X.K ((Sm.ex A.i).sem Φ)) := PSi (ps_expr (A.ok X G.toGood) (sw_no h)) ex_ent
theorem ok_ret {e : Expr} {pos : Pos} (A : CE Φ c e) (X : Cx) (G : GoodC Φ c X) : PS X (.Return (some e) pos) (tS X.K ((Sm.ret A.i).sem Φ)) := PSi (ps_ret (A.ok X G.toGood)) ret_entS
theorem ok_never {st : Stmt} (X : Cx) : PS X st (tS X.K (Sm.never.sem Φ)) := PSi ps_never fun D σ H q => by
  obtain ⟨W0, ρ, nx, rt, E, q, kn, kr⟩ := q
  exact q
theorem ok_pass {pos : Pos} (X : Cx) : PS X (.Pass pos) (tS X.K ((Sm.ex (.k .none)).sem Φ)) := PSi ps_pass nil_ent
end
section
variable (Φ : Nat → Spec)
mutual
def compS : Nat → (c : Cfg) → (st : Stmt) → Option (CS Φ c st)
  | 0, _, _ => none
  | n + 1, c, .Assign [.Name y py] e pos => match compE Φ n c e with
    | none => none
    | some A => match compAs c y py pos e A with
      | none => none
      | some a => if hn : A.n = true then if c.bags.contains a.1 then some ⟨.bag a.1 A.i, fun X G => ok_bag A hn X (a.2 X G)⟩ else if c.own.contains a.1 then some ⟨.own a.1 A.i, fun X G => ok_own A hn X (a.2 X G)⟩ else some ⟨.set (A.i.ment c.own) a.1 A.i, fun X G => ok_set A (A.i.ment c.own) X (a.2 X G)⟩
        else some ⟨.set (A.i.ment c.own) a.1 A.i, fun X G => ok_set A (A.i.ment c.own) X (a.2 X G)⟩
  | n + 1, c, .Assign [.Subscript (.Name x px) (.Constant (.int z) k2 p2) p3] e pos => match h : slotV c x, hz : natI z, compE Φ n c e with
    | some i, some j, some A => if hs : isLc e = false then some ⟨.bw i j.1 A.i, fun X G => by rw [natI_ok hz]; exact ok_bw A h j.2 hs X G⟩ else none
    | _, _, _ => none
  | n + 1, c, .Assign [.Subscript (.Name x px) k p3] e pos => match h : slotV c x, compE Φ n c k, compE Φ n c e with
    | some i, some B, some A => if hs : isLc e = false then some ⟨.dput i B.i A.i, fun X G => ok_dput B A h hs X G⟩ else none
    | _, _, _ => none
  | n + 1, c, .Assign [.Tuple ts kt pt] (.Tuple vs k2 pt2) pos => match hw : swF ts vs c.sc with
    | some none => match compE Φ n c (.Tuple vs k2 pt2), compG c (.Tuple ts kt pt) with
      | some A, some g => some ⟨.tup (A.i.ment c.own) g.p A.i, fun X G => ok_tup A g (A.i.ment c.own) (fun env he => swF_ok (by rw [he]; exact hw)) X G⟩
      | _, _ => none
    | some (some [x', y']) => match ts, vs, hw with
      | [.Name x px, .Name y py], [a, b], hw => match hx : slotT c x, hy : slotT c y, compE Φ n c a, compE Φ n c b with
        | some (i, true), some (j, true), some A, some B => if hij : i ≠ j ∧ isStar a = false ∧ isStar b = false ∧ sEq x' x = true ∧ sEq y' y = true then
            some ⟨.par (A.i.ment c.own || B.i.ment c.own) i j A.i B.i, fun X G => ok_par A B (A.i.ment c.own || B.i.ment c.own) hx hy hij.1 hij.2.1 hij.2.2.1 (by rw [hw, sEq_ok hij.2.2.2.1, sEq_ok hij.2.2.2.2]) X G⟩ else none
        | _, _, _, _ => match a, b, hw with
          | .Dict [] [] pd, .Constant (.int z) kz pz, hw => match hx : slotT c x, hy : slotT c y with
            | some (i, true), some (j, true) => if hij : i ≠ j ∧ sEq x' x = true ∧ sEq y' y = true then
                some ⟨.dnew i j z, fun X G => ok_dnew hx hy hij.1 (by rw [hw, sEq_ok hij.2.1, sEq_ok hij.2.2]) X G⟩ else none
            | _, _ => none
          | _, _, _ => none
      | _, _, _ => none
    | _ => none
  | n + 1, c, .Assign [.Tuple ts kt pt] e pos => match compE Φ n c e, compG c (.Tuple ts kt pt) with
    | some A, some g => if h : isTupE e = false then some ⟨.tup (A.i.ment c.own) g.p A.i, fun X G => ok_tup A g (A.i.ment c.own) (fun env _ => ss_val h) X G⟩ else none
    | _, _ => none
  | n + 1, c, .Expr (.Call (.Attribute (.Name x px) f apos) [e] [] cpos) pos => match h : slotV c x, compE Φ n c e with
    | some i, some A => if hf : sEq f "append" = true ∧ isStar e = false ∧ (apos.endLine == cpos.line) = true then some ⟨.app i A.i, fun X G => by rw [sEq_ok hf.1]; exact ok_app A h hf.2.1 hf.2.2 X G⟩ else none
    | _, _ => none
  | n + 1, c, .Expr e pos => match compE Φ n c e with
    | some A => if h : isLc e = false then some ⟨.ex A.i, fun X G => ok_ex A h X G⟩ else none
    | none => none
  | n + 1, c, .Return (some e) pos => match compE Φ n c e with
    | some A => some ⟨.ret A.i, fun X G => ok_ret A X G⟩
    | none => none
  | n + 1, c, .If t a b pos => match compT Φ n c t, compSs n c a, compSs n c b with
    | some T, some A, some B => some ⟨.ite T.i A.i B.i, fun X G => PSi (ps_if (T.ok X G.toGood) (A.ok X G) (B.ok X G)) if_ent⟩
    | _, _, _ => none
  | n + 1, c, .For tg iter body [] pos => match compI Φ n c tg iter, compG c tg, compSs n c body with
    | some I, some g, some B => if h : isSet iter = false then some ⟨.for_ (I.i.ment c.own) g.p I.i B.i, fun X G => PSi (ps_for G.own G.calm (I.ok X G.toGood) (g.ok Φ X G.toGood) (B.ok X G) (fun x => no_fold h x)) (for_ent (I.i.ment c.own))⟩ else none
    | _, _, _ => none
  | n + 1, c, .While t body [] pos => match compT Φ n c t, compSs n c body with
    | some T, some B => some ⟨.while_ T.i B.i, fun X G => PSi (ps_while G.own (T.ok X G.toGood) (B.ok X G)) while_ent⟩
    | _, _ => none
  | n + 1, c, .Raise a b pos => some ⟨.never, fun X G => ok_never X⟩
  | n + 1, c, .Pass pos => some ⟨.ex (.k .none), fun X G => ok_pass X⟩
  | _, _, _ => none
def compSs : Nat → (c : Cfg) → (sts : List Stmt) → Option (CSs Φ c sts)
  | 0, _, _ => none
  | n + 1, c, [] => some ⟨.nil, fun X G => PSsi pss_nil nil_ent⟩
  | n + 1, c, st :: sts => match compS n c st, compSs n c sts with
    | some A, some B => some ⟨.cons A.i B.i, fun X G => PSsi (pss_cons (A.ok X G) (B.ok X G)) (seq_ent (fa := A.i.sem Φ) (fb := B.i.sem Φ))⟩
    | _, _ => none
end
end
end CC

namespace CC
open PySem PySem.Spec PyProof.Rows L2
theorem Room.le {k k' : Nat} {A : Around} (h : Room k A) (e : k' ≤ k) : Room k' A := ⟨h.hd, by have := h.dp; omega, by have := h.un; omega⟩
/-- a def of the text, read -/
theorem def_of {Φ : Nat → Spec} {P : Program} {w : World} {K : PySem.W.Frag} {mg : Str → Option Value} {base : Heap} {x qual : Str} {params : Arguments} {body : List Stmt} {scope : Scope} {dvs : List V} {kws : List (Str × V)} {f : Addr} {fd : FuncData} {c : Cfg} {ps : List Str} {k : Nat} {F : Spec}
    (B : CSs Φ c body) (Fn : FunD K x qual params body scope dvs kws f fd) (hc : c.sc = scope) (S : FnScope c.N ps scope) (hp : ps.length ≤ c.N.length) (hbl : ∀ x ∈ blt, mg x = none)
    (hco : ∀ p, p ∈ c.co → ∃ v u, mg p.1 = some u ∧ RelV v u ∧ (∀ W H, Rp K W H v p.2) ∧ (∀ ds, p.2 ≠ .list ds) ∧ ∀ ds, p.2 = .tuple ds → ∀ H, tyV K "tuple" v H)
    (hfs : ∀ p, p ∈ c.fs → ∃ k' fa fd ps, k' ≤ k ∧ FnOk P w K mg base CX0 k' fa fd ps (spX p.fr K (Φ p.ix)) ∧ mg p.x = some (.ref fa) ∧ PySem.W.keepIn K (.ref fa) = true ∧ Binds K fd ps [] ∧ ∀ j, p.df = some j → ∃ t, Binds K fd ps [.int j t])
    (hd : DefSem (B.i.sem Φ) c.N.length ps.length F) : FnOk P w K mg base CX0 (k + 1) f fd ps (spD K F) := by
  refine Fn.ok S (fun vs H Q E h => ?_) (fun cdv A outer s H vs Q E hr h => ⟨tS K (B.i.sem Φ), ?_, def_go hp hd h⟩)
  · obtain ⟨W0, as, Qd, r, _, _, hf, _⟩ := h
    rw [r.length]
    exact (hd as Qd hf).1
  · refine PSs.nox (B.ok _ {
      N := rfl
      sc := hc.symm ▸ rfl
      cel := fun _ _ => rfl
      calm := rfl
      nd := S.nd
      un := by have := hr.un; show (A.deeper _).units + 64 < cLine; omega
      bl := hbl
      co := hco
      fs := fun p hp => by
        obtain ⟨k', fa, fd, ps, hk, h1, h2, h3, h4, h5⟩ := hfs p hp
        exact ⟨k', fa, fd, ps, h1, Room.le hr hk, h2, h3, h4, h5⟩
      xe := fun _ _ h => h })
theorem good_of {Φ : Nat → Spec} {P : Program} {w : World} {K : PySem.W.Frag} {mg : Str → Option Value} {base : Heap} {qual : Str} {scope : Scope} {f : Addr} {c : Cfg} {ps : List Str} {k : Nat} {cdv : Value} {A : Around} {outer : List Env} {s : Shared} {H : Hp} {E : XK}
    (hc : c.sc = scope) (S : FnScope c.N ps scope) (hbl : ∀ x ∈ blt, mg x = none)
    (hco : ∀ p, p ∈ c.co → ∃ v u, mg p.1 = some u ∧ RelV v u ∧ (∀ W H, Rp K W H v p.2) ∧ (∀ ds, p.2 ≠ .list ds) ∧ ∀ ds, p.2 = .tuple ds → ∀ H, tyV K "tuple" v H)
    (hfs : ∀ p, p ∈ c.fs → ∃ k' fa fd ps, k' ≤ k ∧ FnOk P w K mg base CX0 k' fa fd ps (spX p.fr K (Φ p.ix)) ∧ mg p.x = some (.ref fa) ∧ PySem.W.keepIn K (.ref fa) = true ∧ Binds K fd ps [] ∧ ∀ j, p.df = some j → ∃ t, Binds K fd ps [.int j t])
    (hr : Room k (A.deeper (envOfC qual scope s.heap.objs.size f cdv))) : GoodC Φ c (cxOf CX0 P w K mg base c.N qual scope f cdv A outer s H E).nox where
  N := rfl
  sc := hc.symm ▸ rfl
  cel := fun _ _ => rfl
  calm := rfl
  nd := S.nd
  un := by have := hr.un; show (A.deeper _).units + 64 < cLine; omega
  bl := hbl
  co := hco
  fs := fun p hp => by
    obtain ⟨k', fa, fd, ps, hk, h1, h2, h3, h4, h5⟩ := hfs p hp
    exact ⟨k', fa, fd, ps, h1, Room.le hr hk, h2, h3, h4, h5⟩
  xe := fun _ _ h => h
/-- a def that gives out a new list: one statement, then the list -/
theorem def_ofN {Φ : Nat → Spec} {P : Program} {w : World} {K : PySem.W.Frag} {mg : Str → Option Value} {base : Heap} {x qual : Str} {params : Arguments} {st : Stmt} {e : Expr} {pos : Pos} {scope : Scope} {dvs : List V} {kws : List (Str × V)} {f : Addr} {fd : FuncData} {c : Cfg} {ps : List Str} {k : Nat} {F : Spec}
    (B : CS Φ c st) (A : CE Φ c e) (hn : A.n = true) (Fn : FunD K x qual params [st, .Return (some e) pos] scope dvs kws f fd) (hc : c.sc = scope) (S : FnScope c.N ps scope) (hp : ps.length ≤ c.N.length) (hbl : ∀ x ∈ blt, mg x = none)
    (hco : ∀ p, p ∈ c.co → ∃ v u, mg p.1 = some u ∧ RelV v u ∧ (∀ W H, Rp K W H v p.2) ∧ (∀ ds, p.2 ≠ .list ds) ∧ ∀ ds, p.2 = .tuple ds → ∀ H, tyV K "tuple" v H)
    (hfs : ∀ p, p ∈ c.fs → ∃ k' fa fd ps, k' ≤ k ∧ FnOk P w K mg base CX0 k' fa fd ps (spX p.fr K (Φ p.ix)) ∧ mg p.x = some (.ref fa) ∧ PySem.W.keepIn K (.ref fa) = true ∧ Binds K fd ps [] ∧ ∀ j, p.df = some j → ∃ t, Binds K fd ps [.int j t])
    (hd : DefSemN (B.i.sem Φ) (A.i.sem Φ) c.N.length ps.length F) : FnOk P w K mg base CX0 (k + 1) f fd ps (spN K F) := by
  refine Fn.ok S (fun vs H Q E h => ?_) (fun cdv A' outer s H vs Q E hr h => ⟨tSeq (tS K (B.i.sem Φ)) (tRet (tE K true (A.i.sem Φ))), ?_, def_goN hp hd h⟩)
  · obtain ⟨W0, as, Qd, r, _, _, hf, _⟩ := h
    rw [r.length]
    exact (hd as Qd hf).1
  · have G : GoodC Φ c (cxOf CX0 P w K mg base c.N qual scope f cdv A' outer s H E).nox := good_of hc S hbl hco hfs hr
    have a := A.ok _ G.toGood
    rw [hn] at a
    exact PSs.nox (pss_cons (B.ok _ G) (pss_one (ps_ret a)))
end CC

namespace CC
open PySem PySem.Spec PyProof.Rows L2
/-! ### a law's defs, one behind another -/
structure Ent where
  x : Str
  g : Nat
  k : Nat
  ps : List Str
  N : List Str
  ixs : List Nat
  own : List Nat
  bags : List Nat
  df : Option Int
  fr : Bool
def fnI (e : Ent) : FnI := ⟨e.x, e.g, e.ps.length, e.df, e.fr⟩
def fsOf (tab : List Ent) (ixs : List Nat) : List FnI := ixs.filterMap fun j => tab[j]?.map fnI
def Ent.cfg (tab : List Ent) (co : List (Str × D)) (sc : Scope) (e : Ent) : Cfg := ⟨e.N, sc, fun _ => true, co, fsOf tab e.ixs, e.own, e.bags⟩
def Ent.dfl (e : Ent) : List He.Dv := match e.df with
  | none => []
  | some i => [.int i]
def scOk (N ps : List Str) (sc : Scope) : Bool := fnKind sc.kind && (!sc.isCoroutine && (!sc.isGenerator && (decide (N.Nodup) && (decide (N.take ps.length = ps) && ((ps.all fun x => match lk x sc.names with
  | some k => isOwn k
  | none => false) && sc.names.all fun y => match y.2 with
  | .free => false
  | _ => true)))))
theorem scOk_ok {N ps : List Str} {sc : Scope} (h : scOk N ps sc = true) : FnScope N ps sc := by
  unfold scOk at h
  simp only [Bool.and_eq_true, Bool.not_eq_true'] at h
  obtain ⟨h1, h2, h3, h4, h5, h6, h7⟩ := h
  refine ⟨?_, h2, h3, of_decide_eq_true h4, of_decide_eq_true h5, fun x m => ?_, fun y m e => ?_⟩
  · cases q : sc.kind <;> rw [q] at h1 <;> first | rfl | cases h1
  · have := List.all_eq_true.mp h6 x m
    rw [← lk_eq]
    cases q : lk x sc.names with
    | none => rw [q] at this; cases this
    | some k => rw [q] at this; cases k <;> first | exact .inl rfl | exact .inr rfl | cases this
  · have := List.all_eq_true.mp h7 y m
    rw [e] at this
    cases this
section
variable (P : Program) (w : World) (K : PySem.W.Frag) (mg : Str → Option Value) (base : Heap) (Φ : Nat → Spec)
/-- what is known of a def -/
def OkAt (i : Nat) (e : Ent) : Prop := ∃ fa fd, FnOk P w K mg base CX0 (i + 1) fa fd e.ps (spX e.fr K (Φ e.g)) ∧ mg e.x = some (.ref fa) ∧ PySem.W.keepIn K (.ref fa) = true ∧ Binds K fd e.ps [] ∧ ∀ j, e.df = some j → ∃ t, Binds K fd e.ps [.int j t]
end
section
variable {P : Program} {w : World} {K : PySem.W.Frag} {mg : Str → Option Value} {base : Heap} {Φ : Nat → Spec} {tab : List Ent} {co : List (Str × D)}
def CoOk (K : PySem.W.Frag) (mg : Str → Option Value) (co : List (Str × D)) : Prop := ∀ p, p ∈ co → ∃ v u, mg p.1 = some u ∧ RelV v u ∧ (∀ W H, Rp K W H v p.2) ∧ (∀ ds, p.2 ≠ .list ds) ∧ ∀ ds, p.2 = .tuple ds → ∀ H, tyV K "tuple" v H
theorem fs_ok {i : Nat} {ixs : List Nat} (h : ∀ j e, j < i → tab[j]? = some e → OkAt P w K mg base Φ j e) (hx : (ixs.all fun j => decide (j < i)) = true) :
    ∀ p, p ∈ fsOf tab ixs → ∃ k' fa fd ps, k' ≤ i ∧ FnOk P w K mg base CX0 k' fa fd ps (spX p.fr K (Φ p.ix)) ∧ mg p.x = some (.ref fa) ∧ PySem.W.keepIn K (.ref fa) = true ∧ Binds K fd ps [] ∧ ∀ j, p.df = some j → ∃ t, Binds K fd ps [.int j t] := fun p hp => by
  obtain ⟨j, hj, e⟩ := List.mem_filterMap.mp hp
  obtain ⟨en, he, e⟩ := Option.map_eq_some_iff.mp e
  have hlt : j < i := of_decide_eq_true (List.all_eq_true.mp hx j hj)
  obtain ⟨fa, fd, h1, h2, h3, h4, h5⟩ := h j en hlt he
  subst e
  exact ⟨j + 1, fa, fd, en.ps, hlt, h1, h2, h3, h4, h5⟩
/-- a def, from its text read and its meaning -/
theorem step_fn {i : Nat} {e : Ent} {st : Stmt} {b : Sms} {fd : FuncData} {f : Addr} (F : FunD K e.x e.x (defArgs st) (defBody st) (defScope st) (e.dfl.map (He.Dv.v K)) [] f fd)
    (hbl : ∀ x ∈ blt, mg x = none) (hco : CoOk K mg co) (h : ∀ j e, j < i → tab[j]? = some e → OkAt P w K mg base Φ j e)
    (hc : (compSs Φ 300 (e.cfg tab co (defScope st)) (defBody st)).map (·.i) = some b) (hs : (scOk e.N e.ps (defScope st) && (decide (e.ps.length ≤ e.N.length) && e.ixs.all fun j => decide (j < i))) = true) (hd : DefSem (b.sem Φ) e.N.length e.ps.length (Φ e.g)) : FnOk P w K mg base CX0 (i + 1) f fd e.ps (spD K (Φ e.g)) := by
  simp only [Bool.and_eq_true] at hs
  obtain ⟨B, _, rfl⟩ := Option.map_eq_some_iff.mp hc
  exact def_of B F rfl (scOk_ok hs.1) (of_decide_eq_true hs.2.1) hbl hco (fs_ok h hs.2.2) hd
theorem step_ok {i : Nat} {e : Ent} {st : Stmt} {b : Sms} {fd : FuncData} (F : FunD K e.x e.x (defArgs st) (defBody st) (defScope st) (e.dfl.map (He.Dv.v K)) [] (He.ga K e.x) fd) (hfr : e.fr = false) (hg : mg e.x = some (.ref (He.ga K e.x)))
    (hb : Binds K fd e.ps []) (hb2 : ∀ j, e.df = some j → ∃ t, Binds K fd e.ps [.int j t]) (hbl : ∀ x ∈ blt, mg x = none) (hco : CoOk K mg co) (h : ∀ j e, j < i → tab[j]? = some e → OkAt P w K mg base Φ j e)
    (hc : (compSs Φ 300 (e.cfg tab co (defScope st)) (defBody st)).map (·.i) = some b) (hs : (scOk e.N e.ps (defScope st) && (decide (e.ps.length ≤ e.N.length) && e.ixs.all fun j => decide (j < i))) = true) (hd : DefSem (b.sem Φ) e.N.length e.ps.length (Φ e.g)) : OkAt P w K mg base Φ i e := by
  refine ⟨He.ga K e.x, fd, ?_, hg, F.kp, hb, hb2⟩
  rw [hfr]
  exact step_fn F hbl hco h hc hs hd
/-- one that gives out a new list -/
theorem step_okN {i : Nat} {e : Ent} {st st1 : Stmt} {ex : Expr} {pos : Pos} {b : Sm} {a : Ex} {fd : FuncData} (F : FunD K e.x e.x (defArgs st) (defBody st) (defScope st) (e.dfl.map (He.Dv.v K)) [] (He.ga K e.x) fd) (hfr : e.fr = true) (hg : mg e.x = some (.ref (He.ga K e.x)))
    (hb : Binds K fd e.ps []) (hb2 : ∀ j, e.df = some j → ∃ t, Binds K fd e.ps [.int j t]) (hbl : ∀ x ∈ blt, mg x = none) (hco : CoOk K mg co) (h : ∀ j e, j < i → tab[j]? = some e → OkAt P w K mg base Φ j e) (hbody : defBody st = [st1, .Return (some ex) pos])
    (hc : (compS Φ 300 (e.cfg tab co (defScope st)) st1).map (·.i) = some b) (hc2 : (compE Φ 300 (e.cfg tab co (defScope st)) ex).map (fun A => (A.i, A.n)) = some (a, true)) (hs : (scOk e.N e.ps (defScope st) && (decide (e.ps.length ≤ e.N.length) && e.ixs.all fun j => decide (j < i))) = true) (hd : DefSemN (b.sem Φ) (a.sem Φ) e.N.length e.ps.length (Φ e.g)) : OkAt P w K mg base Φ i e := by
  simp only [Bool.and_eq_true] at hs
  obtain ⟨B, _, rfl⟩ := Option.map_eq_some_iff.mp hc
  obtain ⟨A, _, e2⟩ := Option.map_eq_some_iff.mp hc2
  simp only [Prod.mk.injEq] at e2
  obtain ⟨rfl, hn⟩ := e2
  refine ⟨He.ga K e.x, fd, ?_, hg, F.kp, hb, hb2⟩
  rw [hfr]
  rw [hbody] at F
  exact def_ofN B A hn F rfl (scOk_ok hs.1) (of_decide_eq_true hs.2.1) hbl hco (fs_ok h hs.2.2) hd
/-! ### facts -/
def faOf : Str × D → List He.Fa
  | (x, .int i) => [.int x i]
  | (x, .str z) => [.str x z]
  | _ => []
def coB : Str × D → Bool
  | (_, .int _) => true
  | (_, .str _) => true
  | _ => false
def faAll (tab : List Ent) (co : List (Str × D)) : List He.Fa := tab.map (fun e => .glo e.x) ++ (blt.map .free ++ co.flatMap faOf)
theorem fact_mem {fa : List He.Fa} {fn : List He.DefD} (c : He.SaysD fa fn K) {f : He.Fa} (h : f ∈ fa) : f.ok K = true := by
  obtain ⟨i, hi⟩ := List.mem_iff_getElem?.mp h
  exact c.fact i hi
section
variable {fn : List He.DefD} {h : Heap}
theorem bl_ok (X : K.In h) (G : h.Ns mainGlobals mg) (c : He.SaysD (faAll tab co) fn K) : ∀ x ∈ blt, mg x = none := fun x hx =>
  He.free_ok X G (fact_mem c (List.mem_append_right _ (List.mem_append_left _ (List.mem_map_of_mem hx))))
theorem glo_mem (X : K.In h) (G : h.Ns mainGlobals mg) (c : He.SaysD (faAll tab co) fn K) {e : Ent} (he : e ∈ tab) : mg e.x = some (.ref (He.ga K e.x)) :=
  He.glo_ok X G (fact_mem c (List.mem_append_left _ (List.mem_map_of_mem (f := fun e : Ent => He.Fa.glo e.x) he)))
theorem co_ok (X : K.In h) (G : h.Ns mainGlobals mg) (c : He.SaysD (faAll tab co) fn K) (hc : co.all coB = true) : CoOk K mg co := fun p hp => by
  have hb := List.all_eq_true.mp hc p hp
  have hm : ∀ f, f ∈ faOf p → f.ok K = true := fun f hf => fact_mem c (List.mem_append_right _ (List.mem_append_right _ (List.mem_flatMap.mpr ⟨p, hp, hf⟩)))
  obtain ⟨x, d⟩ := p
  cases d with
  | int i =>
    obtain ⟨t, ht⟩ := He.int_ok X G (hm _ List.mem_cons_self)
    exact ⟨.int i, _, ht, ⟨t, rfl⟩, fun _ _ => .int i, (fun _ z => nomatch z), fun _ z => nomatch z⟩
  | str z =>
    obtain ⟨t, ht⟩ := He.str_ok X G (hm _ List.mem_cons_self)
    exact ⟨.str z, _, ht, ⟨t, rfl⟩, fun _ _ => .str z, (fun _ z => nomatch z), fun _ z => nomatch z⟩
  | _ => cases hb
end
/-- what is known of all defs ahead -/
def Bef (P : Program) (w : World) (K : PySem.W.Frag) (mg : Str → Option Value) (base : Heap) (Φ : Nat → Spec) (tab : List Ent) (i : Nat) : Prop := ∀ j e, j < i → tab[j]? = some e → OkAt P w K mg base Φ j e
theorem Bef.zero : Bef P w K mg base Φ tab 0 := fun _ _ h => absurd h (Nat.not_lt_zero _)
theorem Bef.succ {i : Nat} (h : Bef P w K mg base Φ tab i) (k : ∀ e, tab[i]? = some e → OkAt P w K mg base Φ i e) : Bef P w K mg base Φ tab (i + 1) := fun j e hj he => by
  by_cases q : j < i
  · exact h j e q he
  · have : j = i := by omega
    subst this
    exact k e he
/-- the law's own promise -/
def lawS : Spec := fun as Q => ∃ ns : List Int, as = [.dat (.list (ns.map .int))] ∧ ns.length ≤ 63 ∧ Q (.bool true)
theorem law_start {H : Hp} {a : Addr} {ns : List Int} (hl : ns.length ≤ 63) (hS : SqL K H a (ns.map V.int)) {E : XK} : spD K lawS [.ref a] H (fun v _ => v = .bl true) E := by
  refine ⟨[], [.dat (.list (ns.map .int))], fun d => d = .bool true, .cons ?_ .nil, (fun _ z => nomatch z), trivial, ⟨ns, rfl, hl, rfl⟩, fun v H' d qd r _ _ => by subst qd; cases r; rfl⟩
  have hz : (ns.map V.int).length ≤ sizeLine := by rw [List.length_map]; exact Nat.le_of_lt (small1000 (by omega))
  refine .lst (hS.imp (fun q => ⟨q, (fun z => nomatch z)⟩) fun q => .inr q) hz (RpA.ofInts ns)
end
end CC

namespace CC
open PySem PySem.Spec PyProof.Rows L2
/-! ### a def with a default -/
theorem vals_one {i : Int} {ds : List Value} (h : Vals [V.int i] ds) : ∃ t, ds = [.int i t] := by
  cases h with
  | cons a b =>
    cases b
    obtain ⟨t, rfl⟩ := a
    exact ⟨t, rfl⟩
theorem vals_nil {ds : List Value} (h : Vals [] ds) : ds = [] := by cases h; rfl
theorem binds_df {K : PySem.W.Frag} {x qual : Str} {params : Arguments} {body : List Stmt} {scope : Scope} {f : Addr} {fd : FuncData} {ps : List Str} {d : Int} (F : FunD K x qual params body scope [V.int d] [] f fd) (n : Nat) (hn : ps.length = n + 1)
    (h1 : ∀ (T : Addr) (kV doc pm : Value) (an : Option Addr) (cdv ct : Value) (us its : List Value), us.length = n + 1 → its.length = 1 →
      ∃ k, bindArgs (PySem.W.fnOf x qual params body scope (.ref T) kV doc pm an cdv ct) ⟨us, []⟩ = seqItems? (.ref T) >>= k ∧ k (some its.toArray) = pure (ps.zip (us ++ its.drop 1)))
    (h2 : ∀ (T : Addr) (kV doc pm : Value) (an : Option Addr) (cdv ct : Value) (us its : List Value), us.length = n → its.length = 1 →
      ∃ k, bindArgs (PySem.W.fnOf x qual params body scope (.ref T) kV doc pm an cdv ct) ⟨us, []⟩ = seqItems? (.ref T) >>= k ∧ k (some its.toArray) = pure (ps.zip (us ++ its.drop 0))) :
    Binds K fd ps [] ∧ ∀ j, some d = some j → ∃ t, Binds K fd ps [.int j t] := by
  obtain ⟨d1, v1, b1⟩ := FunD.binds1 F (n + 1) 1 (by simp) (by simp [hn]) h1
  obtain ⟨d2, v2, b2⟩ := FunD.binds1 F n 0 (by simp) (by simp [hn]) h2
  have e1 := vals_nil v1
  obtain ⟨t, e2⟩ := vals_one v2
  subst e1 e2
  exact ⟨b1, fun j e => by cases e; exact ⟨t, b2⟩⟩
/-! ### constants that are tuples -/
def dvO : D → He.Dv
  | .int i => .int i
  | .str x => .str x
  | .bool b => .bl b
  | _ => .non
def faOf2 : Str × D → List He.Fa
  | (x, .int i) => [.int x i]
  | (x, .str z) => [.str x z]
  | (x, .tuple _) => [.glo x]
  | _ => []
def ndB (K : PySem.W.Frag) (a : Addr) : Bool := match K.lookup a with
  | some ⟨.type c, none, _, _⟩ => decide (c = "tuple")
  | _ => false
theorem ndB_ok {K : PySem.W.Frag} {a : Addr} (h : ndB K a = true) (H : Hp) : tyV K "tuple" (.ref a) H := by
  unfold ndB at h
  cases q : K.lookup a with
  | none => rw [q] at h; cases h
  | some o =>
    rw [q] at h
    obtain ⟨oc, od, dt, osl⟩ := o
    cases oc with
    | type c => cases od with
      | none => exact .inr (.inl ⟨rfl, _, q, congrArg Value.type (of_decide_eq_true h), rfl⟩)
      | some _ => cases h
    | _ => cases od <;> cases h
def coT (K : PySem.W.Frag) : Str × D → Bool
  | (_, .int _) => true
  | (_, .str _) => true
  | (x, .tuple ds) => (ds.all flatD && decide (ds.length ≤ 1000)) && (He.tupB K x (ds.map dvO) && ndB K (He.ga K x))
  | _ => false
def faAll2 (tab : List Ent) (co : List (Str × D)) : List He.Fa := tab.map (fun e => .glo e.x) ++ (blt.map .free ++ co.flatMap faOf2)
section
variable {P : Program} {w : World} {K : PySem.W.Frag} {mg : Str → Option Value} {base : Heap} {Φ : Nat → Spec} {tab : List Ent} {co : List (Str × D)} {fn : List He.DefD} {h : Heap}
theorem bl_ok2 (X : K.In h) (G : h.Ns mainGlobals mg) (c : He.SaysD (faAll2 tab co) fn K) : ∀ x ∈ blt, mg x = none := fun x hx =>
  He.free_ok X G (fact_mem c (List.mem_append_right _ (List.mem_append_left _ (List.mem_map_of_mem hx))))
theorem glo_mem2 (X : K.In h) (G : h.Ns mainGlobals mg) (c : He.SaysD (faAll2 tab co) fn K) {e : Ent} (he : e ∈ tab) : mg e.x = some (.ref (He.ga K e.x)) :=
  He.glo_ok X G (fact_mem c (List.mem_append_left _ (List.mem_map_of_mem (f := fun e : Ent => He.Fa.glo e.x) he)))
theorem rpA_flat {W : List Addr} {H : Hp} : ∀ (ds : List D), ds.all flatD = true → RpA K W H (ds.map fun d => (dvO d).v K) ds
  | [], _ => .nil
  | d :: ds, h => by
    simp only [List.all_cons, Bool.and_eq_true] at h
    refine .cons ?_ (rpA_flat ds h.2)
    cases d with
    | none => exact .non
    | bool b => exact .bl b
    | int i => exact .int i
    | str x => exact .str x
    | list _ => simp at h
    | tuple _ => simp at h
    | dict _ => simp at h
theorem co_ok2 (X : K.In h) (G : h.Ns mainGlobals mg) (c : He.SaysD (faAll2 tab co) fn K) (hc : co.all (coT K) = true) : CoOk K mg co := fun p hp => by
  have hb := List.all_eq_true.mp hc p hp
  have hm : ∀ f, f ∈ faOf2 p → f.ok K = true := fun f hf => fact_mem c (List.mem_append_right _ (List.mem_append_right _ (List.mem_flatMap.mpr ⟨p, hp, hf⟩)))
  obtain ⟨x, d⟩ := p
  cases d with
  | int i =>
    obtain ⟨t, ht⟩ := He.int_ok X G (hm _ List.mem_cons_self)
    exact ⟨.int i, _, ht, ⟨t, rfl⟩, fun _ _ => .int i, (fun _ z => nomatch z), fun _ z => nomatch z⟩
  | str z =>
    obtain ⟨t, ht⟩ := He.str_ok X G (hm _ List.mem_cons_self)
    exact ⟨.str z, _, ht, ⟨t, rfl⟩, fun _ _ => .str z, (fun _ z => nomatch z), fun _ z => nomatch z⟩
  | tuple ds =>
    simp only [coT, Bool.and_eq_true, decide_eq_true_eq] at hb
    have := He.glo_ok X G (hm _ List.mem_cons_self)
    refine ⟨.ref (He.ga K x), _, this, rfl, fun W H => .tup (.inr (by have := He.tupB_ok hb.2.1 HZ; exact this)) ?_ ?_, (fun _ z => nomatch z), fun _ _ H => ndB_ok hb.2.2 H⟩
    · simp only [List.length_map]
      exact Nat.le_of_lt (small1000 hb.1.2)
    · have := rpA_flat (K := K) (W := W) (H := H) ds hb.1.1
      simpa [List.map_map, Function.comp_def] using this
  | _ => cases hb
end
/-- the head's facts, and the tuples -/
def SaysE (fa : List He.Fa) (fn : List He.DefD) (ex : PySem.W.Frag → Bool) (K : PySem.W.Frag) : Prop := He.SaysD fa fn K ∧ ex K = true
abbrev AlE : Type := He.AlD × Bool
def obsEG (n : Nat) (fa : List He.Fa) (fn : List He.DefD) (ex : PySem.W.Frag → Bool) (g : Addr → Option Obj) : AlE := (He.obsD fa fn (He.frG g (He.asD g n)), ex (He.frG g (He.asD g n)))
def hookE (n : Nat) (fa : List He.Fa) (fn : List He.DefD) (ex : PySem.W.Frag → Bool) : PySem.W.Hook where
  α := AlE
  obs := fun s => obsEG n fa fn ex s.heap.get?
  val := fun _ => (He.valD fn, true)
  says := fun _ h => ∃ K : PySem.W.Frag, K.In h ∧ SaysE fa fn ex K
  of := fun _ _ e => ⟨_, He.frG_in, congrArg (fun z : AlE => z.1) e, congrArg (fun z : AlE => z.2) e⟩
  keeps := fun _ _ _ ⟨K, hK, c⟩ k => ⟨K, PySem.W.Frag.In.keeps hK k, c⟩
theorem obsEG_eq {n : Nat} {fa : List He.Fa} {fn : List He.DefD} {ex : PySem.W.Frag → Bool} {g : Addr → Option Obj} {s : Shared} (h : ∀ a, g a = s.heap.get? a) : obsEG n fa fn ex g = (hookE n fa fn ex).obs s := by
  have e : g = s.heap.get? := funext h
  rw [e] <;> rfl
end CC

namespace CC
open PySem
/-- is_from -/
def b0 : Sms := (.cons (.ret (.and (.isi (.v 0) .int) (.and (.not (.isi (.v 0) .bool)) (.chn .le .le (.v 1) (.v 0) (.v 2))))) .nil)
/-- is_tuple_of -/
def b1 : Sms := (.cons (.ret (.and (.isi (.v 0) .tuple) (.cmp .eq (.bi .len (.cons (.v 0) .nil)) (.v 1)))) .nil)
/-- common -/
def b2 : Sms := (.cons (.while_ (.of (.cmp .gt (.v 1) (.k (.int 0)))) (.cons (.par false 0 1 (.v 1) (.bin .mod (.v 0) (.v 1))) .nil)) (.cons (.ret (.v 0)) .nil))
/-- lowest -/
def b3 : Sms := (.cons (.set false 2 (.call 2 (.cons (.bi .abs (.cons (.v 0) .nil)) (.cons (.v 1) .nil)))) (.cons (.ret (.tup (.cons (.bin .fdiv (.v 0) (.v 2)) (.cons (.bin .fdiv (.v 1) (.v 2)) .nil)))) .nil))
/-- is_measure_of -/
def b4 : Sms := (.cons (.ite (.or (.not (.of (.call 1 (.cons (.v 0) (.cons (.k (.int 2)) .nil))))) (.or (.not (.of (.call 0 (.cons (.ix (.v 0) (.k (.int 0))) (.cons (.k (.int 1)) (.cons (.k (.int 1000000)) .nil)))))) (.not (.of (.call 0 (.cons (.ix (.v 0) (.k (.int 1))) (.cons (.k (.int 1)) (.cons (.k (.int 1000000)) .nil))))))))
  (.cons (.ret (.k (.bool false))) .nil)
  .nil) (.cons (.ret (.cmp .eq (.call 2 (.cons (.ix (.v 0) (.k (.int 0))) (.cons (.ix (.v 0) (.k (.int 1))) .nil))) (.k (.int 1)))) .nil))
/-- is_coin -/
def b5 : Sms := (.cons (.ite (.or (.not (.of (.call 1 (.cons (.v 0) (.cons (.k (.int 4)) .nil))))) (.not (.of (.isi (.ix (.v 0) (.k (.int 3))) .bool))))
  (.cons (.ret (.k (.bool false))) .nil)
  .nil) (.cons (.ret (.bi .all (.cons (.comp (.call 4 (.cons (.v 1) .nil)) (.nm 1) (.of (.slh (.v 0) (.k (.int 3)))) .tt [1]) .nil))) .nil))
/-- is_place -/
def b6 : Sms := (.cons (.ret (.call 0 (.cons (.v 0) (.cons (.k (.int (-1))) (.cons (.k (.int 3)) .nil))))) .nil)
/-- is_step -/
def b7 : Sms := (.cons (.ite (.or (.not (.of (.isi (.v 0) .tuple))) (.or (.of (.cmp .eq (.v 0) (.tup .nil))) (.not (.of (.isi (.ix (.v 0) (.k (.int 0))) .str)))))
  (.cons (.ret (.k (.bool false))) .nil)
  .nil) (.cons (.ite (.of (.cmp .eq (.ix (.v 0) (.k (.int 0))) (.k (.str "magnet"))))
  (.cons (.ret (.and (.cmp .eq (.bi .len (.cons (.v 0) .nil)) (.k (.int 2))) (.call 6 (.cons (.ix (.v 0) (.k (.int 1))) .nil)))) .nil)
  .nil) (.cons (.ite (.or (.of (.cmp .notin (.ix (.v 0) (.k (.int 0))) (.tup (.cons (.k (.str "hole")) (.cons (.k (.str "gap")) (.cons (.k (.str "scale")) .nil)))))) (.of (.cmp .ne (.bi .len (.cons (.v 0) .nil)) (.k (.int 3)))))
  (.cons (.ret (.k (.bool false))) .nil)
  .nil) (.cons (.ret (.and (.call 0 (.cons (.ix (.v 0) (.k (.int 1))) (.cons (.k (.int 1)) (.cons (.k (.int 80)) .nil)))) (.call 6 (.cons (.ix (.v 0) (.k (.int 2))) .nil)))) .nil))))
/-- is_machine -/
def b8 : Sms := (.cons (.ret (.and (.isi (.v 0) .tuple) (.and (.cmp .le (.bi .len (.cons (.v 0) .nil)) (.k (.int 8))) (.bi .all (.cons (.comp (.call 7 (.cons (.v 1) .nil)) (.nm 1) (.of (.v 0)) .tt [1]) .nil))))) .nil)
/-- are_bounds -/
def b9 : Sms := (.cons (.ret (.and (.call 1 (.cons (.v 0) (.cons (.k (.int 2)) .nil))) (.and (.call 0 (.cons (.ix (.v 0) (.k (.int 0))) (.cons (.k (.int 1)) (.cons (.k (.int 40)) .nil)))) (.call 0 (.cons (.ix (.v 0) (.k (.int 1))) (.cons (.ix (.v 0) (.k (.int 0))) (.cons (.k (.int 40)) .nil))))))) .nil)
/-- is_kind -/
def b10 : Sms := (.cons (.ite (.or (.not (.of (.call 1 (.cons (.v 0) (.cons (.k (.int 5)) .nil))))) (.not (.of (.bi .all (.cons (.comp (.call 9 (.cons (.v 1) .nil)) (.nm 1) (.of (.slh (.v 0) (.k (.int 3)))) .tt [1]) .nil)))))
  (.cons (.ret (.k (.bool false))) .nil)
  .nil) (.cons (.ret (.and (.isi (.ix (.v 0) (.k (.int 3))) .bool) (.call 6 (.cons (.ix (.v 0) (.k (.int 4))) .nil)))) .nil))
/-- are_kinds -/
def b11 : Sms := (.cons (.ret (.and (.isi (.v 0) .tuple) (.and (.chn .le .le (.k (.int 1)) (.bi .len (.cons (.v 0) .nil)) (.k (.int 4))) (.bi .all (.cons (.comp (.call 10 (.cons (.v 1) .nil)) (.nm 1) (.of (.v 0)) .tt [1]) .nil))))) .nil)
/-- is_plan -/
def b12 : Sms := (.cons (.ret (.and (.call 1 (.cons (.v 0) (.cons (.k (.int 2)) .nil))) (.and (.call 11 (.cons (.ix (.v 0) (.k (.int 0))) .nil)) (.call 8 (.cons (.ix (.v 0) (.k (.int 1))) .nil))))) .nil)
/-- need_plan -/
def b13 : Sms := (.cons (.ite (.not (.of (.call 12 (.cons (.v 0) .nil))))
  (.cons .never .nil)
  .nil) .nil)
/-- need_coin -/
def b14 : Sms := (.cons (.ite (.not (.of (.call 5 (.cons (.v 0) .nil))))
  (.cons .never .nil)
  .nil) .nil)
/-- need_kind -/
def b15 : Sms := (.cons (.ite (.not (.of (.call 0 (.cons (.v 1) (.cons (.k (.int 0)) (.cons (.bin .sub (.bi .len (.cons (.ix (.v 0) (.k (.int 0))) .nil)) (.k (.int 1))) .nil))))))
  (.cons .never .nil)
  .nil) .nil)
/-- is_within -/
def b16 : Sms := (.cons (.ret (.chn .le .le (.bin .mul (.ix (.v 1) (.k (.int 0))) (.ix (.v 0) (.k (.int 1)))) (.ix (.v 0) (.k (.int 0))) (.bin .mul (.ix (.v 1) (.k (.int 1))) (.ix (.v 0) (.k (.int 1)))))) .nil)
/-- belongs -/
def b17 : Sms := (.cons (.ret (.and (.cmp .eq (.ix (.v 1) (.k (.int 3))) (.ix (.v 0) (.k (.int 3)))) (.bi .all (.cons (.comp (.call 16 (.cons (.v 2) (.cons (.v 3) .nil))) (.tp [2, 3]) (.zip (.slh (.v 1) (.k (.int 3))) (.slh (.v 0) (.k (.int 3)))) .tt [2, 3]) .nil)))) .nil)
/-- is_of_kind -/
def b21 : Sms := (.cons (.ex (.call 13 (.cons (.v 0) .nil))) (.cons (.ex (.call 15 (.cons (.v 0) (.cons (.v 1) .nil)))) (.cons (.ex (.call 14 (.cons (.v 2) .nil))) (.cons (.ret (.call 17 (.cons (.ix (.ix (.v 0) (.k (.int 0))) (.v 1)) (.cons (.v 2) .nil)))) .nil))))
/-- _law_bag -/
def b23s : Sm := (.set false 2 (.ite (.of (.cmp .lt (.v 1) (.bi .len (.cons (.v 0) .nil)))) (.bi .abs (.cons (.bi .int (.cons (.ix (.v 0) (.v 1)) .nil)) .nil)) (.bin .add (.bin .mul (.k (.int 67)) (.v 1)) (.k (.int 29)))))
def b23e : Ex := (.lst (.cons (.ite (.of (.cmp .ge (.v 2) (.bin .pow (.k (.int 10)) (.k (.int 18))))) (.v 2) (.k (.int 0))) (.cons (.bin .mod (.bi .int (.cons (.bin .add (.bin .add (.bin .mod (.bi .int (.cons (.v 2) .nil)) (.k (.int 2147483179))) (.bin .mul (.k (.int 70001)) (.v 1))) (.k (.int 53))) .nil)) (.k (.int 2147483179))) .nil)))
/-- _law_take -/
def b24 : Sms := (.cons (.ite (.of (.cmp .gt (.bx 0 0) (.k (.int 0))))
  (.cons (.set false 2 (.bin .mod (.bi .int (.cons (.bx 0 0) .nil)) (.v 1))) (.cons (.bw 0 0 (.bin .fdiv (.bi .int (.cons (.bx 0 0) .nil)) (.v 1))) (.cons (.ret (.v 2)) .nil)))
  .nil) (.cons (.bw 0 1 (.bin .mod (.bi .int (.cons (.bin .add (.bin .mul (.bx 0 1) (.k (.int 41358))) (.k (.int 503))) .nil)) (.k (.int 2147483179)))) (.cons (.set false 3 (.bin .mod (.bin .mul (.bi .int (.cons (.bx 0 1) .nil)) (.bin .add (.bin .fdiv (.bi .int (.cons (.bx 0 1) .nil)) (.k (.int 17))) (.k (.int 37)))) (.k (.int 2147483137)))) (.cons (.ret (.bin .mod (.bi .int (.cons (.bin .fdiv (.bi .int (.cons (.v 3) .nil)) (.k (.int 19))) .nil)) (.v 1))) .nil))))
/-- _law_of -/
def b25 : Sms := (.cons (.ret (.ix (.v 1) (.call 24 (.cons (.v 0) (.cons (.bi .len (.cons (.v 1) .nil)) .nil))))) .nil)
/-- _law_kind -/
def b26 : Sms := (.cons (.own 2 (.lst .nil)) (.cons (.for_ false (.nm 3) (.rng1 (.k (.int 3)))
  (.cons (.set false 4 (.bin .add (.k (.int 1)) (.call 24 (.cons (.v 0) (.cons (.v 1) .nil))))) (.cons (.app 2 (.tup (.cons (.v 4) (.cons (.bin .add (.v 4) (.call 25 (.cons (.v 0) (.cons (.lst (.cons (.k (.int 0)) (.cons (.k (.int 0)) (.cons (.k (.int 1)) (.cons (.k (.int 2)) (.cons (.k (.int 3)) (.cons (.k (.int 5)) .nil))))))) .nil)))) .nil)))) .nil))) (.cons (.ret (.tup (.cons (.ix (.v 2) (.k (.int 0))) (.cons (.ix (.v 2) (.k (.int 1))) (.cons (.ix (.v 2) (.k (.int 2))) (.cons (.cmp .eq (.call 24 (.cons (.v 0) (.cons (.k (.int 4)) .nil))) (.k (.int 0))) (.cons (.call 25 (.cons (.v 0) (.cons (.lst (.cons (.neg (.k (.int 1))) (.cons (.k (.int 0)) (.cons (.k (.int 1)) (.cons (.k (.int 1)) (.cons (.k (.int 2)) .nil)))))) .nil))) .nil))))))) .nil)))
/-- _law_step -/
def b27 : Sms := (.cons (.set false 2 (.call 25 (.cons (.v 0) (.cons (.lst (.cons (.k (.str "hole")) (.cons (.k (.str "hole")) (.cons (.k (.str "gap")) (.cons (.k (.str "scale")) (.cons (.k (.str "scale")) (.cons (.k (.str "magnet")) .nil))))))) .nil)))) (.cons (.set false 3 (.call 25 (.cons (.v 0) (.cons (.lst (.cons (.neg (.k (.int 1))) (.cons (.k (.int 0)) (.cons (.k (.int 1)) (.cons (.k (.int 2)) (.cons (.k (.int 3)) .nil)))))) .nil)))) (.cons (.ret (.ite (.of (.cmp .eq (.v 2) (.k (.str "magnet")))) (.tup (.cons (.v 2) (.cons (.v 3) .nil))) (.tup (.cons (.v 2) (.cons (.bin .add (.k (.int 1)) (.call 24 (.cons (.v 0) (.cons (.bin .add (.v 1) (.k (.int 6))) .nil)))) (.cons (.v 3) .nil)))))) .nil)))
/-- _law_plan -/
def b28 : Sms := (.cons (.set false 3 (.call 25 (.cons (.v 0) (.cons (.lst (.cons (.k (.int 5)) (.cons (.k (.int 9)) (.cons (.k (.int 20)) .nil)))) .nil)))) (.cons (.set false 4 (.bi .tuple (.cons (.comp (.call 26 (.cons (.v 0) (.cons (.v 3) .nil))) (.nm 5) (.rng1 (.bin .add (.k (.int 1)) (.call 24 (.cons (.v 0) (.cons (.v 1) .nil))))) .tt [5]) .nil))) (.cons (.own 6 (.lst .nil)) (.cons (.for_ false (.nm 5) (.rng1 (.call 24 (.cons (.v 0) (.cons (.bin .add (.v 2) (.k (.int 1))) .nil))))
  (.cons (.set false 7 (.call 25 (.cons (.v 0) (.cons (.bi .list (.cons (.v 4) .nil)) .nil)))) (.cons (.set false 8 (.lst (.cons (.tup (.cons (.k (.str "hole")) (.cons (.ix (.ix (.v 7) (.k (.int 0))) (.k (.int 1))) (.cons (.ix (.v 7) (.k (.int 4))) .nil)))) (.cons (.tup (.cons (.k (.str "gap")) (.cons (.ix (.ix (.v 7) (.k (.int 1))) (.k (.int 1))) (.cons (.ix (.v 7) (.k (.int 4))) .nil)))) (.cons (.tup (.cons (.k (.str "scale")) (.cons (.ix (.ix (.v 7) (.k (.int 2))) (.k (.int 0))) (.cons (.ix (.v 7) (.k (.int 4))) .nil)))) .nil))))) (.cons (.app 6 (.ite (.of (.cmp .eq (.call 24 (.cons (.v 0) (.cons (.k (.int 2)) .nil))) (.k (.int 0)))) (.call 25 (.cons (.v 0) (.cons (.v 8) .nil))) (.call 27 (.cons (.v 0) (.cons (.v 3) .nil))))) .nil)))) (.cons (.ret (.tup (.cons (.v 4) (.cons (.bi .tuple (.cons (.v 6) .nil)) .nil)))) .nil)))))
/-- _law_lowest -/
def b29 : Sms := (.cons (.par false 2 3 (.bi .abs (.cons (.v 0) .nil)) (.bi .abs (.cons (.v 1) .nil))) (.cons (.while_ (.of (.cmp .ne (.v 3) (.k (.int 0)))) (.cons (.par false 2 3 (.v 3) (.bin .mod (.v 2) (.v 3))) .nil)) (.cons (.ret (.tup (.cons (.bin .fdiv (.v 0) (.v 2)) (.cons (.bin .fdiv (.v 1) (.v 2)) .nil)))) .nil)))
/-- _law_any_coin -/
def b31 : Sms := (.cons (.own 1 (.lst .nil)) (.cons (.for_ false (.nm 2) (.rng1 (.k (.int 3)))
  (.cons (.set false 3 (.call 25 (.cons (.v 0) (.cons (.lst (.cons (.k (.int 1)) (.cons (.k (.int 1)) (.cons (.k (.int 2)) (.cons (.k (.int 5)) (.cons (.k (.int 1000)) .nil)))))) .nil)))) (.cons (.app 1 (.call 29 (.cons (.bin .add (.k (.int 1)) (.call 24 (.cons (.v 0) (.cons (.bin .mul (.call 25 (.cons (.v 0) (.cons (.lst (.cons (.k (.int 6)) (.cons (.k (.int 20)) (.cons (.k (.int 90)) .nil)))) .nil))) (.v 3)) .nil)))) (.cons (.v 3) .nil)))) .nil))) (.cons (.ret (.tup (.cons (.ix (.v 1) (.k (.int 0))) (.cons (.ix (.v 1) (.k (.int 1))) (.cons (.ix (.v 1) (.k (.int 2))) (.cons (.cmp .eq (.call 24 (.cons (.v 0) (.cons (.k (.int 2)) .nil))) (.k (.int 0))) .nil)))))) .nil)))
/-- need_machine -/
def b46 : Sms := (.cons (.ite (.not (.of (.call 8 (.cons (.v 0) .nil))))
  (.cons .never .nil)
  .nil) .nil)
/-- takes -/
def b47 : Sms := (.cons (.ite (.of (.cmp .eq (.ix (.v 0) (.k (.int 0))) (.k (.str "magnet"))))
  (.cons (.ret (.ix (.v 1) (.k (.int 3)))) .nil)
  .nil) (.cons (.ite (.of (.cmp .eq (.ix (.v 0) (.k (.int 0))) (.k (.str "hole"))))
  (.cons (.ret (.cmp .le (.ix (.ix (.v 1) (.k (.int 0))) (.k (.int 0))) (.bin .mul (.ix (.v 0) (.k (.int 1))) (.ix (.ix (.v 1) (.k (.int 0))) (.k (.int 1)))))) .nil)
  .nil) (.cons (.ite (.of (.cmp .eq (.ix (.v 0) (.k (.int 0))) (.k (.str "gap"))))
  (.cons (.ret (.cmp .le (.ix (.ix (.v 1) (.k (.int 1))) (.k (.int 0))) (.bin .mul (.ix (.v 0) (.k (.int 1))) (.ix (.ix (.v 1) (.k (.int 1))) (.k (.int 1)))))) .nil)
  .nil) (.cons (.ret (.cmp .ge (.ix (.ix (.v 1) (.k (.int 2))) (.k (.int 0))) (.bin .mul (.ix (.v 0) (.k (.int 1))) (.ix (.ix (.v 1) (.k (.int 2))) (.k (.int 1)))))) .nil))))
/-- index_of -/
def b48 : Sms := (.cons (.for_ false (.tp [2, 3]) (.enum (.v 0))
  (.cons (.ite (.of (.call 47 (.cons (.v 3) (.cons (.v 1) .nil))))
  (.cons (.ret (.v 2)) .nil)
  .nil) .nil)) (.cons (.ret (.k .none)) .nil))
/-- end_of -/
def b49 : Sms := (.cons (.set false 2 (.call 48 (.cons (.v 0) (.cons (.v 1) .nil)))) (.cons (.ret (.ite (.of (.cmp .isN (.v 2) (.k .none))) (.k (.int (-1))) (.ix (.ix (.v 0) (.v 2)) (.neg (.k (.int 1)))))) .nil))
/-- need_both -/
def b50 : Sms := (.cons (.ex (.call 46 (.cons (.v 0) .nil))) (.cons (.ex (.call 14 (.cons (.v 1) .nil))) .nil))
/-- place_of -/
def b51 : Sms := (.cons (.ex (.call 50 (.cons (.v 0) (.cons (.v 1) .nil)))) (.cons (.ret (.call 49 (.cons (.v 0) (.cons (.v 1) .nil)))) .nil))
/-- step_of -/
def b52 : Sms := (.cons (.ex (.call 50 (.cons (.v 0) (.cons (.v 1) .nil)))) (.cons (.ret (.call 48 (.cons (.v 0) (.cons (.v 1) .nil)))) .nil))
/-- path -/
def b53 : Sms := (.cons (.ex (.call 50 (.cons (.v 0) (.cons (.v 1) .nil)))) (.cons (.set false 2 (.call 48 (.cons (.v 0) (.cons (.v 1) .nil)))) (.cons (.ret (.comp (.ix (.v 3) (.k (.int 0))) (.nm 3) (.of (.ite (.of (.cmp .isN (.v 2) (.k .none))) (.v 0) (.slh (.v 0) (.bin .add (.v 2) (.k (.int 1)))))) .tt [3])) .nil)))
/-- _law_machine -/
def b54 : Sms := (.cons (.ret (.bi .tuple (.cons (.comp (.call 27 (.cons (.v 0) (.cons (.call 25 (.cons (.v 0) (.cons (.lst (.cons (.k (.int 4)) (.cons (.k (.int 12)) .nil))) .nil))) .nil))) (.nm 2) (.rng1 (.call 24 (.cons (.v 0) (.cons (.bin .add (.v 1) (.k (.int 1))) .nil)))) .tt [2]) .nil))) .nil)
/-- _law_index -/
def b55 : Sms := (.cons (.for_ false (.nm 2) (.rng1 (.bi .len (.cons (.v 0) .nil)))
  (.cons (.set false 3 (.ix (.v 0) (.v 2))) (.cons (.set false 4 (.dsub [("hole", 0), ("gap", 1), ("scale", 2), ("magnet", 3)] (.ix (.v 3) (.k (.int 0))))) (.cons (.ite (.of (.cmp .eq (.v 4) (.k (.int 3))))
  (.cons (.set false 5 (.ix (.v 1) (.k (.int 3)))) .nil)
  (.cons (.set false 6 (.bin .sub (.bin .mul (.ix (.v 3) (.k (.int 1))) (.ix (.ix (.v 1) (.v 4)) (.k (.int 1)))) (.ix (.ix (.v 1) (.v 4)) (.k (.int 0))))) (.cons (.set false 5 (.ite (.of (.cmp .eq (.v 4) (.k (.int 2)))) (.cmp .le (.v 6) (.k (.int 0))) (.cmp .ge (.v 6) (.k (.int 0))))) .nil))) (.cons (.ite (.of (.v 5))
  (.cons (.ret (.v 2)) .nil)
  .nil) .nil))))) (.cons (.ret (.k .none)) .nil))
/-- _law_end -/
def b56 : Sms := (.cons (.set false 2 (.call 55 (.cons (.v 0) (.cons (.v 1) .nil)))) (.cons (.ret (.ite (.of (.cmp .isN (.v 2) (.k .none))) (.neg (.k (.int 1))) (.ix (.ix (.v 0) (.v 2)) (.neg (.k (.int 1)))))) .nil))
/-- need_place -/
def b58 : Sms := (.cons (.ite (.not (.of (.call 6 (.cons (.v 0) .nil))))
  (.cons .never .nil)
  .nil) .nil)
/-- is_some -/
def b59 : Sms := (.cons (.tup false (.tp [1, 2, 3, 4]) (.v 0)) (.cons (.ret (.or (.cmp .isN (.v 3) (.k .none)) (.or (.cmp .lt (.v 1) (.v 3)) (.and (.cmp .eq (.v 1) (.v 3)) (.and (.v 2) (.v 4)))))) .nil))
/-- up_to -/
def b60 : Sms := (.cons (.tup false (.tp [2, 3, 4, 5]) (.v 0)) (.cons (.ret (.ite (.or (.of (.cmp .isN (.v 4) (.k .none))) (.of (.cmp .gt (.v 4) (.v 1)))) (.tup (.cons (.v 2) (.cons (.v 3) (.cons (.v 1) (.cons (.k (.bool true)) .nil))))) (.v 0))) .nil))
/-- over -/
def b61 : Sms := (.cons (.tup false (.tp [2, 3, 4, 5]) (.v 0)) (.cons (.ret (.ite (.of (.cmp .le (.v 2) (.v 1))) (.tup (.cons (.v 1) (.cons (.k (.bool false)) (.cons (.v 4) (.cons (.v 5) .nil))))) (.v 0))) .nil))
/-- from_on -/
def b62 : Sms := (.cons (.tup false (.tp [2, 3, 4, 5]) (.v 0)) (.cons (.ret (.ite (.of (.cmp .lt (.v 2) (.v 1))) (.tup (.cons (.v 1) (.cons (.k (.bool true)) (.cons (.v 4) (.cons (.v 5) .nil))))) (.v 0))) .nil))
/-- under -/
def b63 : Sms := (.cons (.tup false (.tp [2, 3, 4, 5]) (.v 0)) (.cons (.ret (.ite (.or (.of (.cmp .isN (.v 4) (.k .none))) (.of (.cmp .ge (.v 4) (.v 1)))) (.tup (.cons (.v 2) (.cons (.v 3) (.cons (.v 1) (.cons (.k (.bool false)) .nil))))) (.v 0))) .nil))
/-- with_span -/
def b64 : Sms := (.cons (.ret (.bin .add (.bin .add (.slh (.v 0) (.v 1)) (.tup (.cons (.v 2) .nil))) (.sll (.v 0) (.bin .add (.v 1) (.k (.int 1)))))) .nil)
/-- split -/
def b65 : Sms := (.cons (.ite (.of (.cmp .eq (.ix (.v 0) (.k (.int 0))) (.k (.str "magnet"))))
  (.cons (.ret (.ite (.of (.v 2)) (.tup (.cons (.v 1) (.cons (.k .none) .nil))) (.tup (.cons (.k .none) (.cons (.v 1) .nil))))) .nil)
  .nil) (.cons (.par false 3 4 (.ite (.of (.cmp .eq (.ix (.v 0) (.k (.int 0))) (.k (.str "hole")))) (.k (.int 0)) (.ite (.of (.cmp .eq (.ix (.v 0) (.k (.int 0))) (.k (.str "gap")))) (.k (.int 1)) (.k (.int 2)))) (.bin .mul (.k (.int 2)) (.ix (.v 0) (.k (.int 1))))) (.cons (.ite (.of (.cmp .lt (.v 3) (.k (.int 2))))
  (.cons (.par false 5 6 (.call 60 (.cons (.ix (.v 1) (.v 3)) (.cons (.v 4) .nil))) (.call 61 (.cons (.ix (.v 1) (.v 3)) (.cons (.v 4) .nil)))) .nil)
  (.cons (.par false 5 6 (.call 62 (.cons (.ix (.v 1) (.v 3)) (.cons (.v 4) .nil))) (.call 63 (.cons (.ix (.v 1) (.v 3)) (.cons (.v 4) .nil)))) .nil)) (.cons (.set false 7 (.ite (.of (.call 59 (.cons (.v 5) .nil))) (.call 64 (.cons (.v 1) (.cons (.v 3) (.cons (.v 5) .nil)))) (.k .none))) (.cons (.ret (.tup (.cons (.v 7) (.cons (.ite (.of (.call 59 (.cons (.v 6) .nil))) (.call 64 (.cons (.v 1) (.cons (.v 3) (.cons (.v 6) .nil)))) (.k .none)) .nil)))) .nil)))))
/-- pieces_of -/
def b66 : Sms := (.cons (.set false 3 (.lst .nil)) (.cons (.for_ false (.tp [4, 5]) (.enum (.v 0))
  (.cons (.tup false (.tp [6, 7]) (.call 65 (.cons (.v 5) (.cons (.v 1) (.cons (.v 2) .nil))))) (.cons (.ite (.of (.cmp .notN (.v 6) (.k .none)))
  (.cons (.set false 3 (.bin .add (.v 3) (.lst (.cons (.tup (.cons (.v 6) (.cons (.v 2) (.cons (.v 4) (.cons (.ix (.v 5) (.neg (.k (.int 1)))) .nil))))) .nil)))) .nil)
  .nil) (.cons (.ite (.of (.cmp .isN (.v 7) (.k .none)))
  (.cons (.ret (.v 3)) .nil)
  .nil) (.cons (.set false 1 (.v 7)) .nil))))) (.cons (.ret (.bin .add (.v 3) (.lst (.cons (.tup (.cons (.v 1) (.cons (.v 2) (.cons (.k .none) (.cons (.k (.int (-1))) .nil))))) .nil)))) .nil)))
/-- spans_of -/
def b67 : Sms := (.cons (.set false 2 (.tup .nil)) (.cons (.for_ false (.tp [3, 4]) (.of (.slh (.v 0) (.k (.int 3))))
  (.cons (.set false 5 (.bin .sub (.bin .mul (.k (.int 2)) (.v 3)) (.v 1))) (.cons (.set false 2 (.bin .add (.v 2) (.tup (.cons (.ite (.of (.cmp .gt (.v 5) (.k (.int 0)))) (.tup (.cons (.v 5) (.cons (.k (.bool true)) (.cons (.bin .add (.bin .mul (.k (.int 2)) (.v 4)) (.v 1)) (.cons (.k (.bool true)) .nil))))) (.tup (.cons (.k (.int 0)) (.cons (.k (.bool false)) (.cons (.bin .add (.bin .mul (.k (.int 2)) (.v 4)) (.v 1)) (.cons (.k (.bool true)) .nil)))))) .nil)))) .nil))) (.cons (.ret (.v 2)) .nil)))
/-- pieces_for -/
def b68 : Sms := (.cons (.ret (.call 66 (.cons (.v 0) (.cons (.call 67 (.cons (.v 1) (.cons (.v 2) .nil))) (.cons (.ix (.v 1) (.k (.int 3))) .nil))))) .nil)
/-- number_in -/
def b69 : Sms := (.cons (.tup false (.tp [1, 2, 3, 4]) (.v 0)) (.cons (.ite (.of (.v 2))
  (.cons (.ret (.call 3 (.cons (.v 1) (.cons (.k (.int 2)) .nil)))) .nil)
  .nil) (.cons (.ret (.ite (.of (.cmp .isN (.v 3) (.k .none))) (.call 3 (.cons (.bin .add (.v 1) (.k (.int 2))) (.cons (.k (.int 2)) .nil))) (.call 3 (.cons (.bin .add (.v 1) (.v 3)) (.cons (.k (.int 4)) .nil))))) .nil)))
/-- coin_in -/
def b70 : Sms := (.cons (.ret (.tup (.cons (.call 69 (.cons (.ix (.v 0) (.k (.int 0))) .nil)) (.cons (.call 69 (.cons (.ix (.v 0) (.k (.int 1))) .nil)) (.cons (.call 69 (.cons (.ix (.v 0) (.k (.int 2))) .nil)) (.cons (.v 1) .nil)))))) .nil)
/-- ends_of -/
def b71 : Sms := (.cons (.ret (.bi .ssetI (.cons (.comp (.bi .int (.cons (.v 6) .nil)) (.tp [3, 4, 5, 6]) (.of (.call 68 (.cons (.v 0) (.cons (.v 1) (.cons (.v 2) .nil))))) .tt [3, 4, 5, 6]) .nil))) .nil)
/-- size_of -/
def b72 : Sms := (.cons (.tup false (.tp [2, 3]) (.tup (.cons (.k (.int 1)) (.cons (.k (.int 1)) .nil)))) (.cons (.for_ false (.tp [4, 5]) (.zip (.v 0) (.slh (.v 1) (.k (.int 3))))
  (.cons (.ite (.of (.cmp .lt (.ix (.v 5) (.k (.int 0))) (.ix (.v 5) (.k (.int 1)))))
  (.cons (.par false 2 3 (.bin .mul (.v 2) (.bin .sub (.ix (.v 4) (.k (.int 2))) (.ix (.v 4) (.k (.int 0))))) (.bin .mul (.bin .mul (.v 3) (.k (.int 2))) (.bin .sub (.ix (.v 5) (.k (.int 1))) (.ix (.v 5) (.k (.int 0)))))) .nil)
  .nil) .nil)) (.cons (.ret (.tup (.cons (.v 2) (.cons (.v 3) .nil)))) .nil)))
/-- share_of -/
def b73 : Sms := (.cons (.tup false (.tp [3, 4]) (.tup (.cons (.k (.int 0)) (.cons (.k (.int 1)) .nil)))) (.cons (.for_ false (.tp [5, 6, 7, 8]) (.of (.call 68 (.cons (.v 0) (.cons (.v 1) (.cons (.k (.int 0)) .nil)))))
  (.cons (.ite (.of (.cmp .eq (.v 8) (.v 2)))
  (.cons (.tup false (.tp [9, 10]) (.call 72 (.cons (.v 5) (.cons (.v 1) .nil)))) (.cons (.par false 3 4 (.bin .add (.bin .mul (.v 3) (.v 10)) (.bin .mul (.v 9) (.v 4))) (.bin .mul (.v 4) (.v 10))) .nil))
  .nil) .nil)) (.cons (.ret (.call 3 (.cons (.v 3) (.cons (.v 4) .nil)))) .nil)))
/-- places -/
def b74 : Sms := (.cons (.ex (.call 13 (.cons (.v 0) .nil))) (.cons (.ex (.call 15 (.cons (.v 0) (.cons (.v 1) .nil)))) (.cons (.ret (.call 71 (.cons (.ix (.v 0) (.k (.int 1))) (.cons (.ix (.ix (.v 0) (.k (.int 0))) (.v 1)) (.cons (.k (.int 0)) .nil))))) .nil)))
/-- coin_to -/
def b75 : Sms := (.cons (.ex (.call 13 (.cons (.v 0) .nil))) (.cons (.ex (.call 15 (.cons (.v 0) (.cons (.v 1) .nil)))) (.cons (.ex (.call 58 (.cons (.v 2) .nil))) (.cons (.for_ false (.tp [3, 4, 5, 6]) (.of (.call 68 (.cons (.ix (.v 0) (.k (.int 1))) (.cons (.ix (.ix (.v 0) (.k (.int 0))) (.v 1)) (.cons (.k (.int 0)) .nil)))))
  (.cons (.ite (.of (.cmp .eq (.v 6) (.v 2)))
  (.cons (.ret (.call 70 (.cons (.v 3) (.cons (.v 4) .nil)))) .nil)
  .nil) .nil)) (.cons (.ret (.k .none)) .nil)))))
/-- share -/
def b76 : Sms := (.cons (.ex (.call 13 (.cons (.v 0) .nil))) (.cons (.ex (.call 15 (.cons (.v 0) (.cons (.v 1) .nil)))) (.cons (.ex (.call 58 (.cons (.v 2) .nil))) (.cons (.ret (.call 73 (.cons (.ix (.v 0) (.k (.int 1))) (.cons (.ix (.ix (.v 0) (.k (.int 0))) (.v 1)) (.cons (.v 2) .nil))))) .nil))))
/-- _law_limits -/
def b77 : Sms := (.cons (.tup false (.tp [2, 3]) (.tup (.cons (.ix (.lst (.cons (.k (.str "hole")) (.cons (.k (.str "gap")) (.cons (.k (.str "scale")) .nil)))) (.v 1)) (.cons (.lst .nil) .nil)))) (.cons (.for_ false (.nm 4) (.of (.v 0))
  (.cons (.set false 3 (.bin .add (.v 3) (.comp (.ix (.v 5) (.k (.int 1))) (.nm 5) (.of (.v 4)) (.of (.cmp .eq (.ix (.v 5) (.k (.int 0))) (.v 2))) [5]))) .nil)) (.cons (.ret (.v 3)) .nil)))
/-- _law_cells -/
def b78 : Sms := (.cons (.tup false (.tp [2, 3]) (.v 0)) (.cons (.set false 4 (.bi .ssetI (.cons (.comp (.v 5) (.nm 5) (.of (.v 1)) (.and (.of (.cmp .lt (.v 2) (.v 5))) (.or (.of (.cmp .isN (.v 3) (.k .none))) (.of (.cmp .lt (.v 5) (.v 3))))) [5]) .nil))) (.cons (.set false 6 (.bin .add (.bin .add (.lst (.cons (.v 2) .nil)) (.v 4)) (.ite (.and (.of (.cmp .notN (.v 3) (.k .none))) (.of (.cmp .ne (.v 3) (.v 2)))) (.lst (.cons (.v 3) .nil)) (.lst .nil)))) (.cons (.own 7 (.ite (.of (.cmp .eq (.v 2) (.k (.int 0)))) (.lst .nil) (.lst (.cons (.tup (.cons (.v 2) (.cons (.v 2) (.cons (.tup (.cons (.v 2) (.cons (.k (.int 1)) .nil))) .nil)))) .nil)))) (.cons (.for_ false (.nm 8) (.rng1 (.bin .sub (.bi .len (.cons (.v 6) .nil)) (.k (.int 1))))
  (.cons (.app 7 (.tup (.cons (.ix (.v 6) (.v 8)) (.cons (.ix (.v 6) (.bin .add (.v 8) (.k (.int 1)))) (.cons (.call 29 (.cons (.bin .add (.ix (.v 6) (.v 8)) (.ix (.v 6) (.bin .add (.v 8) (.k (.int 1))))) (.cons (.k (.int 2)) .nil))) .nil))))) (.cons (.ite (.or (.of (.cmp .ne (.ix (.v 6) (.bin .add (.v 8) (.k (.int 1)))) (.v 3))) (.of (.cmp .notN (.v 3) (.k .none))))
  (.cons (.app 7 (.tup (.cons (.ix (.v 6) (.bin .add (.v 8) (.k (.int 1)))) (.cons (.ix (.v 6) (.bin .add (.v 8) (.k (.int 1)))) (.cons (.tup (.cons (.ix (.v 6) (.bin .add (.v 8) (.k (.int 1)))) (.cons (.k (.int 1)) .nil))) .nil))))) .nil)
  .nil) .nil))) (.cons (.ite (.of (.cmp .isN (.v 3) (.k .none)))
  (.cons (.app 7 (.tup (.cons (.ix (.v 6) (.neg (.k (.int 1)))) (.cons (.k .none) (.cons (.tup (.cons (.bin .add (.ix (.v 6) (.neg (.k (.int 1)))) (.k (.int 1))) (.cons (.k (.int 1)) .nil))) .nil))))) .nil)
  .nil) (.cons (.ret (.v 7)) .nil)))))))
/-- _law_grid -/
def b79 : Sms := (.cons (.own 3 (.lst .nil)) (.cons (.for_ false (.nm 4) (.of (.call 78 (.cons (.ix (.v 1) (.k (.int 0))) (.cons (.call 77 (.cons (.v 0) (.cons (.k (.int 0)) .nil))) .nil))))
  (.cons (.for_ false (.nm 5) (.of (.call 78 (.cons (.ix (.v 1) (.k (.int 1))) (.cons (.call 77 (.cons (.v 0) (.cons (.k (.int 1)) .nil))) .nil))))
  (.cons (.for_ false (.nm 6) (.of (.call 78 (.cons (.ix (.v 1) (.k (.int 2))) (.cons (.call 77 (.cons (.v 0) (.cons (.k (.int 2)) .nil))) .nil))))
  (.cons (.app 3 (.tup (.cons (.tup (.cons (.v 4) (.cons (.v 5) (.cons (.v 6) .nil)))) (.cons (.tup (.cons (.ix (.v 4) (.k (.int 2))) (.cons (.ix (.v 5) (.k (.int 2))) (.cons (.ix (.v 6) (.k (.int 2))) (.cons (.v 2) .nil))))) .nil)))) .nil)) .nil)) .nil)) (.cons (.ret (.v 3)) .nil)))
/-- _law_shares -/
def b80 : Sms := (.cons (.dnew 2 3 (1)) (.cons (.for_ false (.tp [4, 5]) (.of (.slh (.v 1) (.k (.int 3))))
  (.cons (.set false 3 (.bin .mul (.v 3) (.bi .max2 (.cons (.k (.int 1)) (.cons (.bin .sub (.v 5) (.v 4)) .nil))))) .nil)) (.cons (.for_ false (.tp [6, 7]) (.of (.call 79 (.cons (.lst (.cons (.v 0) .nil)) (.cons (.slh (.v 1) (.k (.int 3))) (.cons (.ix (.v 1) (.k (.int 3))) .nil)))))
  (.cons (.set false 8 (.k (.int 1))) (.cons (.for_ false (.tp2 [4, 5, 9] [10, 11]) (.zip (.v 6) (.slh (.v 1) (.k (.int 3))))
  (.cons (.set false 8 (.bin .mul (.v 8) (.ite (.of (.cmp .eq (.v 10) (.v 11))) (.k (.int 1)) (.bin .sub (.v 5) (.v 4))))) .nil)) (.cons (.set false 12 (.call 56 (.cons (.v 0) (.cons (.v 7) .nil)))) (.cons (.dput 2 (.v 12) (.bin .add (.met .get (.v 2) (.cons (.v 12) (.cons (.k (.int 0)) .nil))) (.v 8))) .nil))))) (.cons (.ret (.tup (.cons (.v 2) (.cons (.v 3) .nil)))) .nil))))
/-- law -/
def b81 : Sms := (.cons (.for_ false (.nm 1) (.rng1 (.bi .max2 (.cons (.k (.int 3)) (.cons (.bi .min2 (.cons (.k (.int 8)) (.cons (.bin .add (.bi .len (.cons (.v 0) .nil)) (.k (.int 2))) .nil))) .nil))))
  (.cons (.bag 2 (.call 23 (.cons (.v 0) (.cons (.v 1) .nil)))) (.cons (.set false 3 (.call 28 (.cons (.v 2) (.cons (.k (.int 3)) (.cons (.k (.int 6)) .nil))))) (.cons (.for_ false (.nm 4) (.rng1 (.bi .len (.cons (.ix (.v 3) (.k (.int 0))) .nil)))
  (.cons (.tup false (.tp [5, 6]) (.call 80 (.cons (.ix (.v 3) (.k (.int 1))) (.cons (.ix (.ix (.v 3) (.k (.int 0))) (.v 4)) .nil)))) (.cons (.ite (.of (.cmp .ne (.call 74 (.cons (.v 3) (.cons (.v 4) .nil))) (.bi .srt (.cons (.bi .list (.cons (.v 5) .nil)) .nil))))
  (.cons (.ret (.k (.bool false))) .nil)
  .nil) (.cons (.for_ false (.nm 7) (.rng2 (.neg (.k (.int 1))) (.k (.int 4)))
  (.cons (.ite (.of (.cmp .ne (.call 76 (.cons (.v 3) (.cons (.v 4) (.cons (.v 7) .nil)))) (.call 29 (.cons (.met .get (.v 5) (.cons (.v 7) (.cons (.k (.int 0)) .nil))) (.cons (.v 6) .nil)))))
  (.cons (.ret (.k (.bool false))) .nil)
  .nil) (.cons (.set false 8 (.call 75 (.cons (.v 3) (.cons (.v 4) (.cons (.v 7) .nil))))) (.cons (.ite (.of (.cmp .ne (.cmp .isN (.v 8) (.k .none)) (.cmp .notin (.v 7) (.v 5))))
  (.cons (.ret (.k (.bool false))) .nil)
  .nil) (.cons (.ite (.and (.of (.cmp .notN (.v 8) (.k .none))) (.not (.of (.call 21 (.cons (.v 3) (.cons (.v 4) (.cons (.v 8) .nil)))))))
  (.cons (.ret (.k (.bool false))) .nil)
  .nil) (.cons (.ite (.and (.of (.cmp .notN (.v 8) (.k .none))) (.of (.cmp .ne (.call 51 (.cons (.ix (.v 3) (.k (.int 1))) (.cons (.v 8) .nil))) (.v 7))))
  (.cons (.ret (.k (.bool false))) .nil)
  .nil) .nil)))))) .nil)))) .nil)))) (.cons (.ret (.k (.bool true))) .nil))
/-- strays_of -/
def b82 : Sms := (.cons (.ret (.comp (.v 3) (.tp [3, 4]) (.enum (.v 0)) (.of (.cmp .ne (.call 71 (.cons (.v 1) (.cons (.v 4) (.cons (.v 2) .nil)))) (.lst (.cons (.ix (.v 4) (.k (.int 4))) .nil)))) [3, 4])) .nil)
/-- pair_spans -/
def b83 : Sms := (.cons (.tup false (.tp [2, 3]) (.tup (.cons (.call 67 (.cons (.v 0) (.cons (.k (.int 0)) .nil))) (.cons (.call 67 (.cons (.v 1) (.cons (.k (.int 0)) .nil))) .nil)))) (.cons (.set false 4 (.tup (.cons (.bi .max2 (.cons (.ix (.ix (.v 2) (.k (.int 0))) (.k (.int 0))) (.cons (.ix (.ix (.v 3) (.k (.int 0))) (.k (.int 0))) .nil))) (.cons (.k (.bool true)) (.cons (.bi .max2 (.cons (.ix (.ix (.v 2) (.k (.int 0))) (.k (.int 2))) (.cons (.ix (.ix (.v 3) (.k (.int 0))) (.k (.int 2))) .nil))) (.cons (.k (.bool true)) .nil)))))) (.cons (.set false 5 (.comp (.tup (.cons (.bin .add (.ix (.ix (.v 2) (.v 6)) (.k (.int 0))) (.ix (.ix (.v 3) (.v 6)) (.k (.int 0)))) (.cons (.k (.bool true)) (.cons (.bin .add (.ix (.ix (.v 2) (.v 6)) (.k (.int 2))) (.ix (.ix (.v 3) (.v 6)) (.k (.int 2)))) (.cons (.k (.bool true)) .nil))))) (.nm 6) (.of (.tup (.cons (.k (.int 1)) (.cons (.k (.int 2)) .nil)))) .tt [6])) (.cons (.ret (.tup (.cons (.v 4) (.cons (.ix (.v 5) (.k (.int 0))) (.cons (.ix (.v 5) (.k (.int 1))) .nil))))) .nil))))
/-- astray -/
def b84 : Sms := (.cons (.ex (.call 13 (.cons (.v 0) .nil))) (.cons (.ret (.call 82 (.cons (.ix (.v 0) (.k (.int 0))) (.cons (.ix (.v 0) (.k (.int 1))) (.cons (.k (.int 0)) .nil))))) .nil))
/-- is_sorted -/
def b85 : Sms := (.cons (.ex (.call 13 (.cons (.v 0) .nil))) (.cons (.ret (.cmp .eq (.call 82 (.cons (.ix (.v 0) (.k (.int 0))) (.cons (.ix (.v 0) (.k (.int 1))) (.cons (.k (.int 0)) .nil)))) (.lst .nil))) .nil))
/-- pair_places -/
def b86 : Sms := (.cons (.ex (.call 13 (.cons (.v 0) .nil))) (.cons (.ex (.call 15 (.cons (.v 0) (.cons (.v 1) .nil)))) (.cons (.ex (.call 15 (.cons (.v 0) (.cons (.v 2) .nil)))) (.cons (.par false 3 4 (.ix (.ix (.v 0) (.k (.int 0))) (.v 1)) (.ix (.ix (.v 0) (.k (.int 0))) (.v 2))) (.cons (.set false 5 (.call 66 (.cons (.ix (.v 0) (.k (.int 1))) (.cons (.call 83 (.cons (.v 3) (.cons (.v 4) .nil))) (.cons (.or (.ix (.v 3) (.k (.int 3))) (.ix (.v 4) (.k (.int 3)))) .nil))))) (.cons (.ret (.bi .ssetI (.cons (.comp (.bi .int (.cons (.v 9) .nil)) (.tp [6, 7, 8, 9]) (.of (.v 5)) .tt [6, 7, 8, 9]) .nil))) .nil))))))
/-- _law_ends -/
def b87 : Sms := (.cons (.ret (.bi .ssetI (.cons (.comp (.call 56 (.cons (.v 0) (.cons (.v 3) .nil))) (.tp [2, 3]) (.of (.call 79 (.cons (.lst (.cons (.v 0) .nil)) (.cons (.slh (.v 1) (.k (.int 3))) (.cons (.ix (.v 1) (.k (.int 3))) .nil))))) .tt [2, 3]) .nil))) .nil)
/-- _law_pair -/
def b88 : Sms := (.cons (.own 3 (.lst (.cons (.tup (.cons (.bi .max2 (.cons (.ix (.ix (.v 1) (.k (.int 0))) (.k (.int 0))) (.cons (.ix (.ix (.v 2) (.k (.int 0))) (.k (.int 0))) .nil))) (.cons (.bi .max2 (.cons (.ix (.ix (.v 1) (.k (.int 0))) (.k (.int 1))) (.cons (.ix (.ix (.v 2) (.k (.int 0))) (.k (.int 1))) .nil))) .nil))) .nil))) (.cons (.for_ false (.nm 4) (.of (.tup (.cons (.k (.int 1)) (.cons (.k (.int 2)) .nil))))
  (.cons (.app 3 (.tup (.cons (.bin .add (.ix (.ix (.v 1) (.v 4)) (.k (.int 0))) (.ix (.ix (.v 2) (.v 4)) (.k (.int 0)))) (.cons (.bin .add (.ix (.ix (.v 1) (.v 4)) (.k (.int 1))) (.ix (.ix (.v 2) (.v 4)) (.k (.int 1)))) .nil)))) .nil)) (.cons (.set true 5 (.call 79 (.cons (.lst (.cons (.v 0) .nil)) (.cons (.v 3) (.cons (.or (.ix (.v 1) (.k (.int 3))) (.ix (.v 2) (.k (.int 3)))) .nil))))) (.cons (.ret (.bi .ssetI (.cons (.comp (.call 56 (.cons (.v 0) (.cons (.v 7) .nil))) (.tp [6, 7]) (.of (.v 5)) .tt [6, 7]) .nil))) .nil))))
/-- law -/
def b89 : Sms := (.cons (.for_ false (.nm 1) (.rng1 (.bi .max2 (.cons (.k (.int 3)) (.cons (.bi .min2 (.cons (.k (.int 8)) (.cons (.bin .add (.bi .len (.cons (.v 0) .nil)) (.k (.int 2))) .nil))) .nil))))
  (.cons (.bag 2 (.call 23 (.cons (.v 0) (.cons (.v 1) .nil)))) (.cons (.set false 3 (.call 28 (.cons (.v 2) (.cons (.k (.int 4)) (.cons (.k (.int 5)) .nil))))) (.cons (.set false 4 (.bi .len (.cons (.ix (.v 3) (.k (.int 0))) .nil))) (.cons (.set false 5 (.comp (.v 6) (.nm 6) (.rng1 (.v 4)) (.of (.cmp .ne (.call 87 (.cons (.ix (.v 3) (.k (.int 1))) (.cons (.ix (.ix (.v 3) (.k (.int 0))) (.v 6)) .nil))) (.lst (.cons (.ix (.ix (.ix (.v 3) (.k (.int 0))) (.v 6)) (.k (.int 4))) .nil)))) [6])) (.cons (.set false 7 (.call 85 (.cons (.v 3) .nil))) (.cons (.ite (.or (.of (.cmp .ne (.call 84 (.cons (.v 3) .nil)) (.v 5))) (.or (.not (.of (.isi (.v 7) .bool))) (.of (.cmp .ne (.v 7) (.cmp .eq (.v 5) (.lst .nil))))))
  (.cons (.ret (.k (.bool false))) .nil)
  .nil) (.cons (.for_ false (.nm 8) (.rng1 (.v 4))
  (.cons (.set false 9 (.call 24 (.cons (.v 2) (.cons (.v 4) .nil)))) (.cons (.ite (.of (.cmp .ne (.call 86 (.cons (.v 3) (.cons (.v 8) (.cons (.v 9) .nil)))) (.call 88 (.cons (.ix (.v 3) (.k (.int 1))) (.cons (.ix (.ix (.v 3) (.k (.int 0))) (.v 8)) (.cons (.ix (.ix (.v 3) (.k (.int 0))) (.v 9)) .nil))))))
  (.cons (.ret (.k (.bool false))) .nil)
  .nil) (.cons (.ite (.of (.cmp .ne (.call 86 (.cons (.v 3) (.cons (.v 9) (.cons (.v 8) .nil)))) (.call 86 (.cons (.v 3) (.cons (.v 8) (.cons (.v 9) .nil))))))
  (.cons (.ret (.k (.bool false))) .nil)
  .nil) .nil)))) .nil)))))))) (.cons (.ret (.k (.bool true))) .nil))
/-- need_measure -/
def b90 : Sms := (.cons (.ite (.or (.not (.of (.isi (.v 0) .str))) (.of (.cmp .notin (.v 0) (.k (.tuple [(.str "width"), (.str "thick"), (.str "weight")])))))
  (.cons .never .nil)
  .nil) .nil)
/-- pieces_of_all -/
def b91 : Sms := (.cons (.ret (.bin .add (.call 66 (.cons (.v 0) (.cons (.tup (.cons (.k (.tuple [(.int 0), (.bool false), .none, (.bool false)])) (.cons (.k (.tuple [(.int 0), (.bool false), .none, (.bool false)])) (.cons (.k (.tuple [(.int 0), (.bool false), .none, (.bool false)])) .nil)))) (.cons (.k (.bool false)) .nil)))) (.call 66 (.cons (.v 0) (.cons (.tup (.cons (.k (.tuple [(.int 0), (.bool false), .none, (.bool false)])) (.cons (.k (.tuple [(.int 0), (.bool false), .none, (.bool false)])) (.cons (.k (.tuple [(.int 0), (.bool false), .none, (.bool false)])) .nil)))) (.cons (.k (.bool true)) .nil)))))) .nil)
/-- bounds_of -/
def b92 : Sms := (.cons (.set false 1 (.bi .minI (.cons (.comp (.ix (.v 2) (.k (.int 0))) (.nm 2) (.of (.v 0)) .tt [2]) .nil))) (.cons (.set false 3 (.bi .any (.cons (.comp (.and (.cmp .eq (.ix (.v 2) (.k (.int 0))) (.v 1)) (.ix (.v 2) (.k (.int 1)))) (.nm 2) (.of (.v 0)) .tt [2]) .nil))) (.cons (.ite (.of (.bi .any (.cons (.comp (.cmp .isN (.ix (.v 2) (.k (.int 2))) (.k .none)) (.nm 2) (.of (.v 0)) .tt [2]) .nil)))
  (.cons (.ret (.tup (.cons (.tup (.cons (.call 3 (.cons (.v 1) (.cons (.k (.int 2)) .nil))) (.cons (.v 3) .nil))) (.cons (.k .none) .nil)))) .nil)
  .nil) (.cons (.set false 4 (.bi .maxI (.cons (.comp (.ix (.v 2) (.k (.int 2))) (.nm 2) (.of (.v 0)) .tt [2]) .nil))) (.cons (.ret (.tup (.cons (.tup (.cons (.call 3 (.cons (.v 1) (.cons (.k (.int 2)) .nil))) (.cons (.v 3) .nil))) (.cons (.tup (.cons (.call 3 (.cons (.v 4) (.cons (.k (.int 2)) .nil))) (.cons (.bi .any (.cons (.comp (.and (.cmp .eq (.ix (.v 2) (.k (.int 2))) (.v 4)) (.ix (.v 2) (.k (.int 3)))) (.nm 2) (.of (.v 0)) .tt [2]) .nil)) .nil))) .nil)))) .nil)))))
/-- bounds_at -/
def b93 : Sms := (.cons (.set false 3 (.comp (.ix (.v 4) (.kix [(.str "width"), (.str "thick"), (.str "weight")] (.v 2))) (.tp [4, 5, 6, 7]) (.of (.v 0)) (.of (.cmp .eq (.v 7) (.v 1))) [4, 5, 6, 7])) (.cons (.ret (.ite (.of (.cmp .ne (.v 3) (.lst .nil))) (.call 92 (.cons (.v 3) .nil)) (.k .none))) .nil))
/-- kinds_in -/
def b94 : Sms := (.cons (.ex (.call 13 (.cons (.v 0) .nil))) (.cons (.ex (.call 58 (.cons (.v 1) .nil))) (.cons (.ret (.comp (.v 2) (.tp [2, 3]) (.enum (.ix (.v 0) (.k (.int 0)))) (.of (.cmp .isin (.v 1) (.call 71 (.cons (.ix (.v 0) (.k (.int 1))) (.cons (.v 3) (.cons (.k (.int 0)) .nil)))))) [2, 3])) .nil)))
/-- bounds_in -/
def b95 : Sms := (.cons (.ex (.call 13 (.cons (.v 0) .nil))) (.cons (.ex (.call 15 (.cons (.v 0) (.cons (.v 1) .nil)))) (.cons (.ex (.call 58 (.cons (.v 2) .nil))) (.cons (.ex (.call 90 (.cons (.v 3) .nil))) (.cons (.ret (.call 93 (.cons (.call 68 (.cons (.ix (.v 0) (.k (.int 1))) (.cons (.ix (.ix (.v 0) (.k (.int 0))) (.v 1)) (.cons (.k (.int 0)) .nil)))) (.cons (.v 2) (.cons (.v 3) .nil))))) .nil)))))
/-- slug_bounds -/
def b96 : Sms := (.cons (.ex (.call 46 (.cons (.v 0) .nil))) (.cons (.ex (.call 58 (.cons (.v 1) .nil))) (.cons (.ex (.call 90 (.cons (.v 2) .nil))) (.cons (.ret (.call 93 (.cons (.call 91 (.cons (.v 0) .nil)) (.cons (.v 1) (.cons (.v 2) .nil))))) .nil))))
/-- _law_all_grid -/
def b97 : Sms := (.cons (.set false 1 (.tup (.cons (.tup (.cons (.k (.int 0)) (.cons (.k .none) .nil))) (.cons (.tup (.cons (.k (.int 0)) (.cons (.k .none) .nil))) (.cons (.tup (.cons (.k (.int 0)) (.cons (.k .none) .nil))) .nil))))) (.cons (.ret (.bin .add (.call 79 (.cons (.v 0) (.cons (.v 1) (.cons (.k (.bool false)) .nil)))) (.call 79 (.cons (.v 0) (.cons (.v 1) (.cons (.k (.bool true)) .nil)))))) .nil))
/-- meet -/
def b100 : Sms := (.cons (.tup false (.tp [2, 3, 4, 5]) (.v 0)) (.cons (.set false 6 (.v 0)) (.cons (.ite (.or (.of (.cmp .gt (.ix (.v 1) (.k (.int 0))) (.v 2))) (.and (.of (.cmp .eq (.ix (.v 1) (.k (.int 0))) (.v 2))) (.not (.of (.ix (.v 1) (.k (.int 1)))))))
  (.cons (.set false 6 (.tup (.cons (.ix (.v 1) (.k (.int 0))) (.cons (.ix (.v 1) (.k (.int 1))) (.cons (.v 4) (.cons (.v 5) .nil)))))) .nil)
  .nil) (.cons (.ite (.and (.of (.cmp .notN (.ix (.v 1) (.k (.int 2))) (.k .none))) (.or (.of (.cmp .isN (.v 4) (.k .none))) (.or (.of (.cmp .lt (.ix (.v 1) (.k (.int 2))) (.v 4))) (.and (.of (.cmp .eq (.ix (.v 1) (.k (.int 2))) (.v 4))) (.not (.of (.ix (.v 1) (.k (.int 3)))))))))
  (.cons (.set false 6 (.bin .add (.slh (.v 6) (.k (.int 2))) (.sll (.v 1) (.k (.int 2))))) .nil)
  .nil) (.cons (.ret (.v 6)) .nil)))))
/-- parting_of -/
def b101 : Sms := (.cons (.for_ false (.tp [2, 3, 4, 5]) (.of (.v 0))
  (.cons (.for_ false (.tp [6, 7, 8, 9]) (.of (.v 1))
  (.cons (.set false 10 (.bi .tuple (.cons (.comp (.call 100 (.cons (.v 11) (.cons (.v 12) .nil))) (.tp [11, 12]) (.zip (.v 2) (.v 6)) .tt [11, 12]) .nil))) (.cons (.ite (.and (.of (.cmp .eq (.v 3) (.v 7))) (.and (.of (.cmp .ne (.v 5) (.v 9))) (.of (.bi .all (.cons (.comp (.call 59 (.cons (.v 13) .nil)) (.nm 13) (.of (.v 10)) .tt [13]) .nil)))))
  (.cons (.ret (.call 70 (.cons (.v 10) (.cons (.v 3) .nil)))) .nil)
  .nil) .nil))) .nil)) (.cons (.ret (.k .none)) .nil))
/-- coin_between -/
def b102 : Sms := (.cons (.ret (.call 101 (.cons (.call 91 (.cons (.v 0) .nil)) (.cons (.call 91 (.cons (.v 1) .nil)) .nil)))) .nil)
/-- same_for -/
def b103 : Sms := (.cons (.ret (.bi .all (.cons (.comp (.cmp .isN (.call 101 (.cons (.call 68 (.cons (.v 1) (.cons (.v 3) (.cons (.k (.int 0)) .nil)))) (.cons (.call 68 (.cons (.v 2) (.cons (.v 3) (.cons (.k (.int 0)) .nil)))) .nil))) (.k .none)) (.nm 3) (.of (.v 0)) .tt [3]) .nil))) .nil)
/-- idle_of -/
def b104 : Sms := (.cons (.set false 1 (.comp (.v 4) (.tp [2, 3, 4, 5]) (.of (.call 91 (.cons (.v 0) .nil))) .tt [2, 3, 4, 5])) (.cons (.ret (.comp (.v 4) (.nm 4) (.of (.bi .listR (.cons (.bi .len (.cons (.v 0) .nil)) .nil))) (.of (.cmp .notin (.v 4) (.v 1))) [4])) .nil))
/-- less_by -/
def b105 : Sms := (.cons (.ret (.bin .add (.slh (.v 0) (.v 1)) (.sll (.v 0) (.bin .add (.v 1) (.k (.int 1)))))) .nil)
/-- turned_at -/
def b106 : Sms := (.cons (.ret (.bin .add (.bin .add (.slh (.v 0) (.v 1)) (.tup (.cons (.ix (.v 0) (.bin .add (.v 1) (.k (.int 1)))) (.cons (.ix (.v 0) (.v 1)) .nil)))) (.sll (.v 0) (.bin .add (.v 1) (.k (.int 2)))))) .nil)
/-- idle_steps -/
def b107 : Sms := (.cons (.ex (.call 46 (.cons (.v 0) .nil))) (.cons (.ret (.call 104 (.cons (.v 0) .nil))) .nil))
/-- needless -/
def b108 : Sms := (.cons (.ex (.call 13 (.cons (.v 0) .nil))) (.cons (.tup false (.tp [1, 2]) (.v 0)) (.cons (.ret (.comp (.v 3) (.nm 3) (.of (.bi .listR (.cons (.bi .len (.cons (.v 2) .nil)) .nil))) (.of (.call 103 (.cons (.v 1) (.cons (.v 2) (.cons (.call 105 (.cons (.v 2) (.cons (.v 3) .nil))) .nil))))) [3])) .nil)))
/-- exchangeable -/
def b109 : Sms := (.cons (.ex (.call 46 (.cons (.v 0) .nil))) (.cons (.set false 1 (.bi .listR (.cons (.bin .sub (.bi .len (.cons (.v 0) .nil)) (.k (.int 1))) .nil))) (.cons (.ret (.comp (.v 2) (.nm 2) (.of (.v 1)) (.of (.cmp .isN (.call 102 (.cons (.v 0) (.cons (.call 106 (.cons (.v 0) (.cons (.v 2) .nil))) .nil))) (.k .none))) [2])) .nil)))
/-- _law_same -/
def b110 : Sms := (.cons (.ret (.cmp .eq (.comp (.v 4) (.tp [3, 4]) (.of (.v 2)) (.of (.cmp .ne (.call 56 (.cons (.v 0) (.cons (.v 4) .nil))) (.call 56 (.cons (.v 1) (.cons (.v 4) .nil))))) [3, 4]) (.lst .nil))) .nil)
/-- law -/
def b111 : Sms := (.cons (.for_ false (.nm 1) (.rng1 (.bi .max2 (.cons (.k (.int 3)) (.cons (.bi .min2 (.cons (.k (.int 7)) (.cons (.bin .add (.bi .len (.cons (.v 0) .nil)) (.k (.int 2))) .nil))) .nil))))
  (.cons (.bag 2 (.call 23 (.cons (.v 0) (.cons (.v 1) .nil)))) (.cons (.tup false (.tp [3, 4]) (.tup (.cons (.call 54 (.cons (.v 2) (.cons (.k (.int 5)) .nil))) (.cons (.call 28 (.cons (.v 2) (.cons (.k (.int 2)) (.cons (.k (.int 5)) .nil)))) .nil)))) (.cons (.set false 5 (.call 97 (.cons (.lst (.cons (.v 3) .nil)) .nil))) (.cons (.set false 6 (.comp (.call 55 (.cons (.v 3) (.cons (.v 8) .nil))) (.tp [7, 8]) (.of (.v 5)) .tt [7, 8])) (.cons (.ite (.of (.cmp .ne (.call 107 (.cons (.v 3) .nil)) (.comp (.v 9) (.nm 9) (.rng1 (.bi .len (.cons (.v 3) .nil))) (.of (.cmp .notin (.v 9) (.v 6))) [9])))
  (.cons (.ret (.k (.bool false))) .nil)
  .nil) (.cons (.set false 10 (.lst .nil)) (.cons (.for_ false (.nm 9) (.rng1 (.bin .sub (.bi .len (.cons (.v 3) .nil)) (.k (.int 1))))
  (.cons (.set false 11 (.rev (.sl (.v 3) (.v 9) (.bin .add (.v 9) (.k (.int 2)))))) (.cons (.set false 12 (.bin .add (.bin .add (.slh (.v 3) (.v 9)) (.v 11)) (.sll (.v 3) (.bin .add (.v 9) (.k (.int 2)))))) (.cons (.set false 10 (.bin .add (.v 10) (.rep (.lst (.cons (.v 9) .nil)) (.bi .int (.cons (.call 110 (.cons (.v 3) (.cons (.v 12) (.cons (.v 5) .nil)))) .nil))))) .nil)))) (.cons (.ite (.of (.cmp .ne (.call 109 (.cons (.v 3) .nil)) (.v 10)))
  (.cons (.ret (.k (.bool false))) .nil)
  .nil) (.cons (.set false 10 (.lst .nil)) (.cons (.for_ false (.nm 9) (.rng1 (.bi .len (.cons (.ix (.v 4) (.k (.int 1))) .nil)))
  (.cons (.par false 12 13 (.bin .add (.slh (.ix (.v 4) (.k (.int 1))) (.v 9)) (.sll (.ix (.v 4) (.k (.int 1))) (.bin .add (.v 9) (.k (.int 1))))) (.k (.bool true))) (.cons (.for_ false (.nm 14) (.of (.ix (.v 4) (.k (.int 0))))
  (.cons (.set false 15 (.call 79 (.cons (.lst (.cons (.ix (.v 4) (.k (.int 1))) .nil)) (.cons (.slh (.v 14) (.k (.int 3))) (.cons (.ix (.v 14) (.k (.int 3))) .nil))))) (.cons (.set false 13 (.and (.v 13) (.call 110 (.cons (.ix (.v 4) (.k (.int 1))) (.cons (.v 12) (.cons (.v 15) .nil)))))) .nil))) (.cons (.set false 10 (.bin .add (.v 10) (.rep (.lst (.cons (.v 9) .nil)) (.bi .int (.cons (.v 13) .nil))))) .nil)))) (.cons (.ite (.of (.cmp .ne (.call 108 (.cons (.v 4) .nil)) (.v 10)))
  (.cons (.ret (.k (.bool false))) .nil)
  .nil) .nil)))))))))))) (.cons (.ret (.k (.bool true))) .nil))
/-- need_kinds -/
def b119 : Sms := (.cons (.ite (.not (.of (.call 11 (.cons (.v 0) .nil))))
  (.cons .never .nil)
  .nil) .nil)
/-- alike -/
def b137 : Sms := (.cons (.ex (.call 46 (.cons (.v 0) .nil))) (.cons (.ex (.call 46 (.cons (.v 1) .nil))) (.cons (.ret (.cmp .isN (.call 102 (.cons (.v 0) (.cons (.v 1) .nil))) (.k .none))) .nil)))
/-- parting -/
def b138 : Sms := (.cons (.ex (.call 46 (.cons (.v 0) .nil))) (.cons (.ex (.call 46 (.cons (.v 1) .nil))) (.cons (.ret (.call 102 (.cons (.v 0) (.cons (.v 1) .nil)))) .nil)))
/-- alike_for -/
def b139 : Sms := (.cons (.ex (.call 119 (.cons (.v 0) .nil))) (.cons (.ex (.call 46 (.cons (.v 1) .nil))) (.cons (.ex (.call 46 (.cons (.v 2) .nil))) (.cons (.ret (.call 103 (.cons (.v 0) (.cons (.v 1) (.cons (.v 2) .nil))))) .nil))))
/-- _law_near -/
def b140 : Sms := (.cons (.par false 2 3 (.call 24 (.cons (.v 0) (.cons (.bin .add (.bi .len (.cons (.v 1) .nil)) (.k (.int 1))) .nil))) (.call 24 (.cons (.v 0) (.cons (.k (.int 6)) .nil)))) (.cons (.ite (.of (.cmp .eq (.v 3) (.k (.int 0))))
  (.cons (.ret (.slh (.bin .add (.bin .add (.slh (.v 1) (.v 2)) (.tup (.cons (.call 27 (.cons (.v 0) (.cons (.k (.int 6)) .nil))) .nil))) (.sll (.v 1) (.v 2))) (.k (.int 8)))) .nil)
  .nil) (.cons (.ite (.of (.cmp .eq (.v 3) (.k (.int 1))))
  (.cons (.ret (.bin .add (.slh (.v 1) (.v 2)) (.sll (.v 1) (.bin .add (.v 2) (.k (.int 1)))))) .nil)
  .nil) (.cons (.ite (.of (.cmp .eq (.v 3) (.k (.int 2))))
  (.cons (.set false 4 (.rev (.sl (.v 1) (.v 2) (.bin .add (.v 2) (.k (.int 2)))))) (.cons (.ret (.bin .add (.bin .add (.slh (.v 1) (.v 2)) (.v 4)) (.sll (.v 1) (.bin .add (.v 2) (.k (.int 2)))))) .nil))
  .nil) (.cons (.ite (.and (.of (.cmp .lt (.v 2) (.bi .len (.cons (.v 1) .nil)))) (.and (.of (.cmp .eq (.v 3) (.k (.int 3)))) (.of (.cmp .ne (.ix (.ix (.v 1) (.v 2)) (.k (.int 0))) (.k (.str "magnet"))))))
  (.cons (.set false 5 (.ix (.v 1) (.v 2))) (.cons (.set false 6 (.bi .max2 (.cons (.k (.int 1)) (.cons (.bin .add (.ix (.v 5) (.k (.int 1))) (.call 25 (.cons (.v 0) (.cons (.lst (.cons (.neg (.k (.int 1))) (.cons (.k (.int 1)) .nil))) .nil)))) .nil)))) (.cons (.set false 7 (.tup (.cons (.ix (.v 5) (.k (.int 0))) (.cons (.v 6) (.cons (.ix (.v 5) (.k (.int 2))) .nil))))) (.cons (.ret (.bin .add (.bin .add (.slh (.v 1) (.v 2)) (.tup (.cons (.v 7) .nil))) (.sll (.v 1) (.bin .add (.v 2) (.k (.int 1)))))) .nil))))
  .nil) (.cons (.ret (.ite (.of (.cmp .lt (.bi .len (.cons (.v 1) .nil)) (.k (.int 8)))) (.bin .add (.v 1) (.slh (.v 1) (.k (.int 1)))) (.v 1))) .nil))))))
/-- _law_apart -/
def b141 : Sms := (.cons (.ret (.cmp .ne (.comp (.v 4) (.tp [3, 4]) (.of (.v 2)) (.of (.cmp .ne (.call 56 (.cons (.v 0) (.cons (.v 4) .nil))) (.call 56 (.cons (.v 1) (.cons (.v 4) .nil))))) [3, 4]) (.lst .nil))) .nil)
end CC

namespace CC
open PySem PySem.Spec PyProof.Rows L2
/-! ### tools -/
@[simp] theorem atI_0 {α : Type} (x : α) (r : List α) : atI (x :: r) 0 = some x := atI_nat (j := 0) rfl
@[simp] theorem atI_1 {α : Type} (x y : α) (r : List α) : atI (x :: y :: r) 1 = some y := atI_nat (j := 1) rfl
@[simp] theorem atI_2 {α : Type} (x y z : α) (r : List α) : atI (x :: y :: z :: r) 2 = some z := atI_nat (j := 2) rfl
@[simp] theorem atI_3 {α : Type} (x y z u : α) (r : List α) : atI (x :: y :: z :: u :: r) 3 = some u := atI_nat (j := 3) rfl
@[simp] theorem atI_4 {α : Type} (x y z u v : α) (r : List α) : atI (x :: y :: z :: u :: v :: r) 4 = some v := atI_nat (j := 4) rfl
@[simp] theorem atI_m2 {α : Type} (x y : α) : atI [x, y] (-1) = some y := atI_last [x] y
@[simp] theorem atI_m3 {α : Type} (x y z : α) : atI [x, y, z] (-1) = some z := atI_last [x, y] z
theorem atI_in {α : Type} {xs : List α} {i : Int} (h0 : 0 ≤ i) (h1 : i < xs.length) : ∃ x, atI xs i = some x ∧ xs[i.toNat]? = some x := by
  have hl : i.toNat < xs.length := by omega
  refine ⟨xs[i.toNat], ?_, List.getElem?_eq_getElem hl⟩
  have := atI_nat (List.getElem?_eq_getElem hl)
  rwa [Int.toNat_of_nonneg h0] at this
theorem cut_to {α : Type} (xs : List α) {i : Int} (h : 0 ≤ i) : cut xs none (some i) = xs.take i.toNat := by
  obtain ⟨n, rfl⟩ := Int.eq_ofNat_of_zero_le h
  unfold cut
  rw [HT.sIx_none, HT.sIx_nat, List.drop_zero, Nat.sub_zero]
  show _ = xs.take n
  by_cases q : n ≤ xs.length
  · rw [Nat.min_eq_left q]
  · rw [Nat.min_eq_right (by omega), List.take_length, List.take_of_length_le (by omega)]
theorem cut_from {α : Type} (xs : List α) {i : Int} (h : 0 ≤ i) : cut xs (some i) none = xs.drop i.toNat := by
  obtain ⟨n, rfl⟩ := Int.eq_ofNat_of_zero_le h
  unfold cut
  rw [HT.sIx_none, HT.sIx_nat]
  show _ = xs.drop n
  by_cases q : n ≤ xs.length
  · rw [Nat.min_eq_left q, List.take_of_length_le]
    rw [List.length_drop]
    exact Nat.le_refl _
  · rw [Nat.min_eq_right (by omega), List.drop_length, List.drop_of_length_le (by omega)]; simp
theorem cut_both {α : Type} (xs : List α) {i j : Int} (hi : 0 ≤ i) (hj : 0 ≤ j) : cut xs (some i) (some j) = (xs.take j.toNat).drop i.toNat := by
  obtain ⟨n, rfl⟩ := Int.eq_ofNat_of_zero_le hi
  obtain ⟨m, rfl⟩ := Int.eq_ofNat_of_zero_le hj
  unfold cut
  rw [HT.sIx_nat, HT.sIx_nat]
  show _ = (xs.take m).drop n
  rw [List.drop_take]
  by_cases q : n ≤ xs.length
  · rw [Nat.min_eq_left q]
    by_cases r : m ≤ xs.length
    · rw [Nat.min_eq_left r]
    · rw [Nat.min_eq_right (by omega), List.take_of_length_le (by rw [List.length_drop]; omega), List.take_of_length_le (by rw [List.length_drop]; omega)]
  · rw [Nat.min_eq_right (show xs.length ≤ n by omega), List.drop_length, List.drop_of_length_le (show xs.length ≤ n by omega)]; simp
theorem compL_gen {f : D → (List D → Prop) → Prop} (g : D → List D) : ∀ {ds : List D} {acc : List D} {Q : List D → Prop}, (∀ d ∈ ds, ∀ k : List D → Prop, k (g d) → f d k) → Q (acc ++ ds.flatMap g) → compL f ds acc Q
  | [], acc, Q, _, q => by simpa using q
  | d :: ds, acc, Q, h, q => h d List.mem_cons_self _ (compL_gen g (fun x m => h x (List.mem_cons_of_mem _ m)) (by simpa [List.append_assoc] using q))
theorem compL_map {f : D → (List D → Prop) → Prop} (g : D → D) {ds : List D} {Q : List D → Prop} (h : ∀ d ∈ ds, ∀ k : List D → Prop, k [g d] → f d k) (q : Q (ds.map g)) : compL f ds [] Q :=
  compL_gen (fun d => [g d]) h (by rw [List.nil_append, ← List.map_eq_flatMap]; exact q)
/-- over typed things -/
theorem compL_typ {α : Type} (enc : α → D) (g : α → List D) {f : D → (List D → Prop) → Prop} : ∀ {xs : List α} {acc : List D} {Q : List D → Prop}, (∀ x ∈ xs, ∀ k : List D → Prop, k (g x) → f (enc x) k) → Q (acc ++ xs.flatMap g) → compL f (xs.map enc) acc Q
  | [], acc, Q, _, q => by simpa using q
  | d :: ds, acc, Q, h, q => h d List.mem_cons_self _ (compL_typ enc g (fun x m => h x (List.mem_cons_of_mem _ m)) (by simpa [List.append_assoc] using q))
/-- each turn gives one of some things -/
theorem compL_any {β : Type} (R : β → Prop) (enc : β → D) {f : D → (List D → Prop) → Prop} : ∀ {ds : List D} {acc : List D} {Q : List D → Prop}, (∀ d ∈ ds, ∀ k : List D → Prop, (∀ y, R y → k [enc y]) → f d k) → (∀ ys : List β, ys.length = ds.length → (∀ y ∈ ys, R y) → Q (acc ++ ys.map enc)) → compL f ds acc Q
  | [], acc, Q, _, q => by simpa using q []
  | d :: ds, acc, Q, h, q => h d List.mem_cons_self _ fun y hy => compL_any R enc (fun x m => h x (List.mem_cons_of_mem _ m)) fun ys hl hr => by
      have := q (y :: ys) (by simp [hl]) (by intro z hz; rcases List.mem_cons.mp hz with rfl | hz; exact hy; exact hr z hz)
      simpa [List.append_assoc] using this
theorem forL_inv {α : Type} (enc : α → D) {f : D → SEnv → (SEnv → Prop) → Prop} {Q : SEnv → Prop} (I : List α → SEnv → Prop) (hs : ∀ x r ρ, I (x :: r) ρ → ∀ k : SEnv → Prop, (∀ ρ', I r ρ' → k ρ') → f (enc x) ρ k) (hn : ∀ ρ, I [] ρ → Q ρ) : ∀ xs ρ, I xs ρ → forL f (xs.map enc) ρ Q
  | [], ρ, h => hn ρ h
  | x :: r, ρ, h => hs x r ρ h _ fun ρ' h' => forL_inv enc I hs hn r ρ' h'
theorem enumL_map {α : Type} (enc : α → D) : ∀ (n : Nat) (xs : List α), enumL n (xs.map enc) = (xs.zipIdx n).map fun p => .tuple [.int (p.2 : Int), enc p.1]
  | _, [] => rfl
  | n, x :: xs => by
    rw [List.map_cons, List.zipIdx_cons, List.map_cons, enumL, enumL_map enc (n + 1) xs]
theorem rngL_nat (n : Nat) : rngL 0 n = (List.range n).map fun (i : Nat) => PyData.int (i : Int) := by
  unfold rngL
  simp
/-! ### == -/
section
variable (a b : Str) (i j : Int) (p q : Bool) (x y : D) (xs ys : List D)
@[simp] theorem eqv_ss : PyData.eqv (.str a) (.str b) = (a == b) := by simp [PyData.eqv]
@[simp] theorem eqv_ii : PyData.eqv (.int i) (.int j) = decide (i = j) := by rw [PyData.eqv]; rfl
@[simp] theorem eqv_bb : PyData.eqv (.bool p) (.bool q) = (p == q) := by simp [PyData.eqv]
@[simp] theorem eqv_nn : PyData.eqv .none .none = true := by simp [PyData.eqv]
@[simp] theorem eqv_ni : PyData.eqv .none (.int j) = false := by simp [PyData.eqv]
@[simp] theorem eqv_in : PyData.eqv (.int i) .none = false := by simp [PyData.eqv]
@[simp] theorem eqv_is : PyData.eqv (.int i) (.str b) = false := by simp [PyData.eqv]
@[simp] theorem eqv_si : PyData.eqv (.str a) (.int i) = false := by simp [PyData.eqv]
@[simp] theorem eqv_nb : PyData.eqv .none (.bool p) = false := by simp [PyData.eqv]
@[simp] theorem eqv_bn : PyData.eqv (.bool p) .none = false := by simp [PyData.eqv]
@[simp] theorem eqv_ns : PyData.eqv .none (.str b) = false := by simp [PyData.eqv]
@[simp] theorem eqv_sn : PyData.eqv (.str b) .none = false := by simp [PyData.eqv]
@[simp] theorem eqv_tt : PyData.eqv (.tuple xs) (.tuple ys) = PyData.eqvAll xs ys := by simp [PyData.eqv]
@[simp] theorem eqv_ll : PyData.eqv (.list xs) (.list ys) = PyData.eqvAll xs ys := by simp [PyData.eqv]
@[simp] theorem eqv_tn : PyData.eqv (.tuple xs) .none = false := by simp [PyData.eqv]
@[simp] theorem eqv_nt : PyData.eqv .none (.tuple xs) = false := by simp [PyData.eqv]
@[simp] theorem eqvA_nn : PyData.eqvAll [] [] = true := by simp [PyData.eqvAll]
@[simp] theorem eqvA_cc : PyData.eqvAll (x :: xs) (y :: ys) = (PyData.eqv x y && PyData.eqvAll xs ys) := by simp [PyData.eqvAll]
@[simp] theorem eqvA_cn : PyData.eqvAll (x :: xs) [] = false := by simp [PyData.eqvAll]
@[simp] theorem eqvA_nc : PyData.eqvAll [] (y :: ys) = false := by simp [PyData.eqvAll]
@[simp] theorem eqOk_ss : eqOk (.str a) (.str b) := .inl ⟨rfl, rfl⟩
@[simp] theorem eqOk_ii : eqOk (.int i) (.int j) := .inl ⟨rfl, rfl⟩
@[simp] theorem eqOk_bb : eqOk (.bool p) (.bool q) := .inl ⟨rfl, rfl⟩
@[simp] theorem eqOk_in : eqOk (.int i) .none := .inl ⟨rfl, rfl⟩
@[simp] theorem eqOk_ni : eqOk .none (.int i) := .inl ⟨rfl, rfl⟩
@[simp] theorem eqOk_nn : eqOk .none .none := .inl ⟨rfl, rfl⟩
end
/-! ### words -/
@[simp] theorem w_h_g : (("hole" : Str) = ("gap" : Str)) = False := eq_false (by decide +kernel)
@[simp] theorem wb_h_g : (("hole" : Str) == ("gap" : Str)) = false := by decide +kernel
@[simp] theorem w_h_s : (("hole" : Str) = ("scale" : Str)) = False := eq_false (by decide +kernel)
@[simp] theorem wb_h_s : (("hole" : Str) == ("scale" : Str)) = false := by decide +kernel
@[simp] theorem w_h_m : (("hole" : Str) = ("magnet" : Str)) = False := eq_false (by decide +kernel)
@[simp] theorem wb_h_m : (("hole" : Str) == ("magnet" : Str)) = false := by decide +kernel
@[simp] theorem w_g_h : (("gap" : Str) = ("hole" : Str)) = False := eq_false (by decide +kernel)
@[simp] theorem wb_g_h : (("gap" : Str) == ("hole" : Str)) = false := by decide +kernel
@[simp] theorem w_g_s : (("gap" : Str) = ("scale" : Str)) = False := eq_false (by decide +kernel)
@[simp] theorem wb_g_s : (("gap" : Str) == ("scale" : Str)) = false := by decide +kernel
@[simp] theorem w_g_m : (("gap" : Str) = ("magnet" : Str)) = False := eq_false (by decide +kernel)
@[simp] theorem wb_g_m : (("gap" : Str) == ("magnet" : Str)) = false := by decide +kernel
@[simp] theorem w_s_h : (("scale" : Str) = ("hole" : Str)) = False := eq_false (by decide +kernel)
@[simp] theorem wb_s_h : (("scale" : Str) == ("hole" : Str)) = false := by decide +kernel
@[simp] theorem w_s_g : (("scale" : Str) = ("gap" : Str)) = False := eq_false (by decide +kernel)
@[simp] theorem wb_s_g : (("scale" : Str) == ("gap" : Str)) = false := by decide +kernel
@[simp] theorem w_s_m : (("scale" : Str) = ("magnet" : Str)) = False := eq_false (by decide +kernel)
@[simp] theorem wb_s_m : (("scale" : Str) == ("magnet" : Str)) = false := by decide +kernel
@[simp] theorem w_m_h : (("magnet" : Str) = ("hole" : Str)) = False := eq_false (by decide +kernel)
@[simp] theorem wb_m_h : (("magnet" : Str) == ("hole" : Str)) = false := by decide +kernel
@[simp] theorem w_m_g : (("magnet" : Str) = ("gap" : Str)) = False := eq_false (by decide +kernel)
@[simp] theorem wb_m_g : (("magnet" : Str) == ("gap" : Str)) = false := by decide +kernel
@[simp] theorem w_m_s : (("magnet" : Str) = ("scale" : Str)) = False := eq_false (by decide +kernel)
@[simp] theorem wb_m_s : (("magnet" : Str) == ("scale" : Str)) = false := by decide +kernel
@[simp] theorem nat1 (n : Nat) : ((n : Int) = 1) = (n = 1) := propext (by omega)
/-! ### recognizers -/
/-- between two bounds, as a plain int -/
def isFrom (v : D) (lo hi : Int) : Bool := match v with
  | .int i => decide (lo ≤ i) && decide (i ≤ hi)
  | _ => false
def sp0 : Spec
  | [.dat v, .dat (.int lo), .dat (.int hi)], Q => Q (.bool (isFrom v lo hi))
  | _, _ => False
@[simp] theorem sp0_e {v} {lo} {hi} {Q : D → Prop} : sp0 [.dat v, .dat (.int lo), .dat (.int hi)] Q = (Q (.bool (isFrom v lo hi))) := rfl
theorem sem0 {Φ : Nat → Spec} : DefSem (b0.sem Φ) 3 3 sp0 := by
  intro as Q q
  unfold sp0 at q
  split at q <;> try exact q.elim
  rename_i v lo hi
  refine ⟨rfl, ?_⟩
  cases v with
  | int i =>
    by_cases h : lo ≤ i <;> simpa [b0, initE, isFrom, h] using q
  | _ => simpa [b0, initE, isFrom] using q
def isTup (v : D) (n : Int) : Bool := match v with
  | .tuple ds => decide ((ds.length : Int) = n)
  | _ => false
def sp1 : Spec
  | [.dat v, .dat (.int n)], Q => Q (.bool (isTup v n))
  | _, _ => False
@[simp] theorem sp1_e {v} {n} {Q : D → Prop} : sp1 [.dat v, .dat (.int n)] Q = (Q (.bool (isTup v n))) := rfl
theorem sem1 {Φ : Nat → Spec} : DefSem (b1.sem Φ) 2 2 sp1 := by
  intro as Q q
  unfold sp1 at q
  split at q <;> try exact q.elim
  rename_i v n
  refine ⟨rfl, ?_⟩
  cases v <;> simp [b1, initE, isTup] at q ⊢ <;> exact q
def sp2 : Spec
  | [.dat (.int a), .dat (.int b)], Q => (0 ≤ a ∧ 0 ≤ b) ∧ Q (.int (Int.gcd a b))
  | _, _ => False
@[simp] theorem sp2_e {a} {b} {Q : D → Prop} : sp2 [.dat (.int a), .dat (.int b)] Q = ((0 ≤ a ∧ 0 ≤ b) ∧ Q (.int (Int.gcd a b))) := rfl
theorem gcd_step (a b : Int) : Int.gcd b (a % b) = Int.gcd a b := by
  rw [Int.emod_def, Int.gcd_sub_mul_left_right, Int.gcd_comm]
theorem sem2 {Φ : Nat → Spec} : DefSem (b2.sem Φ) 2 2 sp2 := by
  intro as Q q
  unfold sp2 at q
  split at q <;> try exact q.elim
  rename_i a b
  obtain ⟨⟨ha, hb⟩, q⟩ := q
  refine ⟨rfl, ?_⟩
  simp only [b2, Sms.sem, Sm.sem]
  refine ⟨fun ρ => ∃ x y : Int, ρ = [.dat (.int x), .dat (.int y)] ∧ 0 ≤ x ∧ 0 ≤ y ∧ Int.gcd x y = Int.gcd a b, fun ρ => match ρ with
    | [_, .dat (.int y)] => y.toNat
    | _ => 0, ⟨a, b, rfl, ha, hb, rfl⟩, ?_⟩
  rintro ρ ⟨x, y, rfl, hx, hy, e⟩
  simp
  by_cases h : 0 < y
  · have h1 := Int.emod_nonneg x (show y ≠ 0 by omega)
    have h2 := Int.emod_lt_of_pos x h
    simp [h]
    refine ⟨⟨y, x % y, ⟨rfl, rfl⟩, by omega, h1, by rw [gcd_step x y, e]⟩, by omega⟩
  · simp [h]
    have : y = 0 := by omega
    subst this
    rw [← e, Int.gcd_zero_right] at q
    rw [show x = (x.natAbs : Int) by omega]
    exact q
end CC

namespace CC
open PySem PySem.Spec PyProof.Rows L2
def isMeas (v : D) : Bool := match v with
  | .tuple [.int a, .int b] => (decide (1 ≤ a) && decide (a ≤ 1000000)) && ((decide (1 ≤ b) && decide (b ≤ 1000000)) && decide (Int.gcd a b = 1))
  | _ => false
def sp4 : Spec
  | [.dat v], Q => Q (.bool (isMeas v))
  | _, _ => False
@[simp] theorem sp4_e {v} {Q : D → Prop} : sp4 [.dat v] Q = (Q (.bool (isMeas v))) := rfl
theorem sem4 {Φ : Nat → Spec} (h0 : Φ 0 = sp0) (h1 : Φ 1 = sp1) (h2 : Φ 2 = sp2) : DefSem (b4.sem Φ) 1 1 sp4 := by
  intro as Q q
  unfold sp4 at q
  split at q <;> try exact q.elim
  rename_i v
  refine ⟨rfl, ?_⟩
  simp only [b4]
  cases v with
  | tuple ds =>
    match ds with
    | [] => simpa [initE, h0, h1, h2, isTup, isMeas] using q
    | [x] => simpa [initE, h0, h1, h2, isTup, isMeas] using q
    | x :: y :: z :: r =>
      have : ¬ ((r.length : Int) + 1 + 1 + 1 = 2) := by omega
      simpa [initE, h0, h1, h2, isTup, isMeas, this] using q
    | [x, y] =>
      cases x with
      | int a =>
        cases y with
        | int b =>
          by_cases ha : 1 ≤ a <;> by_cases ha' : a ≤ 1000000 <;> by_cases hb : 1 ≤ b <;> by_cases hb' : b ≤ 1000000 <;> simp [initE, h0, h1, h2, isTup, isMeas, isFrom, ha, ha', hb, hb'] at q ⊢ <;> first | exact q | exact ⟨by omega, q⟩
        | _ => by_cases ha : 1 ≤ a <;> by_cases ha' : a ≤ 1000000 <;> simpa [initE, h0, h1, h2, isTup, isMeas, isFrom, ha, ha'] using q
      | _ => simpa [initE, h0, h1, h2, isTup, isMeas, isFrom] using q
  | _ => simpa [initE, h0, h1, h2, isTup, isMeas] using q
end CC
namespace CC
open PySem PySem.Spec PyProof.Rows L2
/-! ### shapes -/
theorem shaped_mem' : ∀ {ds : List D}, PyData.canLayAll0 ds = true → PyData.depthAll ds ≤ 63 → ∀ d ∈ ds, SeqAt.shaped d = true
  | [], _, _, _, m => nomatch m
  | x :: r, h1, h2, d, m => by
    simp only [PyData.canLayAll0, Bool.and_eq_true] at h1
    simp only [PyData.depthAll] at h2
    rcases List.mem_cons.mp m with rfl | m
    · unfold SeqAt.shaped
      rw [h1.1, Bool.true_and]
      exact decide_eq_true (by omega)
    · exact shaped_mem' h1.2 (by omega) d m
theorem shaped_mem {ds : List D} (h : SeqAt.shaped (.tuple ds) = true) : ∀ d ∈ ds, SeqAt.shaped d = true := by
  refine shaped_mem' ?_ ?_
  · simpa [PyData.canLay0] using SeqAt.canLay_of_shaped h
  · have := SeqAt.depth_of_shaped h
    simp only [PyData.depth] at this
    omega
theorem shaped_nil : SeqAt.shaped (.tuple []) = true := by decide +kernel
def isCoin (v : D) : Bool := match v with
  | .tuple [a, b, c, .bool m] => isMeas a && (isMeas b && isMeas c)
  | _ => false
def sp5 : Spec
  | [.dat v], Q => Q (.bool (isCoin v))
  | _, _ => False
@[simp] theorem sp5_e {v} {Q : D → Prop} : sp5 [.dat v] Q = (Q (.bool (isCoin v))) := rfl
/-- all([p(x) for x in ds]) -/
theorem compL_bool {f : D → (List D → Prop) → Prop} {p : D → Bool} {ds : List D} {Q : List D → Prop} (h : ∀ d ∈ ds, ∀ k : List D → Prop, k [.bool (p d)] → f d k) (q : Q ((ds.map p).map .bool)) : compL f ds [] Q :=
  compL_map (fun d => .bool (p d)) h (by rw [List.map_map] at q; exact q)
theorem sem5 {Φ : Nat → Spec} (h1 : Φ 1 = sp1) (h4 : Φ 4 = sp4) : DefSem (b5.sem Φ) 2 1 sp5 := by
  intro as Q q
  unfold sp5 at q
  split at q <;> try exact q.elim
  rename_i v
  refine ⟨rfl, ?_⟩
  simp only [b5]
  cases v with
  | tuple ds =>
    match ds with
    | [] => simpa [initE, h1, isTup, isCoin] using q
    | [x] => simpa [initE, h1, isTup, isCoin] using q
    | [x, y] => simpa [initE, h1, isTup, isCoin] using q
    | [x, y, z] => simpa [initE, h1, isTup, isCoin] using q
    | x :: y :: z :: u :: v :: r =>
      have : ¬ ((r.length : Int) + 1 + 1 + 1 + 1 + 1 = 4) := by omega
      simpa [initE, h1, isTup, isCoin, this] using q
    | [x, y, z, u] =>
      cases u with
      | bool m =>
        simp [initE, h1, isTup]
        rw [cut_to _ (by decide)]
        refine compL_bool (p := isMeas) (fun d _ k hk => by simpa [h4] using hk) ⟨_, rfl, ?_⟩
        simpa [isCoin, Bool.and_assoc] using q
      | _ => simpa [initE, h1, isTup, isCoin] using q
  | _ => simpa [initE, h1, isTup, isCoin] using q
def isPl (v : D) : Bool := isFrom v (-1) 3
def sp6 : Spec
  | [.dat v], Q => Q (.bool (isPl v))
  | _, _ => False
@[simp] theorem sp6_e {v} {Q : D → Prop} : sp6 [.dat v] Q = (Q (.bool (isPl v))) := rfl
theorem sem6 {Φ : Nat → Spec} (h0 : Φ 0 = sp0) : DefSem (b6.sem Φ) 1 1 sp6 := by
  intro as Q q
  unfold sp6 at q
  split at q <;> try exact q.elim
  rename_i v
  refine ⟨rfl, ?_⟩
  simpa [b6, initE, h0, isPl] using q
def isStepD (v : D) : Bool := match v with
  | .tuple [.str w, a] => (w == "magnet") && isPl a
  | .tuple [.str w, a, b] => (!(w == "magnet") && (w == "hole" || (w == "gap" || w == "scale"))) && (isFrom a 1 80 && isPl b)
  | _ => false
def sp7 : Spec
  | [.dat v], Q => SeqAt.shaped v = true ∧ Q (.bool (isStepD v))
  | _, _ => False
@[simp] theorem sp7_e {v} {Q : D → Prop} : sp7 [.dat v] Q = (SeqAt.shaped v = true ∧ Q (.bool (isStepD v))) := rfl
theorem eqv_comm_str (a b : Str) : (a == b) = (b == a) := by
  cases h : a == b with
  | true => rw [eq_of_beq h]; exact (beq_self_eq_true _).symm
  | false =>
    cases h2 : b == a with
    | true => rw [eq_of_beq h2, beq_self_eq_true] at h; cases h
    | false => rfl
theorem sem7 {Φ : Nat → Spec} (h0 : Φ 0 = sp0) (h6 : Φ 6 = sp6) : DefSem (b7.sem Φ) 1 1 sp7 := by
  intro as Q q
  unfold sp7 at q
  split at q <;> try exact q.elim
  rename_i v
  obtain ⟨hs, q⟩ := q
  refine ⟨rfl, ?_⟩
  simp only [b7]
  have base : ∀ ds, v = .tuple ds → eqOk (.tuple ds) (.tuple []) := fun ds e => .inr ⟨by rw [← e]; exact hs, shaped_nil⟩
  cases v with
  | tuple ds =>
    have base := base ds rfl
    match ds with
    | [] => simp [initE, base, isStepD] at q ⊢; exact q
    | x :: r =>
      cases x with
      | str w =>
        cases hm : w == ("magnet" : Str) with
        | true =>
          match r with
          | [] => simp [initE, base, hm, h6, isStepD] at q ⊢; exact q
          | [a] => simp [initE, base, hm, h6, isStepD] at q ⊢; exact q
          | [a, b] =>  simp [initE, base, hm, h6, isStepD] at q ⊢; exact q
          | a :: b :: c :: r =>
            have : ¬ ((r.length : Int) + 1 + 1 + 1 + 1 = 2) := by omega
            simp [initE, base, hm, h6, isStepD, this] at q ⊢; exact q
        | false =>
          cases hw : (("hole" : Str) == w || (("gap" : Str) == w || ("scale" : Str) == w)) with
          | false =>
            have e : isStepD (.tuple (.str w :: r)) = false := by
              match r with
              | [] => rfl
              | [a] => simp [isStepD, hm]
              | [a, b] => rw [eqv_comm_str, eqv_comm_str "gap", eqv_comm_str "scale"] at hw; simp only [isStepD, hm, hw]; rfl
              | a :: b :: c :: r => rfl
            rw [e] at q
            simp at hw
            simp [initE, base, hm, hw]; exact q
          | true =>
            match r with
            | [] => simp [initE, base, hm, hw, isStepD] at q ⊢; exact q
            | [a] => simp [initE, base, hm, hw, isStepD] at q ⊢; exact q
            | [a, b] =>
              simp at hw
              rcases hw with rfl | rfl | rfl <;> (cases hf : isFrom a 1 80 <;> simp [initE, base, h0, h6, isStepD, hf] at q ⊢ <;> exact q)
            | a :: b :: c :: r =>
              have : ¬ ((r.length : Int) + 1 + 1 + 1 + 1 = 3) := by omega
              simp [initE, base, hm, hw, isStepD, this] at q ⊢; exact q
      | _ => simp [initE, base, isStepD] at q ⊢; exact q
  | _ => simpa [initE, isStepD] using q
end CC

namespace CC
open PySem PySem.Spec PyProof.Rows L2
def isMachD (v : D) : Bool := match v with
  | .tuple ds => decide (ds.length ≤ 8) && ds.all isStepD
  | _ => false
def sp8 : Spec
  | [.dat v], Q => SeqAt.shaped v = true ∧ Q (.bool (isMachD v))
  | _, _ => False
@[simp] theorem sp8_e {v} {Q : D → Prop} : sp8 [.dat v] Q = (SeqAt.shaped v = true ∧ Q (.bool (isMachD v))) := rfl
theorem len_le (n k : Nat) : ((n : Int) ≤ (k : Int)) = (n ≤ k) := propext (by omega)
theorem sem8 {Φ : Nat → Spec} (h7 : Φ 7 = sp7) : DefSem (b8.sem Φ) 2 1 sp8 := by
  intro as Q q
  unfold sp8 at q
  split at q <;> try exact q.elim
  rename_i v
  obtain ⟨hs, q⟩ := q
  refine ⟨rfl, ?_⟩
  simp only [b8]
  cases v with
  | tuple ds =>
    by_cases hl : ds.length ≤ 8
    · have hl' : (ds.length : Int) ≤ 8 := by omega
      simp [initE, hl']
      refine compL_bool (p := isStepD) (fun d m k hk => ?_) ⟨_, rfl, ?_⟩
      · simp [h7]
        exact ⟨shaped_mem hs d m, hk⟩
      · simpa [isMachD, hl] using q
    · have hl' : ¬ (ds.length : Int) ≤ 8 := by omega
      simp [initE, hl', isMachD, hl] at q ⊢
      exact q
  | _ => simpa [initE, isMachD] using q
def sp46 : Spec
  | [.dat v], Q => (SeqAt.shaped v = true ∧ isMachD v = true) ∧ Q .none
  | _, _ => False
@[simp] theorem sp46_e {v} {Q : D → Prop} : sp46 [.dat v] Q = ((SeqAt.shaped v = true ∧ isMachD v = true) ∧ Q .none) := rfl
theorem sem46 {Φ : Nat → Spec} (h : Φ 8 = sp8) : DefSem (b46.sem Φ) 1 1 sp46 := by
  intro as Q q
  unfold sp46 at q
  split at q <;> try exact q.elim
  rename_i v
  obtain ⟨⟨hs, hm⟩, q⟩ := q
  refine ⟨rfl, ?_⟩
  simp [b46, initE, h, hs, hm]
  exact q
def sp14 : Spec
  | [.dat v], Q => isCoin v = true ∧ Q .none
  | _, _ => False
@[simp] theorem sp14_e {v} {Q : D → Prop} : sp14 [.dat v] Q = (isCoin v = true ∧ Q .none) := rfl
theorem sem14 {Φ : Nat → Spec} (h : Φ 5 = sp5) : DefSem (b14.sem Φ) 1 1 sp14 := by
  intro as Q q
  unfold sp14 at q
  split at q <;> try exact q.elim
  rename_i v
  obtain ⟨hm, q⟩ := q
  refine ⟨rfl, ?_⟩
  simp [b14, initE, h, hm]
  exact q
/-! ### typed things -/
inductive Kd | hole | gap | scale
  deriving DecidableEq
def Kd.word : Kd → Str
  | .hole => "hole"
  | .gap => "gap"
  | .scale => "scale"
inductive Stp | cut (k : Kd) (l p : Int) | mag (p : Int)
  deriving DecidableEq
def Stp.enc : Stp → D
  | .cut k l p => .tuple [.str k.word, .int l, .int p]
  | .mag p => .tuple [.str "magnet", .int p]
def Stp.pl : Stp → Int
  | .cut _ _ p => p
  | .mag p => p
def Stp.word : Stp → Str
  | .cut k _ _ => k.word
  | .mag _ => "magnet"
def encM (m : List Stp) : D := .tuple (m.map Stp.enc)
structure Coin where
  w : Int × Int
  t : Int × Int
  h : Int × Int
  m : Bool
  deriving DecidableEq
def encR (r : Int × Int) : D := .tuple [.int r.1, .int r.2]
def Coin.enc (c : Coin) : D := .tuple [encR c.w, encR c.t, encR c.h, .bool c.m]
def okP (p : Int) : Prop := -1 ≤ p ∧ p ≤ 3
def Stp.ok : Stp → Prop
  | .cut _ l p => (1 ≤ l ∧ l ≤ 80) ∧ okP p
  | .mag p => okP p
def okR (r : Int × Int) : Prop := (1 ≤ r.1 ∧ r.1 ≤ 1000000) ∧ (1 ≤ r.2 ∧ r.2 ≤ 1000000) ∧ Int.gcd r.1 r.2 = 1
def Coin.ok (c : Coin) : Prop := okR c.w ∧ okR c.t ∧ okR c.h
/-- limits of any machine that is walked -/
def Stp.okw : Stp → Prop
  | .cut _ l p => (1 ≤ l ∧ l ≤ 1000000) ∧ okP p
  | .mag p => okP p
theorem Stp.ok.w {s : Stp} (h : s.ok) : s.okw := by
  cases s with
  | cut k l p => exact ⟨⟨h.1.1, by have := h.1.2; omega⟩, h.2⟩
  | mag p => exact h
def okL (m : List Stp) : Prop := m.length ≤ 1000 ∧ ∀ s ∈ m, s.okw
def okM (m : List Stp) : Prop := m.length ≤ 8 ∧ ∀ s ∈ m, s.ok
theorem okM.l {m : List Stp} (h : okM m) : okL m := ⟨Nat.le_trans h.1 (by decide), fun s hs => (h.2 s hs).w⟩
theorem isPl_ok {p : Int} (h : okP p) : isPl (.int p) = true := by
  unfold okP at h
  simp [isPl, isFrom, h.1, h.2]
theorem isStep_ok {s : Stp} (h : s.ok) : isStepD s.enc = true := by
  cases s with
  | mag p => simp [Stp.enc, isStepD, isPl_ok h]
  | cut k l p =>
    obtain ⟨⟨h1, h2⟩, h3⟩ := h
    cases k <;> simp [Stp.enc, Kd.word, isStepD, isPl_ok h3, isFrom, h1, h2]
theorem isMach_ok {m : List Stp} (h : okM m) : isMachD (encM m) = true := by
  have : (m.map Stp.enc).all isStepD = true := by
    rw [List.all_map, List.all_eq_true]
    intro s hs
    exact isStep_ok (h.2 s hs)
  show (decide ((m.map Stp.enc).length ≤ 8) && (m.map Stp.enc).all isStepD) = true
  rw [this]
  simp [h.1]
theorem isMeas_ok {r : Int × Int} (h : okR r) : isMeas (encR r) = true := by
  obtain ⟨⟨h1, h2⟩, ⟨h3, h4⟩, h5⟩ := h
  simp [isMeas, encR, h1, h2, h3, h4, h5]
theorem isCoin_ok {c : Coin} (h : c.ok) : isCoin c.enc = true := by
  simp [isCoin, Coin.enc, isMeas_ok h.1, isMeas_ok h.2.1, isMeas_ok h.2.2]
theorem strOk_w (k : Kd) : PyData.strOk k.word = true := by cases k <;> decide +kernel
theorem shaped_step (s : Stp) : PyData.canLay0 s.enc = true ∧ PyData.depth s.enc = 1 := by
  have := strOk_w
  cases s with
  | cut k l p => simp [Stp.enc, PyData.canLay0, PyData.canLayAll0, PyData.depth, PyData.depthAll, strOk_w]
  | mag p =>
    have : PyData.strOk ("magnet" : Str) = true := by decide +kernel
    simp [Stp.enc, PyData.canLay0, PyData.canLayAll0, PyData.depth, PyData.depthAll, this]
theorem lay_all : ∀ {ds : List D}, (∀ d ∈ ds, PyData.canLay0 d = true) → PyData.canLayAll0 ds = true
  | [], _ => by simp [PyData.canLayAll0]
  | x :: r, h => by
    simp only [PyData.canLayAll0, Bool.and_eq_true]
    exact ⟨h x List.mem_cons_self, lay_all fun d m => h d (List.mem_cons_of_mem _ m)⟩
theorem dep_all {n : Nat} : ∀ {ds : List D}, (∀ d ∈ ds, PyData.depth d ≤ n) → PyData.depthAll ds ≤ n
  | [], _ => by simp [PyData.depthAll]
  | x :: r, h => by
    simp only [PyData.depthAll]
    have h1 := h x List.mem_cons_self
    have h2 := dep_all fun d m => h d (List.mem_cons_of_mem x m)
    omega
theorem shaped_tup {ds : List D} {n : Nat} (hn : n ≤ 63) (h : ∀ d ∈ ds, PyData.canLay0 d = true ∧ PyData.depth d ≤ n) : SeqAt.shaped (.tuple ds) = true := by
  unfold SeqAt.shaped
  have h1 := lay_all fun d m => (h d m).1
  have h2 := dep_all fun d m => (h d m).2
  simp only [PyData.canLay0, PyData.depth, h1, Bool.true_and]
  exact decide_eq_true (by omega)
theorem shaped_lst {ds : List D} {n : Nat} (hn : n ≤ 63) (h : ∀ d ∈ ds, PyData.canLay0 d = true ∧ PyData.depth d ≤ n) : SeqAt.shaped (.list ds) = true := by
  unfold SeqAt.shaped
  have h1 := lay_all fun d m => (h d m).1
  have h2 := dep_all fun d m => (h d m).2
  simp only [PyData.canLay0, PyData.depth, h1, Bool.true_and]
  exact decide_eq_true (by omega)
theorem shaped_M (m : List Stp) : SeqAt.shaped (encM m) = true := shaped_tup (n := 1) (by omega) fun d hd => by
  obtain ⟨s, _, rfl⟩ := List.mem_map.mp hd
  exact ⟨(shaped_step s).1, by rw [(shaped_step s).2]; exact Nat.le_refl _⟩
/-! ### where a coin runs -/
def takes (s : Stp) (c : Coin) : Bool := match s with
  | .mag _ => c.m
  | .cut .hole l _ => decide (c.w.1 ≤ l * c.w.2)
  | .cut .gap l _ => decide (c.t.1 ≤ l * c.t.2)
  | .cut .scale l _ => decide (l * c.h.2 ≤ c.h.1)
def idx (m : List Stp) (c : Coin) : Option Nat := m.findIdx? fun s => takes s c
def encO : Option Nat → D
  | none => .none
  | some n => .int n
def endOf (m : List Stp) (c : Coin) : Int := match idx m c with
  | none => -1
  | some i => match m[i]? with
    | some s => s.pl
    | none => -1
def sp47 : Spec
  | [.dat a, .dat b], Q => ∃ s c, a = Stp.enc s ∧ b = Coin.enc c ∧ s.okw ∧ Q (.bool (takes s c))
  | _, _ => False
theorem cmul_ok {l x : Int} (h : 1 ≤ l ∧ l ≤ 1000000) : CMul l x := .inl ⟨by omega, by omega⟩
theorem sem47 {Φ : Nat → Spec} : DefSem (b47.sem Φ) 2 2 sp47 := by
  intro as Q q
  unfold sp47 at q
  split at q <;> try exact q.elim
  obtain ⟨s, c, rfl, rfl, hs, q⟩ := q
  refine ⟨rfl, ?_⟩
  cases s with
  | mag p => simp [b47, initE, Stp.enc, Coin.enc, takes] at q ⊢; exact q
  | cut k l p =>
    have := fun x => cmul_ok (x := x) hs.1
    cases k <;> simp [b47, initE, Stp.enc, Coin.enc, encR, Kd.word, takes, this] at q ⊢ <;> exact q
def sp48 : Spec
  | [.dat a, .dat b], Q => ∃ m c, a = encM m ∧ b = Coin.enc c ∧ okL m ∧ Q (encO (idx m c))
  | _, _ => False
theorem sem48 {Φ : Nat → Spec} (h : Φ 47 = sp47) : DefSem (b48.sem Φ) 4 2 sp48 := by
  intro as Q q
  unfold sp48 at q
  split at q <;> try exact q.elim
  obtain ⟨m, c, rfl, rfl, hm, q⟩ := q
  refine ⟨rfl, ?_⟩
  simp [b48, initE, encM, enumL_map]
  refine forL_inv _ (fun r ρ => ∃ u v, ρ = [.dat (.tuple (m.map Stp.enc)), .dat c.enc, u, v] ∧ ∃ n, r = (m.drop n).zipIdx n ∧ idx m c = (idx (m.drop n) c).map (· + n)) (fun x r ρ hI k hk => ?_) (fun ρ hI => ?_) _ _ ⟨_, _, rfl, 0, by simp, by simp⟩
  · obtain ⟨u, v, rfl, n, e1, e2⟩ := hI
    obtain ⟨s, i⟩ := x
    cases e : m.drop n with
    | nil => rw [e] at e1; cases e1
    | cons s' r' =>
      rw [e, List.zipIdx_cons] at e1
      obtain ⟨e1, rfl⟩ := List.cons.inj e1
      cases e1
      have ms : s ∈ m := List.mem_of_mem_drop (by rw [e]; exact List.mem_cons_self)
      have er : r' = m.drop (n + 1) := by rw [← List.tail_drop, e]; rfl
      simp [h, sp47]
      refine ⟨s, rfl, c, rfl, hm.2 s ms, ?_⟩
      cases ht : takes s c with
      | true =>
        have : idx m c = some n := by rw [e2, e]; simp [idx, List.findIdx?_cons, ht]
        rw [this] at q
        simpa [encO] using q
      | false =>
        simp
        refine hk _ ⟨_, _, rfl, n + 1, by rw [er], ?_⟩
        rw [e2, e, ← er]
        simp [idx, List.findIdx?_cons, ht]
        cases List.findIdx? (fun s => takes s c) r' <;> simp; omega
  · obtain ⟨u, v, rfl, n, e1, e2⟩ := hI
    have : m.drop n = [] := by
      cases e : m.drop n with
      | nil => rfl
      | cons _ _ => rw [e] at e1; cases e1
    rw [this] at e2
    have : idx m c = none := by rw [e2]; rfl
    rw [this] at q
    simpa [encO] using q
end CC

namespace CC
open PySem PySem.Spec PyProof.Rows L2
theorem idx_lt {m : List Stp} {c : Coin} {i : Nat} (h : idx m c = some i) : i < m.length := by
  unfold idx at h
  rw [List.findIdx?_eq_some_iff_getElem] at h
  exact h.1
theorem atI_map {α : Type} (f : α → D) {xs : List α} {n : Nat} (h : n < xs.length) : atI (xs.map f) (n : Int) = some (f xs[n]) := by
  refine atI_nat ?_
  rw [List.getElem?_map, List.getElem?_eq_getElem h]; rfl
theorem enc_last (s : Stp) : ∃ ds, s.enc = .tuple ds ∧ atI ds (-1) = some (.int s.pl) := by
  cases s <;> exact ⟨_, rfl, by simp [Stp.pl]⟩
def sp49 : Spec
  | [.dat a, .dat b], Q => ∃ m c, a = encM m ∧ b = Coin.enc c ∧ okL m ∧ Q (.int (endOf m c))
  | _, _ => False
theorem sem49 {Φ : Nat → Spec} (h : Φ 48 = sp48) : DefSem (b49.sem Φ) 3 2 sp49 := by
  intro as Q q
  unfold sp49 at q
  split at q <;> try exact q.elim
  obtain ⟨m, c, rfl, rfl, hm, q⟩ := q
  refine ⟨rfl, ?_⟩
  simp [b49, initE, h, sp48]
  refine ⟨m, rfl, c, rfl, hm, ?_⟩
  unfold endOf at q
  cases e : idx m c with
  | none => rw [e] at q; simpa [encO] using q
  | some n =>
    rw [e] at q
    have hl := idx_lt e
    obtain ⟨ds, e1, e2⟩ := enc_last m[n]
    simp [encO, encM, atI_map Stp.enc hl, e1, e2]
    simpa [List.getElem?_eq_getElem hl] using q
def sp50 : Spec
  | [.dat a, .dat b], Q => ∃ m c, a = encM m ∧ b = Coin.enc c ∧ okM m ∧ c.ok ∧ Q .none
  | _, _ => False
@[simp] theorem sp50_e {a} {b} {Q : D → Prop} : sp50 [.dat a, .dat b] Q = (∃ m c, a = encM m ∧ b = Coin.enc c ∧ okM m ∧ c.ok ∧ Q .none) := rfl
theorem sem50 {Φ : Nat → Spec} (h1 : Φ 14 = sp14) (h : Φ 46 = sp46) : DefSem (b50.sem Φ) 2 2 sp50 := by
  intro as Q q
  unfold sp50 at q
  split at q <;> try exact q.elim
  obtain ⟨m, c, rfl, rfl, hm, hc, q⟩ := q
  refine ⟨rfl, ?_⟩
  simp [b50, initE, h, h1, shaped_M, isMach_ok hm, isCoin_ok hc]
  exact q
def sp51 : Spec
  | [.dat a, .dat b], Q => ∃ m c, a = encM m ∧ b = Coin.enc c ∧ okM m ∧ c.ok ∧ Q (.int (endOf m c))
  | _, _ => False
theorem sem51 {Φ : Nat → Spec} (h : Φ 49 = sp49) (h1 : Φ 50 = sp50) : DefSem (b51.sem Φ) 2 2 sp51 := by
  intro as Q q
  unfold sp51 at q
  split at q <;> try exact q.elim
  obtain ⟨m, c, rfl, rfl, hm, hc, q⟩ := q
  refine ⟨rfl, ?_⟩
  simp [b51, initE, h, h1, sp49]
  exact ⟨m, rfl, c, rfl, hm, hc, m, rfl, c, rfl, hm.l, q⟩
def sp52 : Spec
  | [.dat a, .dat b], Q => ∃ m c, a = encM m ∧ b = Coin.enc c ∧ okM m ∧ c.ok ∧ Q (encO (idx m c))
  | _, _ => False
theorem sem52 {Φ : Nat → Spec} (h : Φ 48 = sp48) (h1 : Φ 50 = sp50) : DefSem (b52.sem Φ) 2 2 sp52 := by
  intro as Q q
  unfold sp52 at q
  split at q <;> try exact q.elim
  obtain ⟨m, c, rfl, rfl, hm, hc, q⟩ := q
  refine ⟨rfl, ?_⟩
  simp [b52, initE, h, h1, sp48]
  exact ⟨m, rfl, c, rfl, hm, hc, m, rfl, c, rfl, hm.l, q⟩
def words (m : List Stp) : D := .list (m.map fun s => .str s.word)
def pathOf (m : List Stp) (c : Coin) : List Stp := match idx m c with
  | none => m
  | some i => m.take (i + 1)
def sp53 : Spec
  | [.dat a, .dat b], Q => ∃ m c, a = encM m ∧ b = Coin.enc c ∧ okM m ∧ c.ok ∧ Q (words (pathOf m c))
  | _, _ => False
theorem enc_first (s : Stp) : ∃ ds, s.enc = .tuple ds ∧ atI ds 0 = some (.str s.word) := by
  cases s <;> exact ⟨_, rfl, by simp [Stp.word]⟩
theorem sem53 {Φ : Nat → Spec} (h : Φ 48 = sp48) (h1 : Φ 50 = sp50) : DefSem (b53.sem Φ) 4 2 sp53 := by
  intro as Q q
  unfold sp53 at q
  split at q <;> try exact q.elim
  obtain ⟨m, c, rfl, rfl, hm, hc, q⟩ := q
  refine ⟨rfl, ?_⟩
  simp [b53, initE, h, h1, sp48]
  refine ⟨m, rfl, c, rfl, hm, hc, m, rfl, c, rfl, hm.l, ?_⟩
  have go : ∀ (xs : List Stp) (R : D → Prop) (f : D → (List D → Prop) → Prop), (∀ s ∈ xs, ∀ k : List D → Prop, k [.str s.word] → f s.enc k) → R (words xs) → compL f (xs.map Stp.enc) [] fun es => R (.list es) := fun xs R f hf hr =>
    compL_typ Stp.enc (fun s => [.str s.word]) hf (by rw [List.nil_append, ← List.map_eq_flatMap]; exact hr)
  unfold pathOf at q
  cases e : idx m c with
  | none =>
    rw [e] at q
    simp [encO, encM]
    refine go m Q _ (fun s hs k hk => ?_) q
    obtain ⟨ds, e1, e2⟩ := enc_first s
    simp [e1, e2]
    exact hk
  | some n =>
    rw [e] at q
    simp [encO, encM]
    rw [cut_to _ (by omega), ← List.map_take]
    have : ((n : Int) + 1).toNat = n + 1 := by omega
    rw [this]
    refine go _ Q _ (fun s hs k hk => ?_) q
    obtain ⟨ds, e1, e2⟩ := enc_first s
    simp [e1, e2]
    exact hk
end CC

namespace CC
open PySem PySem.Spec PyProof.Rows L2
/-! ### the law's draws -/
def sp23 : Spec
  | [.dat (.list ds), .dat (.int k)], Q => ∃ ns : List Int, ds = ns.map .int ∧ (0 ≤ k ∧ k ≤ 1000) ∧ ∀ x y, BagV x y → Q (.list [.int x, .int y])
  | _, _ => False
theorem pow18 : CPow 10 18 := ⟨by decide, by decide, by decide⟩
theorem sem23 {Φ : Nat → Spec} : DefSemN (b23s.sem Φ) (b23e.sem Φ) 3 2 sp23 := by
  intro as Q q
  unfold sp23 at q
  split at q <;> try exact q.elim
  rename_i k
  obtain ⟨ns, rfl, ⟨hk, hk2⟩, q⟩ := q
  refine ⟨rfl, ?_⟩
  have fin : ∀ z : Int, 0 ≤ z → ∃ ds, PyData.list [.int (if 1000000000000000000 ≤ z then z else 0), .int ((z % 2147483179 + 70001 * k + 53) % 2147483179)] = PyData.list ds ∧ Q (.list [.int (if 1000000000000000000 ≤ z then z else 0), .int ((z % 2147483179 + 70001 * k + 53) % 2147483179)]) := fun z hz => ⟨_, rfl, q _ _ ⟨by split <;> omega, by omega, by omega⟩⟩
  have c1 : CMul 67 k := .inl ⟨by decide, by decide⟩
  have c2 : CMul 70001 k := .inl ⟨by decide, by decide⟩
  by_cases h : k < (ns.length : Int)
  · obtain ⟨d, h1, h2⟩ := atI_in (xs := ns.map PyData.int) hk (by rw [List.length_map]; exact h)
    rw [List.getElem?_map] at h2
    obtain ⟨z, hz, rfl⟩ := Option.map_eq_some_iff.mp h2
    simp [b23s, b23e, initE, h, h1, pow18, c1, c2]
    have e : (10 : Int) ^ Int.toNat 18 = 1000000000000000000 := by decide
    by_cases h0 : z < 0
    · have := fin (-z) (by omega)
      simp [h0, e]
      by_cases h3 : 1000000000000000000 ≤ -z <;> simp [h3] at this ⊢ <;> exact this
    · have := fin z (by omega)
      simp [h0, e]
      by_cases h3 : 1000000000000000000 ≤ z <;> simp [h3] at this ⊢ <;> exact this
  · simp [b23s, b23e, initE, h, pow18, c1, c2]
    have e : (10 : Int) ^ Int.toNat 18 = 1000000000000000000 := by decide
    have h3 : ¬ 1000000000000000000 ≤ 67 * k + 29 := by omega
    have := fin (67 * k + 29) (by omega)
    simp [e, h3] at this ⊢
    exact this
def sp24 : Spec
  | [.bag _, .dat (.int n)], Q => (0 < n ∧ n < 1073741824) ∧ ∀ r, 0 ≤ r → r < n → Q (.int r)
  | _, _ => False
theorem sem24 {Φ : Nat → Spec} : DefSem (b24.sem Φ) 4 2 sp24 := by
  intro as Q q
  unfold sp24 at q
  split at q <;> try exact q.elim
  rename_i a n
  obtain ⟨⟨hn, hn2⟩, q⟩ := q
  refine ⟨rfl, ?_⟩
  have m1 := fun z : Int => Int.emod_nonneg z (show n ≠ 0 by omega)
  have m2 := fun z : Int => Int.emod_lt_of_pos z hn
  have c1 : ∀ z : Int, CMul z 41358 := fun z => .inr ⟨by decide, by decide⟩
  have d17 : CDivW 1 17 := CC.CDivW.of ⟨by decide, by decide⟩
  have dv : ∀ z : Int, CDivW z n := fun z => CC.CDivW.of ⟨hn, hn2⟩
  have d1 : ∀ z : Int, CDivW z 17 := fun z => CC.CDivW.of ⟨by decide, by decide⟩
  have d2 : ∀ z : Int, CDivW z 19 := fun z => CC.CDivW.of ⟨by decide, by decide⟩
  simp [b24, initE, c1, d1, d2, dv, hn]
  intro x hx
  split
  · intro y hy
    exact fun z hz => ⟨Int.ediv_nonneg hz (by omega), q _ (m1 _) (m2 _)⟩
  · refine fun y hy hy2 => ⟨by omega, by omega, fun z hz hz2 u hu hu2 => ⟨?_, q _ (m1 _) (m2 _)⟩⟩
    exact .inl ⟨by omega, by omega⟩
def sp25 : Spec
  | [.bag _, .dat (.list ds)], Q => (0 < ds.length ∧ ds.length < 1073741824) ∧ ∀ d ∈ ds, Q d
  | _, _ => False
theorem sem25 {Φ : Nat → Spec} (h : Φ 24 = sp24) : DefSem (b25.sem Φ) 2 2 sp25 := by
  intro as Q q
  unfold sp25 at q
  split at q <;> try exact q.elim
  rename_i a ds
  obtain ⟨⟨hn, hn2⟩, q⟩ := q
  refine ⟨rfl, ?_⟩
  simp [b25, initE, h, sp24]
  refine ⟨⟨hn, by omega⟩, fun r h0 h1 => ?_⟩
  obtain ⟨d, e1, e2⟩ := atI_in h0 h1
  exact ⟨d, e1, q d (List.mem_of_getElem? e2)⟩
def Stp.lim : Stp → Int
  | .cut _ l _ => l
  | .mag _ => 1
def sp27 : Spec
  | [.bag _, .dat (.int w)], Q => (0 ≤ w ∧ w ≤ 74) ∧ ∀ s : Stp, s.ok → s.lim ≤ w + 6 → Q s.enc
  | _, _ => False
theorem sem27 {Φ : Nat → Spec} (h24 : Φ 24 = sp24) (h25 : Φ 25 = sp25) : DefSem (b27.sem Φ) 4 2 sp27 := by
  intro as Q q
  unfold sp27 at q
  split at q <;> try exact q.elim
  rename_i a w
  obtain ⟨⟨hn, hn2⟩, q⟩ := q
  refine ⟨rfl, ?_⟩
  have cut : ∀ (k : Kd) (p : Int), okP p → ∀ r : Int, 0 ≤ r → r < w + 6 → Q (.tuple [.str k.word, .int (1 + r), .int p]) := fun k p hp r h0 h1 => q (.cut k (1 + r) p) ⟨⟨by omega, by omega⟩, hp⟩ (by show 1 + r ≤ w + 6; omega)
  have mag : ∀ p : Int, okP p → Q (.tuple [.str "magnet", .int p]) := fun p hp => q (.mag p) hp (by show (1 : Int) ≤ w + 6; omega)
  have p1 : okP (-1) := ⟨by decide, by decide⟩
  have p2 : okP 0 := ⟨by decide, by decide⟩
  have p3 : okP 1 := ⟨by decide, by decide⟩
  have p4 : okP 2 := ⟨by decide, by decide⟩
  have p5 : okP 3 := ⟨by decide, by decide⟩
  have hw : 0 < w + 6 ∧ w + 6 < 1073741824 := ⟨by omega, by omega⟩
  simp [b27, initE, h24, h25, sp24, sp25, hw]
  exact ⟨⟨cut .hole _ p1, cut .hole _ p2, cut .hole _ p3, cut .hole _ p4, cut .hole _ p5⟩, ⟨cut .gap _ p1, cut .gap _ p2, cut .gap _ p3, cut .gap _ p4, cut .gap _ p5⟩, ⟨cut .scale _ p1, cut .scale _ p2, cut .scale _ p3, cut .scale _ p4, cut .scale _ p5⟩, mag _ p1, mag _ p2, mag _ p3, mag _ p4, mag _ p5⟩
def sp54 : Spec
  | [.bag _, .dat (.int n)], Q => (0 ≤ n ∧ n ≤ 1000) ∧ ∀ m : List Stp, (m.length : Int) ≤ n → (∀ s ∈ m, s.ok ∧ s.lim ≤ 18) → Q (encM m)
  | _, _ => False
theorem sem54 {Φ : Nat → Spec} (h24 : Φ 24 = sp24) (h25 : Φ 25 = sp25) (h27 : Φ 27 = sp27) : DefSem (b54.sem Φ) 3 2 sp54 := by
  intro as Q q
  unfold sp54 at q
  split at q <;> try exact q.elim
  rename_i a n
  obtain ⟨⟨hn, hn2⟩, q⟩ := q
  refine ⟨rfl, ?_⟩
  have hw : 0 < n + 1 ∧ n + 1 < 1073741824 := ⟨by omega, by omega⟩
  simp [b54, initE, h24, h25, h27, sp24, sp25, sp27, hw]
  intro r h0 h1
  refine ⟨⟨by omega, by omega⟩, ?_⟩
  have : r = (r.toNat : Int) := by omega
  rw [this, rngL_nat]
  refine compL_any (fun s : Stp => s.ok ∧ s.lim ≤ 18) Stp.enc (fun d hd k hk => ?_) fun ys hl hr => ?_
  · show _ ∧ _
    exact ⟨fun s hs hl => hk s ⟨hs, by omega⟩, fun s hs hl => hk s ⟨hs, by omega⟩⟩
  · rw [List.length_map, List.length_range] at hl
    exact q ys (by omega) hr
end CC

namespace CC
open PySem PySem.Spec PyProof.Rows L2
/-- a share, as low as it goes -/
def low (a b : Int) : Int × Int := (a / (Int.gcd a b : Int), b / (Int.gcd a b : Int))
def sp29 : Spec
  | [.dat (.int a), .dat (.int b)], Q => (0 < b ∧ b < 1073741824) ∧ Q (encR (low a b))
  | _, _ => False
@[simp] theorem sp29_e {a} {b} {Q : D → Prop} : sp29 [.dat (.int a), .dat (.int b)] Q = ((0 < b ∧ b < 1073741824) ∧ Q (encR (low a b))) := rfl
theorem gcd_pos {a b : Int} (h : 0 < b) : 0 < (Int.gcd a b : Int) := by
  have : 0 < Int.gcd a b := Int.gcd_pos_iff.mpr (.inr (by omega))
  omega
theorem gcd_le {a b : Int} (h : 0 < b) : (Int.gcd a b : Int) ≤ b := by
  have := Int.gcd_dvd_right (a := a) (b := b)
  exact Int.le_of_dvd h this
theorem abs_if (a : Int) : (if a < 0 then -a else a) = (a.natAbs : Int) := by split <;> omega
theorem sem29 {Φ : Nat → Spec} : DefSem (b29.sem Φ) 4 2 sp29 := by
  intro as Q q
  unfold sp29 at q
  split at q <;> try exact q.elim
  rename_i a b
  obtain ⟨⟨hb, hb2⟩, q⟩ := q
  refine ⟨rfl, ?_⟩
  simp only [b29, Sms.sem, Sm.sem]
  simp [initE]
  refine ⟨fun ρ => ∃ x y : Int, ρ = [.dat (.int a), .dat (.int b), .dat (.int x), .dat (.int y)] ∧ 0 ≤ x ∧ 0 ≤ y ∧ Int.gcd x y = Int.gcd a b, ⟨_, _, rfl, by split <;> omega, by split <;> omega, by rw [abs_if, abs_if]; simp [Int.gcd]⟩, fun ρ => match ρ with
    | [_, _, _, .dat (.int y)] => y.toNat
    | _ => 0, ?_⟩
  rintro ρ ⟨x, y, rfl, hx, hy, e⟩
  simp
  by_cases h : y = 0
  · subst h
    simp
    have e2 : x = (Int.gcd a b : Int) := by rw [← e, Int.gcd_zero_right]; omega
    have c : CDivW a x := CC.CDivW.of ⟨by rw [e2]; exact gcd_pos hb, by rw [e2]; have := gcd_le (a := a) hb; omega⟩
    refine ⟨c, c, ?_⟩
    rw [e2]
    exact q
  · have hy' : 0 < y := by omega
    have h1 := Int.emod_nonneg x h
    have h2 := Int.emod_lt_of_pos x hy'
    simp [h, hy']
    refine ⟨⟨y, x % y, ⟨rfl, rfl⟩, by omega, h1, by rw [gcd_step x y, e]⟩, by omega⟩
theorem low_ok {a b : Int} (ha : 1 ≤ a ∧ a ≤ 1000000) (hb : 1 ≤ b ∧ b ≤ 1000000) : okR (low a b) := by
  have g0 := gcd_pos (a := a) (b := b) (by omega)
  have d1 := Int.gcd_dvd_left (a := a) (b := b)
  have d2 := Int.gcd_dvd_right (a := a) (b := b)
  have p1 : 0 < a / (Int.gcd a b : Int) := Int.ediv_pos_of_pos_of_dvd (by omega) (by omega) d1
  have p2 : 0 < b / (Int.gcd a b : Int) := Int.ediv_pos_of_pos_of_dvd (by omega) (by omega) d2
  have l1 : a / (Int.gcd a b : Int) ≤ a := Int.ediv_le_self _ (by omega)
  have l2 : b / (Int.gcd a b : Int) ≤ b := Int.ediv_le_self _ (by omega)
  refine ⟨⟨by show 1 ≤ a / _; omega, by show a / _ ≤ _; omega⟩, ⟨by show 1 ≤ b / _; omega, by show b / _ ≤ _; omega⟩, ?_⟩
  exact Int.gcd_ediv_gcd_ediv_gcd (by omega)
def sp31 : Spec
  | [.bag _], Q => ∀ c : Coin, c.ok → Q c.enc
  | _, _ => False
theorem rngL_lit (n : Nat) : rngL 0 (n : Int) = (List.range n).map fun (i : Nat) => PyData.int (i : Int) := rngL_nat n
theorem mem5 {d : D} (h : d ∈ [PyData.int 1, .int 1, .int 2, .int 5, .int 1000]) : ∃ b : Int, d = .int b ∧ 1 ≤ b ∧ b ≤ 1000 := by
  simp at h
  rcases h with rfl | rfl | rfl | rfl <;> exact ⟨_, rfl, by omega, by omega⟩
theorem mem3 {d : D} (h : d ∈ [PyData.int 6, .int 20, .int 90]) : ∃ b : Int, d = .int b ∧ 1 ≤ b ∧ b ≤ 90 := by
  simp at h
  rcases h with rfl | rfl | rfl <;> exact ⟨_, rfl, by omega, by omega⟩
theorem td_encR (r : Int × Int) : td (encR r) = true := rfl
theorem tdA_map {α : Type} {f : α → D} (h : ∀ x, td (f x) = true) : ∀ xs : List α, tdA (xs.map f) = true
  | [] => rfl
  | x :: xs => by rw [List.map_cons, tdA, h x, tdA_map h xs]; rfl
theorem sem31 {Φ : Nat → Spec} (h24 : Φ 24 = sp24) (h25 : Φ 25 = sp25) (h29 : Φ 29 = sp29) : DefSem (b31.sem Φ) 4 1 sp31 := by
  intro as Q q
  unfold sp31 at q
  split at q <;> try exact q.elim
  rename_i a
  refine ⟨rfl, ?_⟩
  simp only [b31, Sms.sem, Sm.sem]
  simp [initE, tdA, inR]
  intro p
  rw [show (3 : Int) = ((3 : Nat) : Int) from rfl, rngL_nat]
  refine forL_inv _ (fun r ρ => ∃ u v cs, ρ = [.cell a .bag, .cell p (.lst (cs.map encR)), u, v] ∧ (∀ c ∈ cs, okR c) ∧ cs.length + r.length = 3) (fun x r ρ hI k hk => ?_) (fun ρ hI => ?_) _ _ ⟨_, _, [], rfl, (fun _ z => nomatch z), rfl⟩
  · obtain ⟨u, v, cs, rfl, hc, hl⟩ := hI
    simp [h24, h25, h29]
    refine ⟨⟨by decide, by decide⟩, fun d hd => ?_⟩
    obtain ⟨b, rfl, b1, b2⟩ := mem5 hd
    refine ⟨⟨by decide, by decide⟩, fun d hd => ?_⟩
    obtain ⟨e, rfl, e1, e2⟩ := mem3 hd
    have hm : 1 ≤ e * b ∧ e * b ≤ 90000 := by
      have h1 : 1 * 1 ≤ e * b := Int.mul_le_mul e1 b1 (by omega) (by omega)
      have h2 : e * b ≤ 90 * 1000 := Int.mul_le_mul e2 b2 (by omega) (by omega)
      omega
    simp
    refine ⟨.inl ⟨by omega, by omega⟩, ⟨by omega, by omega⟩, fun r0 r1 r2 => ?_⟩
    simp
    refine ⟨⟨by omega, by omega⟩, td_encR _, ?_, ?_⟩
    · rw [sizeLine_eq]; omega
    · refine hk _ ⟨_, _, cs ++ [low (1 + r0) b], by rw [List.map_append]; rfl, fun c hm' => ?_, ?_⟩
      · rcases List.mem_append.mp hm' with hm' | hm'
        · exact hc c hm'
        · rw [List.mem_singleton.mp hm']
          exact low_ok ⟨by omega, by omega⟩ ⟨by omega, by omega⟩
      · rw [List.length_append]; simp at hl ⊢; omega
  · obtain ⟨u, v, cs, rfl, hc, hl⟩ := hI
    match cs, hl with
    | [c1, c2, c3], _ =>
      simp [h24]
      refine ⟨⟨by decide, by decide⟩, fun r r0 r1 => ?_⟩
      simp
      exact q ⟨c1, c2, c3, decide (r = 0)⟩ ⟨hc c1 (by simp), hc c2 (by simp), hc c3 (by simp)⟩
/-! ### the law's own walk -/
theorem idx_drop {m : List Stp} {c : Coin} {n : Nat} (hn : n < m.length) : idx (m.drop n) c = if takes m[n] c then some 0 else (idx (m.drop (n + 1)) c).map (· + 1) := by
  rw [List.drop_eq_getElem_cons hn]
  unfold idx
  rw [List.findIdx?_cons]
theorem dsub_word (w : Str) (Q : D → Prop) (ks : List (Str × Int)) (n : Int) (h : (ks.reverse.find? fun p => decide (p.1 = w)).map (·.2) = some n) (q : Q (.int n)) : dsubD ks (.str w) Q := ⟨n, h, q⟩
def spot : Stp → Int
  | .cut .hole _ _ => 0
  | .cut .gap _ _ => 1
  | .cut .scale _ _ => 2
  | .mag _ => 3
theorem dsub_step (s : Stp) : ([(("hole" : Str), (0 : Int)), ("gap", 1), ("scale", 2), ("magnet", 3)].reverse.find? fun p => decide (p.1 = s.word)).map (·.2) = some (spot s) := by
  cases s with
  | cut k l p => cases k <;> simp [Stp.word, Kd.word, spot]
  | mag p => simp [Stp.word, spot]
theorem range_drop (n k : Nat) (h : k < n) : (List.range n).drop k = k :: (List.range n).drop (k + 1) := by
  rw [List.drop_eq_getElem_cons (by simpa using h)]
  simp
/-- a loop over the places of a machine: what is left is told by the place -/
theorem forL_range {f : D → SEnv → (SEnv → Prop) → Prop} {Q : SEnv → Prop} (n : Nat) (I : Nat → SEnv → Prop) (hs : ∀ i ρ, i < n → I i ρ → ∀ k : SEnv → Prop, (∀ ρ', I (i + 1) ρ' → k ρ') → f (.int (i : Int)) ρ k) (hn : ∀ ρ, I n ρ → Q ρ) (ρ : SEnv) (h : I 0 ρ) : forL f (rngL 0 (n : Int)) ρ Q := by
  rw [rngL_nat]
  refine forL_inv _ (fun r ρ => ∃ i, r = (List.range n).drop i ∧ i ≤ n ∧ I i ρ) (fun x r ρ hI k hk => ?_) (fun ρ hI => ?_) _ _ ⟨0, rfl, Nat.zero_le _, h⟩
  · obtain ⟨i, e, hi, hI⟩ := hI
    have hlt : i < n := by
      by_cases z : i < n
      · exact z
      · rw [List.drop_of_length_le (by simp; omega)] at e; cases e
    rw [range_drop n i hlt] at e
    obtain ⟨rfl, rfl⟩ := List.cons.inj e
    exact hs x ρ hlt hI k fun ρ' h' => hk ρ' ⟨x + 1, rfl, hlt, h'⟩
  · obtain ⟨i, e, hi, hI⟩ := hI
    have : i = n := by
      by_cases z : i < n
      · rw [range_drop n i z] at e; cases e
      · omega
    subst this
    exact hn ρ hI
theorem sem55 {Φ : Nat → Spec} : DefSem (b55.sem Φ) 7 2 sp48 := by
  intro as Q q
  unfold sp48 at q
  split at q <;> try exact q.elim
  obtain ⟨m, c, rfl, rfl, hm, q⟩ := q
  refine ⟨rfl, ?_⟩
  have hlen : m.length ≤ 1000 := hm.1
  simp [b55, initE, encM]
  refine ⟨⟨by omega, by omega⟩, ?_⟩
  refine forL_range m.length (fun n ρ => ∃ u v x y z, ρ = [.dat (.tuple (m.map Stp.enc)), .dat c.enc, u, v, x, y, z] ∧ idx m c = (idx (m.drop n) c).map (· + n)) (fun n ρ hn hI k hk => ?_) (fun ρ hI => ?_) _ ⟨_, _, _, _, _, rfl, by simp⟩
  · obtain ⟨u, v, x, y, z, rfl, e⟩ := hI
    rw [idx_drop hn] at e
    have nx : takes m[n] c = false → idx m c = (idx (m.drop (n + 1)) c).map (· + (n + 1)) := fun h => by
      rw [e, h]
      cases idx (m.drop (n + 1)) c <;> simp; omega
    have st : takes m[n] c = true → idx m c = some n := fun h => by rw [e, h]; simp
    simp [atI_map Stp.enc hn]
    have hsok := hm.2 m[n] (List.getElem_mem hn)
    generalize m[n] = s at nx st hsok
    cases s with
    | mag p =>
      by_cases h : c.m = true
      · rw [st (by simpa [takes] using h)] at q
        simpa [Stp.enc, Coin.enc, encO, h] using q
      · simp [Stp.enc, Coin.enc, h]
        exact hk _ ⟨_, _, _, _, _, by simp [Coin.enc, h]; exact ⟨rfl, rfl, rfl, rfl, rfl⟩, nx (by simpa [takes] using h)⟩
    | cut kd l p =>
      have c1 := fun x => cmul_ok (x := x) hsok.1
      cases kd with
      | hole =>
        by_cases h : c.w.1 ≤ l * c.w.2
        · rw [st (by simpa [takes] using h)] at q
          simpa [Stp.enc, Coin.enc, Kd.word, encR, c1, encO, h] using q
        · simp [Stp.enc, Coin.enc, Kd.word, encR, c1, h]
          exact hk _ ⟨_, _, _, _, _, rfl, nx (by simpa [takes] using h)⟩
      | gap =>
        by_cases h : c.t.1 ≤ l * c.t.2
        · rw [st (by simpa [takes] using h)] at q
          simpa [Stp.enc, Coin.enc, Kd.word, encR, c1, encO, h] using q
        · simp [Stp.enc, Coin.enc, Kd.word, encR, c1, h]
          exact hk _ ⟨_, _, _, _, _, rfl, nx (by simpa [takes] using h)⟩
      | scale =>
        by_cases h : l * c.h.2 ≤ c.h.1
        · rw [st (by simpa [takes] using h)] at q
          have h' : l * c.h.2 - c.h.1 ≤ 0 := by omega
          simpa [Stp.enc, Coin.enc, Kd.word, encR, c1, encO, h'] using q
        · have h' : ¬ l * c.h.2 - c.h.1 ≤ 0 := by omega
          simp [Stp.enc, Coin.enc, Kd.word, encR, c1, h']
          exact hk _ ⟨_, _, _, _, _, rfl, nx (by simpa [takes] using h)⟩
  · obtain ⟨u, v, x, y, z, rfl, e⟩ := hI
    rw [List.drop_length] at e
    have : idx m c = none := by rw [e]; rfl
    rw [this] at q
    simpa [encO] using q
abbrev sp55 : Spec := sp48
abbrev sp56 : Spec := sp49
theorem sem56 {Φ : Nat → Spec} (h : Φ 55 = sp48) : DefSem (b56.sem Φ) 3 2 sp49 := by
  intro as Q q
  unfold sp49 at q
  split at q <;> try exact q.elim
  obtain ⟨m, c, rfl, rfl, hm, q⟩ := q
  refine ⟨rfl, ?_⟩
  simp [b56, initE, h, sp48]
  refine ⟨m, rfl, c, rfl, hm, ?_⟩
  unfold endOf at q
  cases e : idx m c with
  | none => rw [e] at q; simpa [encO] using q
  | some n =>
    rw [e] at q
    have hl := idx_lt e
    obtain ⟨ds, e1, e2⟩ := enc_last m[n]
    simp [encO, encM, atI_map Stp.enc hl, e1, e2]
    simpa [List.getElem?_eq_getElem hl] using q
end CC

namespace CC
open PySem PySem.Spec PyProof.Rows L2
/-! ### spans: bounds are told doubled -/
structure Span where
  lo : Int
  hl : Bool
  hi : Option Int
  hh : Bool
  deriving DecidableEq
def Span.enc (s : Span) : D := .tuple [.int s.lo, .bool s.hl, encO' s.hi, .bool s.hh]
where encO' : Option Int → D
  | none => .none
  | some n => .int n
abbrev encOi := Span.enc.encO'
def geLo (s : Span) (r : Int × Int) : Prop := if s.hl then s.lo * r.2 ≤ 2 * r.1 else s.lo * r.2 < 2 * r.1
def leHi (s : Span) (r : Int × Int) : Prop := match s.hi with
  | none => True
  | some h => if s.hh then 2 * r.1 ≤ h * r.2 else 2 * r.1 < h * r.2
def inS (s : Span) (r : Int × Int) : Prop := geLo s r ∧ leHi s r
def isSome (s : Span) : Bool := match s.hi with
  | none => true
  | some h => decide (s.lo < h) || (decide (s.lo = h) && (s.hl && s.hh))
def upTo (s : Span) (l : Int) : Span := match s.hi with
  | none => ⟨s.lo, s.hl, some l, true⟩
  | some h => if l < h then ⟨s.lo, s.hl, some l, true⟩ else s
def over (s : Span) (l : Int) : Span := if s.lo ≤ l then ⟨l, false, s.hi, s.hh⟩ else s
def fromOn (s : Span) (l : Int) : Span := if s.lo < l then ⟨l, true, s.hi, s.hh⟩ else s
def under (s : Span) (l : Int) : Span := match s.hi with
  | none => ⟨s.lo, s.hl, some l, false⟩
  | some h => if l ≤ h then ⟨s.lo, s.hl, some l, false⟩ else s
theorem mul_lt' {a b d : Int} (h : a < b) (hd : 0 < d) : a * d < b * d := Int.mul_lt_mul_of_pos_right h hd
theorem mul_le' {a b d : Int} (h : a ≤ b) (hd : 0 < d) : a * d ≤ b * d := Int.mul_le_mul_of_nonneg_right h (by omega)
section
variable {s : Span} {l : Int} {r : Int × Int}
theorem upTo_in (hd : 0 < r.2) : inS (upTo s l) r ↔ inS s r ∧ 2 * r.1 ≤ l * r.2 := by
  obtain ⟨lo, hl, hi, hh⟩ := s
  unfold upTo inS geLo leHi
  cases hi with
  | none => simp
  | some h =>
    by_cases q : l < h
    · have := mul_lt' q hd
      simp only [q, if_true]
      cases hh <;> simp <;> omega
    · have := mul_le' (show h ≤ l by omega) hd
      simp only [q, if_false]
      cases hh <;> simp <;> omega
theorem under_in (hd : 0 < r.2) : inS (under s l) r ↔ inS s r ∧ 2 * r.1 < l * r.2 := by
  obtain ⟨lo, hl, hi, hh⟩ := s
  unfold under inS geLo leHi
  cases hi with
  | none => simp
  | some h =>
    by_cases q : l ≤ h
    · have := mul_le' q hd
      simp only [q, if_true]
      cases hh <;> simp <;> omega
    · have := mul_lt' (show h < l by omega) hd
      simp only [q, if_false]
      cases hh <;> simp <;> omega
theorem over_in (hd : 0 < r.2) : inS (over s l) r ↔ inS s r ∧ l * r.2 < 2 * r.1 := by
  obtain ⟨lo, hl, hi, hh⟩ := s
  have e : ∀ a b, leHi ⟨a, b, hi, hh⟩ r = leHi ⟨lo, hl, hi, hh⟩ r := fun _ _ => rfl
  unfold over inS geLo
  by_cases q : lo ≤ l
  · have := mul_le' q hd
    simp only [q, if_true, e]
    generalize leHi ⟨lo, hl, hi, hh⟩ r = P
    cases hl <;> simp <;> constructor <;> (intro z; refine ⟨?_, ?_⟩) <;> first | exact z.2 | exact z.1.2 | (refine ⟨?_, z.2⟩; omega) | omega | exact z.1
  · have := mul_lt' (show l < lo by omega) hd
    simp only [q, if_false]
    generalize leHi ⟨lo, hl, hi, hh⟩ r = P
    cases hl <;> simp <;> (intro z1 z2; omega)
theorem fromOn_in (hd : 0 < r.2) : inS (fromOn s l) r ↔ inS s r ∧ l * r.2 ≤ 2 * r.1 := by
  obtain ⟨lo, hl, hi, hh⟩ := s
  have e : ∀ a b, leHi ⟨a, b, hi, hh⟩ r = leHi ⟨lo, hl, hi, hh⟩ r := fun _ _ => rfl
  unfold fromOn inS geLo
  by_cases q : lo < l
  · have := mul_lt' q hd
    simp only [q, if_true, e]
    generalize leHi ⟨lo, hl, hi, hh⟩ r = P
    cases hl <;> simp <;> constructor <;> (intro z; refine ⟨?_, ?_⟩) <;> first | exact z.2 | exact z.1.2 | (refine ⟨?_, z.2⟩; omega) | omega | exact z.1
  · have := mul_le' (show l ≤ lo by omega) hd
    simp only [q, if_false]
    generalize leHi ⟨lo, hl, hi, hh⟩ r = P
    cases hl <;> simp <;> (intro z1 z2; omega)
/-- a measure within -/
def numIn (s : Span) : Int × Int := if s.hl then (s.lo, 2) else match s.hi with
  | none => (s.lo + 2, 2)
  | some h => (s.lo + h, 4)
theorem numIn_in (h : isSome s = true) : inS s (numIn s) ∧ 0 < (numIn s).2 := by
  obtain ⟨lo, hl, hi, hh⟩ := s
  unfold isSome at h
  unfold numIn inS geLo leHi
  cases hi with
  | none => cases hl <;> simp <;> omega
  | some b =>
    simp only [Bool.or_eq_true, Bool.and_eq_true, decide_eq_true_eq] at h
    cases hl <;> cases hh <;> simp at h ⊢ <;> omega
theorem isSome_of (hd : 0 < r.2) (h : inS s r) : isSome s = true := by
  obtain ⟨lo, hl, hi, hh⟩ := s
  unfold isSome
  unfold inS geLo leHi at h
  cases hi with
  | none => rfl
  | some b =>
    simp only [Bool.or_eq_true, Bool.and_eq_true, decide_eq_true_eq]
    by_cases q : lo < b
    · exact .inl q
    · have m := mul_le' (show b ≤ lo by omega) hd
      cases hl <;> cases hh <;> simp at h ⊢ <;> try omega
      by_cases e : lo = b
      · exact .inr e
      · have := mul_lt' (show b < lo by omega) hd
        omega
end
end CC

namespace CC
open PySem PySem.Spec PyProof.Rows L2
/-! ### boxes, pieces -/
structure Box where
  w : Span
  t : Span
  h : Span
  deriving DecidableEq
def Box.enc (b : Box) : D := .tuple [b.w.enc, b.t.enc, b.h.enc]
def inB (b : Box) (c : Coin) : Prop := inS b.w c.w ∧ inS b.t c.t ∧ inS b.h c.h
def Coin.pos (c : Coin) : Prop := 0 < c.w.2 ∧ 0 < c.t.2 ∧ 0 < c.h.2
def Box.get (b : Box) : Kd → Span
  | .hole => b.w
  | .gap => b.t
  | .scale => b.h
def Box.put (b : Box) (s : Span) : Kd → Box
  | .hole => { b with w := s }
  | .gap => { b with t := s }
  | .scale => { b with h := s }
def some1 (b : Box) (k : Kd) (s : Span) : Option Box := if isSome s then some (b.put s k) else none
def splitB (s : Stp) (b : Box) (m : Bool) : Option Box × Option Box := match s with
  | .mag _ => if m then (some b, none) else (none, some b)
  | .cut .hole l _ => (some1 b .hole (upTo b.w (2 * l)), some1 b .hole (over b.w (2 * l)))
  | .cut .gap l _ => (some1 b .gap (upTo b.t (2 * l)), some1 b .gap (over b.t (2 * l)))
  | .cut .scale l _ => (some1 b .scale (fromOn b.h (2 * l)), some1 b .scale (under b.h (2 * l)))
def okB (b : Box) : Prop := isSome b.w = true ∧ isSome b.t = true ∧ isSome b.h = true
theorem some1_in {b : Box} {k : Kd} {s : Span} {c : Coin} (hc : c.pos) {P : Prop} (h : inB (b.put s k) c ↔ inB b c ∧ P) (hs : inB (b.put s k) c → isSome s = true) : (∃ b1, some1 b k s = some b1 ∧ inB b1 c) ↔ inB b c ∧ P := by
  unfold some1
  rw [← h]
  constructor
  · rintro ⟨b1, e, hb⟩
    split at e
    · cases e; exact hb
    · cases e
  · intro hb
    rw [if_pos (hs hb)]
    exact ⟨_, rfl, hb⟩
theorem split_in (s : Stp) (b : Box) (c : Coin) (hc : c.pos) : ((∃ b1, (splitB s b c.m).1 = some b1 ∧ inB b1 c) ↔ inB b c ∧ takes s c = true) ∧ ((∃ b1, (splitB s b c.m).2 = some b1 ∧ inB b1 c) ↔ inB b c ∧ takes s c = false) := by
  obtain ⟨h1, h2, h3⟩ := hc
  cases s with
  | mag p => cases hm : c.m <;> simp [splitB, takes, hm]
  | cut k l p =>
    have dbl : ∀ d : Int, 2 * l * d = 2 * (l * d) := fun d => Int.mul_assoc 2 l d
    cases k with
    | hole =>
      refine ⟨some1_in ⟨h1, h2, h3⟩ ?_ fun h => isSome_of h1 h.1, some1_in ⟨h1, h2, h3⟩ ?_ fun h => isSome_of h1 h.1⟩
      · show (inS (upTo b.w (2 * l)) c.w ∧ _) ↔ _
        rw [upTo_in h1]
        simp only [takes, decide_eq_true_eq, inB, Box.put, dbl]
        constructor
        · rintro ⟨⟨a, e⟩, f⟩; exact ⟨⟨a, f⟩, by omega⟩
        · rintro ⟨⟨a, f⟩, e⟩; exact ⟨⟨a, by omega⟩, f⟩
      · show (inS (over b.w (2 * l)) c.w ∧ _) ↔ _
        rw [over_in h1]
        simp only [takes, decide_eq_false_iff_not, inB, Box.put, dbl]
        constructor
        · rintro ⟨⟨a, e⟩, f⟩; exact ⟨⟨a, f⟩, by omega⟩
        · rintro ⟨⟨a, f⟩, e⟩; exact ⟨⟨a, by omega⟩, f⟩
    | gap =>
      refine ⟨some1_in ⟨h1, h2, h3⟩ ?_ fun h => isSome_of h2 h.2.1, some1_in ⟨h1, h2, h3⟩ ?_ fun h => isSome_of h2 h.2.1⟩
      · show (_ ∧ inS (upTo b.t (2 * l)) c.t ∧ _) ↔ _
        rw [upTo_in h2]
        simp only [takes, decide_eq_true_eq, inB, Box.put, dbl]
        constructor
        · rintro ⟨f, ⟨a, e⟩, g⟩; exact ⟨⟨f, a, g⟩, by omega⟩
        · rintro ⟨⟨f, a, g⟩, e⟩; exact ⟨f, ⟨a, by omega⟩, g⟩
      · show (_ ∧ inS (over b.t (2 * l)) c.t ∧ _) ↔ _
        rw [over_in h2]
        simp only [takes, decide_eq_false_iff_not, inB, Box.put, dbl]
        constructor
        · rintro ⟨f, ⟨a, e⟩, g⟩; exact ⟨⟨f, a, g⟩, by omega⟩
        · rintro ⟨⟨f, a, g⟩, e⟩; exact ⟨f, ⟨a, by omega⟩, g⟩
    | scale =>
      refine ⟨some1_in ⟨h1, h2, h3⟩ ?_ fun h => isSome_of h3 h.2.2, some1_in ⟨h1, h2, h3⟩ ?_ fun h => isSome_of h3 h.2.2⟩
      · show (_ ∧ _ ∧ inS (fromOn b.h (2 * l)) c.h) ↔ _
        rw [fromOn_in h3]
        simp only [takes, decide_eq_true_eq, inB, Box.put, dbl]
        constructor
        · rintro ⟨f, g, a, e⟩; exact ⟨⟨f, g, a⟩, by omega⟩
        · rintro ⟨⟨f, g, a⟩, e⟩; exact ⟨f, g, a, by omega⟩
      · show (_ ∧ _ ∧ inS (under b.h (2 * l)) c.h) ↔ _
        rw [under_in h3]
        simp only [takes, decide_eq_false_iff_not, inB, Box.put, dbl]
        constructor
        · rintro ⟨f, g, a, e⟩; exact ⟨⟨f, g, a⟩, by omega⟩
        · rintro ⟨⟨f, g, a⟩, e⟩; exact ⟨f, g, a, by omega⟩
structure Piece where
  box : Box
  m : Bool
  ix : Option Nat
  pl : Int
def Piece.enc (p : Piece) : D := .tuple [p.box.enc, .bool p.m, encO p.ix, .int p.pl]
def pieces : List Stp → Box → Bool → Nat → List Piece
  | [], b, m, _ => [⟨b, m, none, -1⟩]
  | s :: r, b, m, n => (match (splitB s b m).1 with
      | some b1 => [⟨b1, m, some n, s.pl⟩]
      | none => []) ++ (match (splitB s b m).2 with
      | some b2 => pieces r b2 m (n + 1)
      | none => [])
theorem idx_cons (s : Stp) (r : List Stp) (c : Coin) : idx (s :: r) c = if takes s c then some 0 else (idx r c).map (· + 1) := by
  unfold idx
  rw [List.findIdx?_cons]
theorem end_cons (s : Stp) (r : List Stp) (c : Coin) : endOf (s :: r) c = if takes s c then s.pl else endOf r c := by
  unfold endOf
  rw [idx_cons]
  cases takes s c with
  | true => simp
  | false =>
    simp
    cases idx r c <;> simp
theorem pieces_out : ∀ (ms : List Stp) (b : Box) (m : Bool) (n : Nat) (p : Piece) (c : Coin), c.pos → c.m = m → p ∈ pieces ms b m n → inB p.box c → inB b c ∧ p.ix = (idx ms c).map (· + n) ∧ p.pl = endOf ms c
  | [], b, m, n, p, c, hc, hm, hp, hb => by
    simp only [pieces, List.mem_singleton] at hp
    subst hp
    exact ⟨hb, rfl, rfl⟩
  | s :: r, b, m, n, p, c, hc, hm, hp, hb => by
    subst hm
    have sp := split_in s b c hc
    simp only [pieces, List.mem_append] at hp
    rw [idx_cons, end_cons]
    rcases hp with hp | hp
    · cases e : (splitB s b c.m).1 with
      | none => rw [e] at hp; cases hp
      | some b1 =>
        rw [e] at hp
        rw [List.mem_singleton.mp hp] at hb ⊢
        obtain ⟨h1, h2⟩ := sp.1.mp ⟨b1, e, hb⟩
        rw [h2]
        exact ⟨h1, by simp, by simp⟩
    · cases e : (splitB s b c.m).2 with
      | none => rw [e] at hp; cases hp
      | some b2 =>
        rw [e] at hp
        obtain ⟨h1, h2, h3⟩ := pieces_out r b2 c.m (n + 1) p c hc rfl hp hb
        obtain ⟨h4, h5⟩ := sp.2.mp ⟨b2, e, h1⟩
        rw [h5]
        refine ⟨h4, ?_, by simpa using h3⟩
        rw [h2]
        cases idx r c <;> simp; omega
theorem pieces_in : ∀ (ms : List Stp) (b : Box) (n : Nat) (c : Coin), c.pos → inB b c → ∃ p ∈ pieces ms b c.m n, inB p.box c
  | [], b, n, c, hc, hb => ⟨_, List.mem_singleton.mpr rfl, hb⟩
  | s :: r, b, n, c, hc, hb => by
    have sp := split_in s b c hc
    simp only [pieces, List.mem_append]
    cases ht : takes s c with
    | true =>
      obtain ⟨b1, e, h⟩ := sp.1.mpr ⟨hb, ht⟩
      exact ⟨_, .inl (by rw [e]; exact List.mem_singleton.mpr rfl), h⟩
    | false =>
      obtain ⟨b2, e, h⟩ := sp.2.mpr ⟨hb, ht⟩
      obtain ⟨p, hp, h2⟩ := pieces_in r b2 (n + 1) c hc h
      exact ⟨p, .inr (by rw [e]; exact hp), h2⟩
theorem pieces_m : ∀ (ms : List Stp) (b : Box) (m : Bool) (n : Nat) (p : Piece), p ∈ pieces ms b m n → p.m = m
  | [], b, m, n, p, hp => by
    simp only [pieces, List.mem_singleton] at hp
    subst hp; rfl
  | s :: r, b, m, n, p, hp => by
    simp only [pieces, List.mem_append] at hp
    rcases hp with hp | hp
    · cases e : (splitB s b m).1 with
      | none => rw [e] at hp; cases hp
      | some b1 => rw [e] at hp; rw [List.mem_singleton.mp hp]
    · cases e : (splitB s b m).2 with
      | none => rw [e] at hp; cases hp
      | some b2 => rw [e] at hp; exact pieces_m r b2 m (n + 1) p hp
theorem split_ok {s : Stp} {b b1 : Box} {m : Bool} (hb : okB b) (h : (splitB s b m).1 = some b1 ∨ (splitB s b m).2 = some b1) : okB b1 := by
  have go : ∀ (k : Kd) (sp : Span), some1 b k sp = some b1 → okB b1 := fun k sp h => by
    unfold some1 at h
    split at h
    · cases h
      rename_i q
      cases k
      · exact ⟨q, hb.2.1, hb.2.2⟩
      · exact ⟨hb.1, q, hb.2.2⟩
      · exact ⟨hb.1, hb.2.1, q⟩
    · cases h
  cases s with
  | mag p => cases m <;> simp [splitB] at h <;> (subst h; exact hb)
  | cut k l p => cases k <;> rcases h with h | h <;> exact go _ _ h
theorem pieces_ok : ∀ (ms : List Stp) (b : Box) (m : Bool) (n : Nat) (p : Piece), okB b → p ∈ pieces ms b m n → okB p.box
  | [], b, m, n, p, hb, hp => by
    simp only [pieces, List.mem_singleton] at hp
    subst hp; exact hb
  | s :: r, b, m, n, p, hb, hp => by
    simp only [pieces, List.mem_append] at hp
    rcases hp with hp | hp
    · cases e : (splitB s b m).1 with
      | none => rw [e] at hp; cases hp
      | some b1 => rw [e] at hp; rw [List.mem_singleton.mp hp]; exact split_ok hb (.inl e)
    · cases e : (splitB s b m).2 with
      | none => rw [e] at hp; cases hp
      | some b2 => rw [e] at hp; exact pieces_ok r b2 m (n + 1) p (split_ok hb (.inr e)) hp
/-- a coin within -/
def coinIn (b : Box) (m : Bool) : Coin := ⟨numIn b.w, numIn b.t, numIn b.h, m⟩
theorem coinIn_in {b : Box} {m : Bool} (h : okB b) : inB b (coinIn b m) ∧ (coinIn b m).pos := ⟨⟨(numIn_in h.1).1, (numIn_in h.2.1).1, (numIn_in h.2.2).1⟩, (numIn_in h.1).2, (numIn_in h.2.1).2, (numIn_in h.2.2).2⟩
/-- the places of a box are those of its coins -/
theorem places_iff {ms : List Stp} {b : Box} {m : Bool} (hb : okB b) (z : Int) : (∃ p ∈ pieces ms b m 0, p.pl = z) ↔ ∃ c : Coin, c.pos ∧ c.m = m ∧ inB b c ∧ endOf ms c = z := by
  constructor
  · rintro ⟨p, hp, rfl⟩
    obtain ⟨h1, h2⟩ := coinIn_in (m := m) (pieces_ok _ _ _ _ _ hb hp)
    obtain ⟨h3, _, h4⟩ := pieces_out ms b m 0 p (coinIn p.box m) h2 rfl hp h1
    exact ⟨_, h2, rfl, h3, h4.symm⟩
  · rintro ⟨c, hc, rfl, hb', rfl⟩
    obtain ⟨p, hp, h1⟩ := pieces_in ms b 0 c hc hb'
    exact ⟨p, hp, (pieces_out ms b c.m 0 p c hc rfl hp h1).2.2⟩
end CC

namespace CC
open PySem PySem.Spec PyProof.Rows L2
/-! ### the law's cells of a measure -/
structure Cell where
  a : Int
  b : Option Int
  s : Int × Int
  deriving DecidableEq
def Cell.enc (c : Cell) : D := .tuple [.int c.a, encOi c.b, encR c.s]
def fits (c : Cell) (r : Int × Int) : Prop := match c.b with
  | none => c.a * r.2 < r.1
  | some y => if c.a = y then r.1 = y * r.2 else c.a * r.2 < r.1 ∧ r.1 < y * r.2
def segs : List Int → List Cell
  | a :: b :: r => ⟨a, some b, low (a + b) 2⟩ :: ⟨b, some b, (b, 1)⟩ :: segs (b :: r)
  | _ => []
def edges (lo : Int) (hi : Option Int) (inner : List Int) : List Int := lo :: (inner ++ match hi with
  | none => []
  | some h => if h = lo then [] else [h])
def cells (lo : Int) (hi : Option Int) (inner : List Int) : List Cell :=
  (if lo = 0 then [] else [⟨lo, some lo, (lo, 1)⟩]) ++ (segs (edges lo hi inner) ++ match hi with
  | none => [⟨(edges lo hi inner).getLast (by simp [edges]), none, ((edges lo hi inner).getLast (by simp [edges]) + 1, 1)⟩]
  | some _ => [])
/-- strictly between -/
def btw (lo : Int) (hi : Option Int) (l : Int) : Prop := lo < l ∧ match hi with
  | none => True
  | some h => l < h
def Dom (lo : Int) (hi : Option Int) (r : Int × Int) : Prop := (if lo = 0 then 0 < r.1 else lo * r.2 ≤ r.1) ∧ match hi with
  | none => True
  | some h => r.1 ≤ h * r.2
def sim (ls : List Int) (r q : Int × Int) : Prop := ∀ l ∈ ls, (r.1 ≤ l * r.2 ↔ q.1 ≤ l * q.2) ∧ (l * r.2 ≤ r.1 ↔ l * q.2 ≤ q.1)
theorem low_mul (n : Int) {b : Int} (hb : 0 < b) : (low n b).1 * (Int.gcd n b : Int) = n ∧ (low n b).2 * (Int.gcd n b : Int) = b :=
  ⟨Int.ediv_mul_cancel (Int.gcd_dvd_left ..), Int.ediv_mul_cancel (Int.gcd_dvd_right ..)⟩
theorem low_pos (n : Int) {b : Int} (hb : 0 < b) : 0 < (low n b).2 := by
  have h := (low_mul n hb).2
  have g := gcd_pos (a := n) hb
  by_cases z : 0 < (low n b).2
  · exact z
  · have := Int.mul_nonpos_of_nonpos_of_nonneg (a := (low n b).2) (b := (Int.gcd n b : Int)) (by omega) (by omega)
    omega
theorem mid_fits {a b : Int} (h : a < b) : fits ⟨a, some b, low (a + b) 2⟩ (low (a + b) 2) := by
  have hm := low_mul (a + b) (b := 2) (by decide)
  have g := gcd_pos (a := a + b) (b := 2) (by decide)
  generalize low (a + b) 2 = q at hm
  generalize (Int.gcd (a + b) 2 : Int) = G at hm g
  obtain ⟨h1, h2⟩ := hm
  show if a = b then _ else _
  rw [if_neg (by omega)]
  constructor
  · by_cases z : a * q.2 < q.1
    · exact z
    · have := Int.mul_le_mul_of_nonneg_right (show q.1 ≤ a * q.2 by omega) (show 0 ≤ G by omega)
      rw [Int.mul_assoc, h2, h1] at this
      omega
  · by_cases z : q.1 < b * q.2
    · exact z
    · have := Int.mul_le_mul_of_nonneg_right (show b * q.2 ≤ q.1 by omega) (show 0 ≤ G by omega)
      rw [Int.mul_assoc, h2, h1] at this
      omega
theorem fits_sim {c : Cell} {r q : Int × Int} {ls : List Int} (hr : 0 < r.2) (hq : 0 < q.2) (h1 : fits c r) (h2 : fits c q) (hl : ∀ l ∈ ls, match c.b with
    | none => l ≤ c.a
    | some y => l ≤ c.a ∨ y ≤ l) : sim ls r q := fun l m => by
  have := hl l m
  obtain ⟨a, b, s⟩ := c
  unfold fits at h1 h2
  cases b with
  | none =>
    simp only at h1 h2 this
    have e1 := mul_le' this hr
    have e2 := mul_le' this hq
    omega
  | some y =>
    simp only at h1 h2 this
    by_cases e : a = y
    · rw [if_pos e] at h1 h2
      rcases this with t | t
      · by_cases z : l = y
        · subst z; omega
        · have e1 := mul_lt' (show l < y by omega) hr
          have e2 := mul_lt' (show l < y by omega) hq
          omega
      · by_cases z : l = y
        · subst z; omega
        · have e1 := mul_lt' (show y < l by omega) hr
          have e2 := mul_lt' (show y < l by omega) hq
          omega
    · rw [if_neg e] at h1 h2
      rcases this with t | t
      · have e1 := mul_le' t hr
        have e2 := mul_le' t hq
        omega
      · have e1 := mul_le' t hr
        have e2 := mul_le' t hq
        omega
theorem segs_cover : ∀ (a : Int) (r : List Int) (z : Int), (a :: r).Pairwise (· < ·) → (a :: r).getLast? = some z → ∀ q : Int × Int, 0 < q.2 → a * q.2 < q.1 → q.1 ≤ z * q.2 → ∃ c ∈ segs (a :: r), fits c q
  | a, [], z, _, hz, q, hq, h1, h2 => by
    have : a = z := Option.some.inj hz
    subst this
    omega
  | a, b :: r, z, hp, hz, q, hq, h1, h2 => by
    have hab : a < b := (List.pairwise_cons.mp hp).1 b List.mem_cons_self
    by_cases e : q.1 < b * q.2
    · refine ⟨_, List.mem_cons_self, ?_⟩
      show if a = b then _ else _
      rw [if_neg (by omega)]
      exact ⟨h1, e⟩
    · by_cases e2 : q.1 = b * q.2
      · refine ⟨_, List.mem_cons_of_mem _ List.mem_cons_self, ?_⟩
        show if b = b then _ else _
        rw [if_pos rfl]
        exact e2
      · obtain ⟨c, hc, hf⟩ := segs_cover b r z (List.pairwise_cons.mp hp).2 (by rw [← hz, List.getLast?_cons_cons]) q hq (by omega) h2
        exact ⟨c, List.mem_cons_of_mem _ (List.mem_cons_of_mem _ hc), hf⟩
theorem segs_mem : ∀ (a : Int) (r : List Int), (a :: r).Pairwise (· < ·) → ∀ c ∈ segs (a :: r), ∃ y, c.b = some y ∧ fits c c.s ∧ 0 < c.s.2 ∧ (∀ l ∈ a :: r, l ≤ c.a ∨ y ≤ l) ∧ c.a ∈ a :: r ∧ y ∈ r ∧ a ≤ c.a ∧ a < y
  | a, [], _, c, hc => by cases hc
  | a, b :: r, hp, c, hc => by
    have hab : a < b := (List.pairwise_cons.mp hp).1 b List.mem_cons_self
    have hp2 := (List.pairwise_cons.mp hp).2
    have hb : ∀ l ∈ b :: r, b ≤ l := fun l hl => by
      rcases List.mem_cons.mp hl with rfl | hl
      · omega
      · have := (List.pairwise_cons.mp hp2).1 l hl
        omega
    rcases List.mem_cons.mp hc with rfl | hc
    · refine ⟨b, rfl, mid_fits hab, low_pos _ (by decide), fun l hl => ?_, List.mem_cons_self, List.mem_cons_self, Int.le_refl _, hab⟩
      rcases List.mem_cons.mp hl with rfl | hl
      · exact .inl (Int.le_refl _)
      · exact .inr (hb l hl)
    · rcases List.mem_cons.mp hc with rfl | hc
      · refine ⟨b, rfl, by show if b = b then _ else _; rw [if_pos rfl]; show b = b * 1; omega, by show (0 : Int) < 1; decide, fun l hl => ?_, List.mem_cons_of_mem _ List.mem_cons_self, List.mem_cons_self, by show a ≤ b; omega, hab⟩
        rcases List.mem_cons.mp hl with rfl | hl
        · exact .inl (by show l ≤ b; omega)
        · exact .inr (hb l hl)
      · obtain ⟨y, h1, h2, h3, h4, h5, h6, h7, h8⟩ := segs_mem b r hp2 c hc
        refine ⟨y, h1, h2, h3, fun l hl => ?_, List.mem_cons_of_mem _ h5, List.mem_cons_of_mem _ h6, by omega, by omega⟩
        rcases List.mem_cons.mp hl with rfl | hl
        · exact .inl (by omega)
        · exact h4 l hl
/-- the bounds and what lies within make sense -/
structure Well (lo : Int) (hi : Option Int) (inner : List Int) : Prop where
  lo0 : 0 ≤ lo
  hi0 : ∀ h, hi = some h → lo ≤ h ∧ 0 < h
  sort : inner.Pairwise (· < ·)
  bt : ∀ l ∈ inner, btw lo hi l
theorem edges_sort {lo : Int} {hi : Option Int} {inner : List Int} (w : Well lo hi inner) : (edges lo hi inner).Pairwise (· < ·) := by
  unfold edges
  refine List.pairwise_cons.mpr ⟨fun l hl => ?_, List.pairwise_append.mpr ⟨w.sort, ?_, fun a ha b hb => ?_⟩⟩
  · rcases List.mem_append.mp hl with hl | hl
    · exact (w.bt l hl).1
    · cases hi with
      | none => cases hl
      | some h =>
        by_cases e : h = lo
        · simp [e] at hl
        · simp [e] at hl
          have := (w.hi0 h rfl).1
          omega
  · cases hi with
    | none => exact List.Pairwise.nil
    | some h => by_cases e : h = lo <;> simp [e]
  · cases hi with
    | none => cases hb
    | some h =>
      by_cases e : h = lo
      · simp [e] at hb
      · simp [e] at hb
        have := (w.bt a ha).2
        simp only at this
        omega
theorem edges_last {lo : Int} {hi : Option Int} {inner : List Int} (w : Well lo hi inner) : ∀ h, hi = some h → (edges lo hi inner).getLast? = some h := fun h e => by
  subst e
  unfold edges
  by_cases e : h = lo
  · subst e
    have : inner = [] := by
      cases inner with
      | nil => rfl
      | cons x r =>
        have := w.bt x List.mem_cons_self
        unfold btw at this
        simp only at this
        omega
    subst this
    simp
  · simp only [e, if_false]
    rw [← List.cons_append, List.getLast?_append]
    simp
theorem cells_cover {lo : Int} {hi : Option Int} {inner : List Int} (w : Well lo hi inner) {q : Int × Int} (hq : 0 < q.2) (hd : Dom lo hi q) : ∃ c ∈ cells lo hi inner, fits c q := by
  unfold cells
  obtain ⟨d1, d2⟩ := hd
  by_cases he : q.1 = lo * q.2
  · -- the lower bound itself
    by_cases h0 : lo = 0
    · rw [if_pos h0] at d1
      rw [h0] at he
      omega
    · refine ⟨⟨lo, some lo, (lo, 1)⟩, List.mem_append_left _ (by rw [if_neg h0]; exact List.mem_singleton.mpr rfl), ?_⟩
      show if lo = lo then _ else _
      rw [if_pos rfl]
      exact he
  · have h1 : lo * q.2 < q.1 := by
      by_cases h0 : lo = 0
      · rw [if_pos h0] at d1
        rw [h0]
        omega
      · rw [if_neg h0] at d1
        omega
    cases hi with
    | some h =>
      obtain ⟨c, hc, hf⟩ := segs_cover lo _ h (edges_sort w) (edges_last w h rfl) q hq h1 d2
      exact ⟨c, List.mem_append_right _ (List.mem_append_left _ hc), hf⟩
    | none =>
      have hl := List.getLast?_eq_some_getLast (l := edges lo none inner) (by simp [edges])
      by_cases e : q.1 ≤ (edges lo none inner).getLast (by simp [edges]) * q.2
      · obtain ⟨c, hc, hf⟩ := segs_cover lo _ _ (edges_sort w) hl q hq h1 e
        exact ⟨c, List.mem_append_right _ (List.mem_append_left _ hc), hf⟩
      · exact ⟨_, List.mem_append_right _ (List.mem_append_right _ (List.mem_singleton.mpr rfl)), by show (edges lo none inner).getLast (by simp [edges]) * q.2 < q.1; omega⟩
def apart (c : Cell) (l : Int) : Prop := match c.b with
  | none => l ≤ c.a
  | some y => l ≤ c.a ∨ y ≤ l
theorem edges_hi {lo : Int} {hi : Option Int} {inner : List Int} (w : Well lo hi inner) : ∀ y ∈ edges lo hi inner, lo ≤ y ∧ ∀ h, hi = some h → y ≤ h := fun y hy => by
  unfold edges at hy
  rcases List.mem_cons.mp hy with rfl | hy
  · exact ⟨Int.le_refl _, fun h e => (w.hi0 h e).1⟩
  · rcases List.mem_append.mp hy with hy | hy
    · have := w.bt y hy
      refine ⟨by have := this.1; omega, fun h e => ?_⟩
      subst e
      have := this.2
      simp only at this
      omega
    · cases hi with
      | none => cases hy
      | some h =>
        by_cases e : h = lo
        · simp [e] at hy
        · simp [e] at hy
          have := (w.hi0 h rfl).1
          exact ⟨by omega, fun h' e' => by cases e'; omega⟩
theorem last_max (es : List Int) (h : es ≠ []) (hs : es.Pairwise (· < ·)) : ∀ l ∈ es, l ≤ es.getLast h := fun l hl => by
  obtain ⟨ys, z, rfl⟩ : ∃ ys z, es = ys ++ [z] := ⟨es.dropLast, es.getLast h, (List.dropLast_concat_getLast _).symm⟩
  rw [show (ys ++ [z]).getLast h = z by simp]
  rcases List.mem_append.mp hl with hl | hl
  · have := (List.pairwise_append.mp hs).2.2 l hl z (List.mem_singleton.mpr rfl)
    omega
  · rw [List.mem_singleton.mp hl]; omega
theorem cells_mem {lo : Int} {hi : Option Int} {inner : List Int} (w : Well lo hi inner) : ∀ c ∈ cells lo hi inner, fits c c.s ∧ 0 < c.s.2 ∧ Dom lo hi c.s ∧ ∀ l : Int, (l ∈ inner ∨ ¬ btw lo hi l) → apart c l := fun c hc => by
  have lim : ∀ l : Int, ¬ btw lo hi l → l ≤ lo ∨ ∃ h, hi = some h ∧ h ≤ l := fun l hl => by
    unfold btw at hl
    by_cases z : lo < l
    · cases hi with
      | none => exact absurd ⟨z, trivial⟩ hl
      | some h => exact .inr ⟨h, rfl, by
          have : ¬ l < h := fun q => hl ⟨z, q⟩
          omega⟩
    · exact .inl (by omega)
  unfold cells at hc
  rcases List.mem_append.mp hc with hc | hc
  · by_cases h0 : lo = 0
    · rw [if_pos h0] at hc; cases hc
    · rw [if_neg h0] at hc
      rw [List.mem_singleton.mp hc]
      refine ⟨by show if lo = lo then _ else _; rw [if_pos rfl]; show lo = lo * 1; omega, by show (0 : Int) < 1; decide, ⟨by rw [if_neg h0]; show lo * 1 ≤ lo; omega, ?_⟩, fun l hl => ?_⟩
      · cases hi with
        | none => trivial
        | some h => have := (w.hi0 h rfl).1; show lo ≤ h * 1; omega
      · show l ≤ lo ∨ lo ≤ l
        omega
  · rcases List.mem_append.mp hc with hc | hc
    · obtain ⟨y, h1, h2, h3, h4, h5, h6, h7, h8⟩ := segs_mem lo _ (edges_sort w) c hc
      have hy := edges_hi w y (List.mem_cons_of_mem _ h6)
      obtain ⟨a, b, s⟩ := c
      simp only at h1 h2 h3 h4 h5 h7
      subst h1
      have f2 := h2
      unfold fits at f2
      simp only at f2
      have m1 := mul_le' h7 h3
      refine ⟨h2, h3, ⟨?_, ?_⟩, fun l hl => ?_⟩
      · show if lo = 0 then 0 < s.1 else lo * s.2 ≤ s.1
        by_cases h0 : lo = 0
        · rw [if_pos h0]
          have := mul_lt' h8 h3
          rw [h0] at m1 this
          by_cases e : a = y
          · rw [if_pos e] at f2; omega
          · rw [if_neg e] at f2; omega
        · rw [if_neg h0]
          by_cases e : a = y
          · rw [if_pos e] at f2; rw [e] at m1; omega
          · rw [if_neg e] at f2; omega
      · cases hi with
        | none => trivial
        | some h =>
          show s.1 ≤ h * s.2
          have := mul_le' (hy.2 h rfl) h3
          by_cases e : a = y
          · rw [if_pos e] at f2; omega
          · rw [if_neg e] at f2; omega
      · show l ≤ a ∨ y ≤ l
        rcases hl with hl | hl
        · exact h4 l (List.mem_cons_of_mem _ (List.mem_append_left _ hl))
        · rcases lim l hl with z | ⟨h, e, z⟩
          · exact .inl (by omega)
          · exact .inr (by have := hy.2 h e; omega)
    · cases hi with
      | some h => cases hc
      | none =>
        rw [List.mem_singleton.mp hc]
        have hlast : (edges lo none inner).getLast (by simp [edges]) ∈ edges lo none inner := List.getLast_mem _
        have hge := (edges_hi w _ hlast).1
        have hmax : ∀ l ∈ edges lo none inner, l ≤ (edges lo none inner).getLast (by simp [edges]) := fun l hl => last_max _ _ (edges_sort w) l hl
        generalize (edges lo none inner).getLast (by simp [edges]) = z at hge hmax
        refine ⟨by show z * 1 < z + 1; omega, by show (0 : Int) < 1; decide, ⟨?_, trivial⟩, fun l hl => ?_⟩
        · show if lo = 0 then 0 < z + 1 else lo * 1 ≤ z + 1
          have := w.lo0
          split <;> omega
        · show l ≤ z
          rcases hl with hl | hl
          · exact hmax l (List.mem_cons_of_mem _ (List.mem_append_left _ hl))
          · rcases lim l hl with q | ⟨h, e, _⟩
            · omega
            · cases e
/-- for every measure a cell's sample that no limit tells from it -/
theorem cells_sim {lo : Int} {hi : Option Int} {inner ls : List Int} (w : Well lo hi inner) (hls : ∀ l ∈ ls, l ∈ inner ∨ ¬ btw lo hi l) {q : Int × Int} (hq : 0 < q.2) (hd : Dom lo hi q) : ∃ c ∈ cells lo hi inner, sim ls q c.s := by
  obtain ⟨c, hc, hf⟩ := cells_cover w hq hd
  obtain ⟨h1, h2, h3, h4⟩ := cells_mem w c hc
  exact ⟨c, hc, fits_sim hq h2 hf h1 fun l hl => h4 l (hls l hl)⟩
end CC

namespace CC
open PySem PySem.Spec PyProof.Rows L2
/-! ### sorted sets -/
def insI (x : Int) : List Int → List Int
  | [] => [x]
  | y :: r => if x < y then x :: y :: r else if x = y then y :: r else y :: insI x r
def sset : List Int → List Int
  | [] => []
  | x :: r => insI x (sset r)
theorem insI_mem (x z : Int) : ∀ l, z ∈ insI x l ↔ z = x ∨ z ∈ l
  | [] => by simp [insI]
  | y :: r => by
    unfold insI
    split
    · simp
    · split
      · rename_i h; subst h; simp
      · rw [List.mem_cons, insI_mem x z r, List.mem_cons]
        constructor
        · rintro (h | h | h) <;> simp [h]
        · rintro (h | h | h) <;> simp [h]
theorem insI_sort (x : Int) : ∀ l : List Int, l.Pairwise (· < ·) → (insI x l).Pairwise (· < ·)
  | [], _ => by simp [insI]
  | y :: r, h => by
    have h1 := List.pairwise_cons.mp h
    unfold insI
    split
    · rename_i q
      refine List.pairwise_cons.mpr ⟨fun z hz => ?_, h⟩
      rcases List.mem_cons.mp hz with rfl | hz
      · exact q
      · have := h1.1 z hz; omega
    · split
      · exact h
      · refine List.pairwise_cons.mpr ⟨fun z hz => ?_, insI_sort x r h1.2⟩
        rcases (insI_mem x z r).mp hz with rfl | hz
        · omega
        · exact h1.1 z hz
theorem sset_mem (z : Int) : ∀ l, z ∈ sset l ↔ z ∈ l
  | [] => by simp [sset]
  | x :: r => by rw [sset, insI_mem, sset_mem z r, List.mem_cons]
theorem sset_sort : ∀ l, (sset l).Pairwise (· < ·)
  | [] => List.Pairwise.nil
  | x :: r => insI_sort x _ (sset_sort r)
theorem sort_uniq : ∀ {xs ys : List Int}, xs.Pairwise (· < ·) → ys.Pairwise (· < ·) → (∀ z, z ∈ xs ↔ z ∈ ys) → xs = ys
  | [], [], _, _, _ => rfl
  | [], y :: ys, _, _, h => by have := (h y).mpr List.mem_cons_self; cases this
  | x :: xs, [], _, _, h => by have := (h x).mp List.mem_cons_self; cases this
  | x :: xs, y :: ys, hx, hy, h => by
    have h1 := List.pairwise_cons.mp hx
    have h2 := List.pairwise_cons.mp hy
    have e : x = y := by
      have a := (h x).mp List.mem_cons_self
      have b := (h y).mpr List.mem_cons_self
      rcases List.mem_cons.mp a with a | a
      · exact a
      · rcases List.mem_cons.mp b with b | b
        · exact b.symm
        · have := h2.1 x a
          have := h1.1 y b
          omega
    subst e
    rw [sort_uniq h1.2 h2.2 fun z => ?_]
    constructor
    · intro hz
      rcases List.mem_cons.mp ((h z).mp (List.mem_cons_of_mem _ hz)) with q | q
      · have := h1.1 z hz; omega
      · exact q
    · intro hz
      rcases List.mem_cons.mp ((h z).mpr (List.mem_cons_of_mem _ hz)) with q | q
      · have := h2.1 z hz; omega
      · exact q
theorem sset_eq {l xs : List Int} (h : xs.Pairwise (· < ·)) (hm : ∀ z, z ∈ xs ↔ z ∈ l) : xs = sset l := sort_uniq h (sset_sort l) fun z => by rw [hm, sset_mem]
/-! ### the law's grid -/
def stepLim (k : Kd) : Stp → Option Int
  | .cut k' l _ => if k' = k then some l else none
  | .mag _ => none
def limitsOf (ms : List (List Stp)) (k : Kd) : List Int := ms.flatMap fun m => m.filterMap (stepLim k)
structure Bnd where
  lo : Int
  hi : Option Int
def btwB (b : Bnd) (l : Int) : Bool := decide (b.lo < l) && match b.hi with
  | none => true
  | some h => decide (l < h)
def innerOf (b : Bnd) (ls : List Int) : List Int := sset (ls.filter (btwB b))
def cellsOf (b : Bnd) (ls : List Int) : List Cell := cells b.lo b.hi (innerOf b ls)
theorem btwB_iff {b : Bnd} {l : Int} : btwB b l = true ↔ btw b.lo b.hi l := by
  unfold btwB btw
  cases b.hi <;> simp
def Bnd.ok (b : Bnd) : Prop := 0 ≤ b.lo ∧ ∀ h, b.hi = some h → b.lo ≤ h ∧ 0 < h
theorem well_of {b : Bnd} (h : b.ok) (ls : List Int) : Well b.lo b.hi (innerOf b ls) := ⟨h.1, h.2, sset_sort _, fun l hl => btwB_iff.mp (List.mem_filter.mp ((sset_mem l _).mp hl)).2⟩
theorem in_or (b : Bnd) (ls : List Int) : ∀ l ∈ ls, l ∈ innerOf b ls ∨ ¬ btw b.lo b.hi l := fun l hl => by
  by_cases z : btw b.lo b.hi l
  · exact .inl ((sset_mem l _).mpr (List.mem_filter.mpr ⟨hl, btwB_iff.mpr z⟩))
  · exact .inr z
structure Bnds where
  w : Bnd
  t : Bnd
  h : Bnd
def DomC (b : Bnds) (c : Coin) : Prop := Dom b.w.lo b.w.hi c.w ∧ Dom b.t.lo b.t.hi c.t ∧ Dom b.h.lo b.h.hi c.h
structure Row where
  x : Cell
  y : Cell
  z : Cell
  m : Bool
def Row.coin (r : Row) : Coin := ⟨r.x.s, r.y.s, r.z.s, r.m⟩
def Row.enc (r : Row) : D := .tuple [.tuple [r.x.enc, r.y.enc, r.z.enc], r.coin.enc]
def grid (ms : List (List Stp)) (b : Bnds) (m : Bool) : List Row :=
  (cellsOf b.w (limitsOf ms .hole)).flatMap fun x => (cellsOf b.t (limitsOf ms .gap)).flatMap fun y => (cellsOf b.h (limitsOf ms .scale)).map fun z => ⟨x, y, z, m⟩
def Bnds.ok (b : Bnds) : Prop := b.w.ok ∧ b.t.ok ∧ b.h.ok
theorem lim_mem {ms : List (List Stp)} {m : List Stp} {k : Kd} {l p : Int} (hm : m ∈ ms) (hs : Stp.cut k l p ∈ m) : l ∈ limitsOf ms k := List.mem_flatMap.mpr ⟨m, hm, List.mem_filterMap.mpr ⟨_, hs, by simp [stepLim]⟩⟩
theorem sim_takes {ms : List (List Stp)} {c q : Coin} (hw : sim (limitsOf ms .hole) c.w q.w) (ht : sim (limitsOf ms .gap) c.t q.t) (hh : sim (limitsOf ms .scale) c.h q.h) (hm : c.m = q.m) : ∀ m ∈ ms, ∀ s ∈ m, takes s c = takes s q := fun m hmm s hs => by
  cases s with
  | mag p => exact hm
  | cut k l p =>
    have := lim_mem hmm hs
    cases k with
    | hole => exact decide_eq_decide.mpr (hw l this).1
    | gap => exact decide_eq_decide.mpr (ht l this).1
    | scale => exact decide_eq_decide.mpr (hh l this).2
theorem idx_congr : ∀ {m : List Stp} {c q : Coin}, (∀ s ∈ m, takes s c = takes s q) → idx m c = idx m q
  | [], _, _, _ => rfl
  | s :: r, c, q, h => by
    rw [idx_cons, idx_cons, h s List.mem_cons_self, idx_congr fun s m => h s (List.mem_cons_of_mem _ m)]
theorem end_congr {m : List Stp} {c q : Coin} (h : ∀ s ∈ m, takes s c = takes s q) : endOf m c = endOf m q := by unfold endOf; rw [idx_congr h]
/-- for every coin a row that no step tells from it -/
theorem grid_cover {ms : List (List Stp)} {b : Bnds} (hb : b.ok) {c : Coin} (hc : c.pos) (hd : DomC b c) : ∃ r ∈ grid ms b c.m, ∀ m ∈ ms, ∀ s ∈ m, takes s c = takes s r.coin := by
  obtain ⟨x, hx, sx⟩ := cells_sim (well_of hb.1 (limitsOf ms .hole)) (in_or _ _) hc.1 hd.1
  obtain ⟨y, hy, sy⟩ := cells_sim (well_of hb.2.1 (limitsOf ms .gap)) (in_or _ _) hc.2.1 hd.2.1
  obtain ⟨z, hz, sz⟩ := cells_sim (well_of hb.2.2 (limitsOf ms .scale)) (in_or _ _) hc.2.2 hd.2.2
  exact ⟨⟨x, y, z, c.m⟩, List.mem_flatMap.mpr ⟨x, hx, List.mem_flatMap.mpr ⟨y, hy, List.mem_map.mpr ⟨z, hz, rfl⟩⟩⟩, sim_takes sx sy sz rfl⟩
theorem grid_mem {ms : List (List Stp)} {b : Bnds} (hb : b.ok) {m : Bool} {r : Row} (hr : r ∈ grid ms b m) : r.coin.pos ∧ DomC b r.coin ∧ r.m = m := by
  obtain ⟨x, hx, hr⟩ := List.mem_flatMap.mp hr
  obtain ⟨y, hy, hr⟩ := List.mem_flatMap.mp hr
  obtain ⟨z, hz, rfl⟩ := List.mem_map.mp hr
  obtain ⟨_, a1, a2, _⟩ := cells_mem (well_of hb.1 _) x hx
  obtain ⟨_, b1, b2, _⟩ := cells_mem (well_of hb.2.1 _) y hy
  obtain ⟨_, c1, c2, _⟩ := cells_mem (well_of hb.2.2 _) z hz
  exact ⟨⟨a1, b1, c1⟩, ⟨a2, b2, c2⟩, rfl⟩
/-- the ends of a grid are those of the coins -/
theorem ends_iff {m : List Stp} {ms : List (List Stp)} (hm : m ∈ ms) {b : Bnds} (hb : b.ok) {g : Bool} (z : Int) : (∃ r ∈ grid ms b g, endOf m r.coin = z) ↔ ∃ c : Coin, c.pos ∧ c.m = g ∧ DomC b c ∧ endOf m c = z := by
  constructor
  · rintro ⟨r, hr, e⟩
    obtain ⟨h1, h2, h3⟩ := grid_mem hb hr
    exact ⟨r.coin, h1, h3, h2, e⟩
  · rintro ⟨c, h1, rfl, h2, e⟩
    obtain ⟨r, hr, h⟩ := grid_cover (ms := ms) hb h1 h2
    exact ⟨r, hr, by rw [← end_congr (h m hm)]; exact e⟩
end CC

namespace CC
open PySem PySem.Spec PyProof.Rows L2
/-! ### spans, by the program -/
def sp59 : Spec
  | [.dat a], Q => ∃ s : Span, a = s.enc ∧ Q (.bool (isSome s))
  | _, _ => False
theorem sem59 {Φ : Nat → Spec} : DefSem (b59.sem Φ) 5 1 sp59 := by
  intro as Q q
  unfold sp59 at q
  split at q <;> try exact q.elim
  obtain ⟨⟨lo, hl, hi, hh⟩, rfl, q⟩ := q
  refine ⟨rfl, ?_⟩
  cases hi with
  | none => simpa [b59, initE, Span.enc, Span.enc.encO', isSome] using q
  | some h =>
    by_cases h1 : lo < h
    · simpa [b59, initE, Span.enc, Span.enc.encO', isSome, h1] using q
    · by_cases h2 : lo = h
      · cases hl <;> simpa [b59, initE, Span.enc, Span.enc.encO', isSome, h1, h2] using q
      · simpa [b59, initE, Span.enc, Span.enc.encO', isSome, h1, h2] using q
def spSpan (f : Span → Int → Span) : Spec
  | [.dat a, .dat (.int l)], Q => ∃ s : Span, a = s.enc ∧ Q (f s l).enc
  | _, _ => False
abbrev sp60 : Spec := spSpan upTo
abbrev sp61 : Spec := spSpan over
abbrev sp62 : Spec := spSpan fromOn
abbrev sp63 : Spec := spSpan under
theorem sem60 {Φ : Nat → Spec} : DefSem (b60.sem Φ) 6 2 sp60 := by
  intro as Q q
  unfold sp60 spSpan at q
  split at q <;> try exact q.elim
  rename_i l
  obtain ⟨⟨lo, hl, hi, hh⟩, rfl, q⟩ := q
  refine ⟨rfl, ?_⟩
  cases hi with
  | none => simpa [b60, initE, Span.enc, Span.enc.encO', upTo] using q
  | some h => by_cases h1 : l < h <;> simpa [b60, initE, Span.enc, Span.enc.encO', upTo, h1] using q
theorem sem61 {Φ : Nat → Spec} : DefSem (b61.sem Φ) 6 2 sp61 := by
  intro as Q q
  unfold sp61 spSpan at q
  split at q <;> try exact q.elim
  rename_i l
  obtain ⟨⟨lo, hl, hi, hh⟩, rfl, q⟩ := q
  refine ⟨rfl, ?_⟩
  by_cases h1 : lo ≤ l <;> simpa [b61, initE, Span.enc, over, h1] using q
theorem sem62 {Φ : Nat → Spec} : DefSem (b62.sem Φ) 6 2 sp62 := by
  intro as Q q
  unfold sp62 spSpan at q
  split at q <;> try exact q.elim
  rename_i l
  obtain ⟨⟨lo, hl, hi, hh⟩, rfl, q⟩ := q
  refine ⟨rfl, ?_⟩
  by_cases h1 : lo < l <;> simpa [b62, initE, Span.enc, fromOn, h1] using q
theorem sem63 {Φ : Nat → Spec} : DefSem (b63.sem Φ) 6 2 sp63 := by
  intro as Q q
  unfold sp63 spSpan at q
  split at q <;> try exact q.elim
  rename_i l
  obtain ⟨⟨lo, hl, hi, hh⟩, rfl, q⟩ := q
  refine ⟨rfl, ?_⟩
  cases hi with
  | none => simpa [b63, initE, Span.enc, Span.enc.encO', under] using q
  | some h => by_cases h1 : l ≤ h <;> simpa [b63, initE, Span.enc, Span.enc.encO', under, h1] using q
def kdIx : Kd → Int
  | .hole => 0
  | .gap => 1
  | .scale => 2
def sp64 : Spec
  | [.dat a, .dat (.int i), .dat d], Q => ∃ (b : Box) (k : Kd) (s : Span), a = b.enc ∧ i = kdIx k ∧ d = s.enc ∧ Q (b.put s k).enc
  | _, _ => False
theorem sem64 {Φ : Nat → Spec} : DefSem (b64.sem Φ) 3 3 sp64 := by
  intro as Q q
  unfold sp64 at q
  split at q <;> try exact q.elim
  obtain ⟨b, k, s, rfl, rfl, rfl, q⟩ := q
  refine ⟨rfl, ?_⟩
  cases k <;> simpa [b64, initE, Box.enc, kdIx, cut_to, cut_from, sizeLine_eq, Box.put] using q
def encB : Option Box → D
  | none => .none
  | some b => b.enc
def sp65 : Spec
  | [.dat a, .dat d, .dat (.bool m)], Q => ∃ (s : Stp) (b : Box), a = s.enc ∧ d = b.enc ∧ s.okw ∧ Q (.tuple [encB (splitB s b m).1, encB (splitB s b m).2])
  | _, _ => False
theorem sem65 {Φ : Nat → Spec} (h59 : Φ 59 = sp59) (h60 : Φ 60 = sp60) (h61 : Φ 61 = sp61) (h62 : Φ 62 = sp62) (h63 : Φ 63 = sp63) (h64 : Φ 64 = sp64) : DefSem (b65.sem Φ) 8 3 sp65 := by
  intro as Q q
  unfold sp65 at q
  split at q <;> try exact q.elim
  rename_i m
  obtain ⟨s, b, rfl, rfl, hs, q⟩ := q
  refine ⟨rfl, ?_⟩
  cases s with
  | mag p => cases m <;> simpa [b65, initE, Stp.enc, splitB, encB] using q
  | cut k l p =>
    have c1 : CMul 2 l := .inl ⟨by decide, by decide⟩
    have fin : ∀ (k : Kd) (t r : Span) (R : D → Prop), R (.tuple [encB (some1 b k t), encB (some1 b k r)]) →
        Φ 59 [.dat t.enc] fun d => truD d fun c => if c = true then Φ 64 [.dat b.enc, .dat (.int (kdIx k)), .dat t.enc] fun x => Φ 59 [.dat r.enc] fun d => truD d fun c => if c = true then Φ 64 [.dat b.enc, .dat (.int (kdIx k)), .dat r.enc] fun y => R (.tuple [x, y]) else R (.tuple [x, .none])
          else Φ 59 [.dat r.enc] fun d => truD d fun c => if c = true then Φ 64 [.dat b.enc, .dat (.int (kdIx k)), .dat r.enc] fun y => R (.tuple [.none, y]) else R (.tuple [.none, .none]) := by
      intro k t r R hR
      rw [h59]
      refine ⟨t, rfl, ?_⟩
      unfold some1 at hR
      cases ht : isSome t <;> cases hr : isSome r <;> simp [ht, hr, encB] at hR ⊢
      · exact ⟨r, rfl, by simpa [hr] using hR⟩
      · refine ⟨r, rfl, ?_⟩
        simp [hr]
        rw [h64]
        exact ⟨b, k, r, rfl, rfl, rfl, hR⟩
      · rw [h64]
        refine ⟨b, k, t, rfl, rfl, rfl, r, rfl, ?_⟩
        simpa [hr] using hR
      · rw [h64]
        refine ⟨b, k, t, rfl, rfl, rfl, r, rfl, ?_⟩
        simp [hr]
        exact ⟨b, k, r, rfl, rfl, rfl, hR⟩
    cases k with
    | hole =>
      simp [b65, initE, Stp.enc, Kd.word, c1, Box.enc]
      rw [h60]
      refine ⟨b.w, rfl, ?_⟩
      rw [h61]
      refine ⟨b.w, rfl, ?_⟩
      exact fin .hole _ _ Q q
    | gap =>
      simp [b65, initE, Stp.enc, Kd.word, c1, Box.enc]
      rw [h60]
      refine ⟨b.t, rfl, ?_⟩
      rw [h61]
      refine ⟨b.t, rfl, ?_⟩
      exact fin .gap _ _ Q q
    | scale =>
      simp [b65, initE, Stp.enc, Kd.word, c1, Box.enc]
      rw [h62]
      refine ⟨b.h, rfl, ?_⟩
      rw [h63]
      refine ⟨b.h, rfl, ?_⟩
      exact fin .scale _ _ Q q
end CC

namespace CC
open PySem PySem.Spec PyProof.Rows L2
/-! ### kinds and plans are recognized -/
def isBdD (v : D) : Bool := match v with
  | .tuple [.int a, b] => isFrom (.int a) 1 40 && isFrom b a 40
  | _ => false
def sp9 : Spec
  | [.dat v], Q => Q (.bool (isBdD v))
  | _, _ => False
@[simp] theorem sp9_e {v} {Q : D → Prop} : sp9 [.dat v] Q = (Q (.bool (isBdD v))) := rfl
theorem sem9 {Φ : Nat → Spec} (h0 : Φ 0 = sp0) (h1 : Φ 1 = sp1) : DefSem (b9.sem Φ) 1 1 sp9 := by
  intro as Q q
  unfold sp9 at q
  split at q <;> try exact q.elim
  rename_i v
  refine ⟨rfl, ?_⟩
  simp only [b9]
  cases v with
  | tuple ds =>
    match ds with
    | [] => simpa [initE, h0, h1, isTup, isBdD] using q
    | [x] => simpa [initE, h0, h1, isTup, isBdD] using q
    | x :: y :: z :: r =>
      have : ¬ ((r.length : Int) + 1 + 1 + 1 = 2) := by omega
      simpa [initE, h0, h1, isTup, isBdD, this] using q
    | [x, y] =>
      cases x with
      | int a => by_cases ha : 1 ≤ a <;> by_cases ha' : a ≤ 40 <;> simpa [initE, h0, h1, isTup, isBdD, isFrom, ha, ha'] using q
      | _ => simpa [initE, h0, h1, isTup, isBdD, isFrom] using q
  | _ => simpa [initE, h0, h1, isTup, isBdD] using q
def isKndD (v : D) : Bool := match v with
  | .tuple [a, b, c, .bool _, p] => (isBdD a && (isBdD b && isBdD c)) && isPl p
  | _ => false
def sp10 : Spec
  | [.dat v], Q => Q (.bool (isKndD v))
  | _, _ => False
@[simp] theorem sp10_e {v} {Q : D → Prop} : sp10 [.dat v] Q = (Q (.bool (isKndD v))) := rfl
theorem sem10 {Φ : Nat → Spec} (h1 : Φ 1 = sp1) (h6 : Φ 6 = sp6) (h9 : Φ 9 = sp9) : DefSem (b10.sem Φ) 2 1 sp10 := by
  intro as Q q
  unfold sp10 at q
  split at q <;> try exact q.elim
  rename_i v
  refine ⟨rfl, ?_⟩
  simp only [b10]
  cases v with
  | tuple ds =>
    match ds with
    | [] => simpa [initE, h1, isTup, isKndD] using q
    | [x] => simpa [initE, h1, isTup, isKndD] using q
    | [x, y] => simpa [initE, h1, isTup, isKndD] using q
    | [x, y, z] => simpa [initE, h1, isTup, isKndD] using q
    | [x, y, z, u] => simpa [initE, h1, isTup, isKndD] using q
    | x :: y :: z :: u :: v :: w :: r =>
      have : ¬ ((r.length : Int) + 1 + 1 + 1 + 1 + 1 + 1 = 5) := by omega
      simpa [initE, h1, isTup, isKndD, this] using q
    | [x, y, z, u, p] =>
      simp [initE, h1, isTup]
      rw [cut_to _ (by decide)]
      refine compL_bool (p := isBdD) (fun d _ k hk => by simpa [h9] using hk) ⟨_, rfl, ?_⟩
      cases hx : isBdD x <;> cases hy : isBdD y <;> cases hz : isBdD z <;> cases u <;> simpa [isKndD, h6, hx, hy, hz] using q
  | _ => simpa [initE, h1, isTup, isKndD] using q
def isKndsD (v : D) : Bool := match v with
  | .tuple ds => (decide (1 ≤ ds.length) && decide (ds.length ≤ 4)) && ds.all isKndD
  | _ => false
def sp11 : Spec
  | [.dat v], Q => Q (.bool (isKndsD v))
  | _, _ => False
@[simp] theorem sp11_e {v} {Q : D → Prop} : sp11 [.dat v] Q = (Q (.bool (isKndsD v))) := rfl
theorem sem11 {Φ : Nat → Spec} (h10 : Φ 10 = sp10) : DefSem (b11.sem Φ) 2 1 sp11 := by
  intro as Q q
  unfold sp11 at q
  split at q <;> try exact q.elim
  rename_i v
  refine ⟨rfl, ?_⟩
  simp only [b11]
  cases v with
  | tuple ds =>
    by_cases hl : 1 ≤ ds.length
    · have hl' : 1 ≤ (ds.length : Int) := by omega
      by_cases hm : ds.length ≤ 4
      · have hm' : (ds.length : Int) ≤ 4 := by omega
        simp [initE, hl', hm']
        refine compL_bool (p := isKndD) (fun d m k hk => by simpa [h10] using hk) ⟨_, rfl, ?_⟩
        simpa [isKndsD, hl, hm] using q
      · have hm' : ¬ (ds.length : Int) ≤ 4 := by omega
        simp [initE, hl', hm', isKndsD, hl, hm] at q ⊢
        exact q
    · have hl' : ¬ 1 ≤ (ds.length : Int) := by omega
      simp [initE, hl', isKndsD, hl] at q ⊢
      exact q
  | _ => simpa [initE, isKndsD] using q
def isPlanD (v : D) : Bool := match v with
  | .tuple [a, b] => isKndsD a && isMachD b
  | _ => false
def sp12 : Spec
  | [.dat v], Q => SeqAt.shaped v = true ∧ Q (.bool (isPlanD v))
  | _, _ => False
@[simp] theorem sp12_e {v} {Q : D → Prop} : sp12 [.dat v] Q = (SeqAt.shaped v = true ∧ Q (.bool (isPlanD v))) := rfl
theorem sem12 {Φ : Nat → Spec} (h1 : Φ 1 = sp1) (h8 : Φ 8 = sp8) (h11 : Φ 11 = sp11) : DefSem (b12.sem Φ) 1 1 sp12 := by
  intro as Q q
  unfold sp12 at q
  split at q <;> try exact q.elim
  rename_i v
  obtain ⟨hs, q⟩ := q
  refine ⟨rfl, ?_⟩
  simp only [b12]
  cases v with
  | tuple ds =>
    match ds with
    | [] => simpa [initE, h1, isTup, isPlanD] using q
    | [x] => simpa [initE, h1, isTup, isPlanD] using q
    | x :: y :: z :: r =>
      have : ¬ ((r.length : Int) + 1 + 1 + 1 = 2) := by omega
      simpa [initE, h1, isTup, isPlanD, this] using q
    | [x, y] =>
      have hy := shaped_mem hs y (by simp)
      cases hx : isKndsD x <;> simpa [initE, h1, h8, h11, isTup, isPlanD, hx, hy] using q
  | _ => simpa [initE, h1, isTup, isPlanD] using q
def sp13 : Spec
  | [.dat v], Q => (SeqAt.shaped v = true ∧ isPlanD v = true) ∧ Q .none
  | _, _ => False
theorem sem13 {Φ : Nat → Spec} (h : Φ 12 = sp12) : DefSem (b13.sem Φ) 1 1 sp13 := by
  intro as Q q
  unfold sp13 at q
  split at q <;> try exact q.elim
  rename_i v
  obtain ⟨⟨hs, hm⟩, q⟩ := q
  refine ⟨rfl, ?_⟩
  simp [b13, initE, h, hs, hm]
  exact q
/-! ### typed -/
structure Knd where
  w : Int × Int
  t : Int × Int
  h : Int × Int
  m : Bool
  p : Int
  deriving DecidableEq
def Knd.enc (k : Knd) : D := .tuple [encR k.w, encR k.t, encR k.h, .bool k.m, .int k.p]
def okBd (r : Int × Int) : Prop := 1 ≤ r.1 ∧ r.1 ≤ r.2 ∧ r.2 ≤ 40
def Knd.ok (k : Knd) : Prop := okBd k.w ∧ okBd k.t ∧ okBd k.h ∧ okP k.p
structure Plan where
  ks : List Knd
  ms : List Stp
def encKs (ks : List Knd) : D := .tuple (ks.map Knd.enc)
def Plan.enc (p : Plan) : D := .tuple [encKs p.ks, encM p.ms]
def okKs (ks : List Knd) : Prop := (1 ≤ ks.length ∧ ks.length ≤ 4) ∧ ∀ k ∈ ks, k.ok
def Plan.ok (p : Plan) : Prop := okKs p.ks ∧ okM p.ms
theorem isBd_ok {r : Int × Int} (h : okBd r) : isBdD (encR r) = true := by
  obtain ⟨h1, h2, h3⟩ := h
  have : r.1 ≤ 40 := by omega
  simp [isBdD, encR, isFrom, h1, h2, h3, this]
theorem isKnd_ok {k : Knd} (h : k.ok) : isKndD k.enc = true := by
  obtain ⟨h1, h2, h3, h4⟩ := h
  simp [isKndD, Knd.enc, isBd_ok h1, isBd_ok h2, isBd_ok h3, isPl_ok h4]
theorem isKnds_ok {ks : List Knd} (h : okKs ks) : isKndsD (encKs ks) = true := by
  have : (ks.map Knd.enc).all isKndD = true := by
    rw [List.all_map, List.all_eq_true]
    intro s hs
    exact isKnd_ok (h.2 s hs)
  show ((decide (1 ≤ (ks.map Knd.enc).length) && decide ((ks.map Knd.enc).length ≤ 4)) && (ks.map Knd.enc).all isKndD) = true
  rw [this]
  simp [h.1]
theorem isPlan_ok {p : Plan} (h : p.ok) : isPlanD p.enc = true := by
  simp [isPlanD, Plan.enc, isKnds_ok h.1, isMach_ok h.2]
theorem lay_knd (k : Knd) : PyData.canLay0 k.enc = true ∧ PyData.depth k.enc ≤ 2 := by
  simp [Knd.enc, encR, PyData.canLay0, PyData.canLayAll0, PyData.depth, PyData.depthAll]
theorem lay_Ks (ks : List Knd) : PyData.canLay0 (encKs ks) = true ∧ PyData.depth (encKs ks) ≤ 3 := by
  have h1 : PyData.canLayAll0 (ks.map Knd.enc) = true := lay_all fun d hd => by
    obtain ⟨k, _, rfl⟩ := List.mem_map.mp hd
    exact (lay_knd k).1
  have h2 : PyData.depthAll (ks.map Knd.enc) ≤ 2 := dep_all fun d hd => by
    obtain ⟨k, _, rfl⟩ := List.mem_map.mp hd
    exact (lay_knd k).2
  simp only [encKs, PyData.canLay0, PyData.depth]
  exact ⟨h1, by omega⟩
theorem lay_M (m : List Stp) : PyData.canLay0 (encM m) = true ∧ PyData.depth (encM m) ≤ 2 := by
  have h1 : PyData.canLayAll0 (m.map Stp.enc) = true := lay_all fun d hd => by
    obtain ⟨k, _, rfl⟩ := List.mem_map.mp hd
    exact (shaped_step k).1
  have h2 : PyData.depthAll (m.map Stp.enc) ≤ 1 := dep_all fun d hd => by
    obtain ⟨k, _, rfl⟩ := List.mem_map.mp hd
    rw [(shaped_step k).2]; exact Nat.le_refl _
  simp only [encM, PyData.canLay0, PyData.depth]
  exact ⟨h1, by omega⟩
theorem shaped_plan (p : Plan) : SeqAt.shaped p.enc = true := shaped_tup (n := 3) (by omega) fun d hd => by
  simp at hd
  rcases hd with rfl | rfl
  · exact lay_Ks _
  · exact ⟨(lay_M _).1, by have := (lay_M p.ms).2; omega⟩
def sp15 : Spec
  | [.dat a, .dat (.int i)], Q => ∃ p : Plan, a = p.enc ∧ (0 ≤ i ∧ i < p.ks.length) ∧ Q .none
  | _, _ => False
theorem sem15 {Φ : Nat → Spec} (h : Φ 0 = sp0) : DefSem (b15.sem Φ) 2 2 sp15 := by
  intro as Q q
  unfold sp15 at q
  split at q <;> try exact q.elim
  rename_i i
  obtain ⟨p, rfl, ⟨h0, h1⟩, q⟩ := q
  refine ⟨rfl, ?_⟩
  have : i ≤ (p.ks.length : Int) - 1 := by omega
  simp [b15, initE, h, Plan.enc, encKs, isFrom, h0, this]
  exact q
end CC

namespace CC
open PySem PySem.Spec PyProof.Rows L2
/-! ### pieces, by the program -/
def encPs (ps : List Piece) : D := .list (ps.map Piece.enc)
def sp66 : Spec
  | [.dat a, .dat b, .dat (.bool g)], Q => ∃ ms bx, a = encM ms ∧ b = Box.enc bx ∧ okL ms ∧ Q (encPs (pieces ms bx g 0))
  | _, _ => False
theorem encB_none {o : Option Box} : isNone (encB o) = o.isNone := by
  cases o <;> rfl
theorem sem66 {Φ : Nat → Spec} (h65 : Φ 65 = sp65) : DefSem (b66.sem Φ) 8 3 sp66 := by
  intro as Q q
  unfold sp66 at q
  split at q <;> try exact q.elim
  rename_i g
  obtain ⟨ms, bx, rfl, rfl, hm, q⟩ := q
  refine ⟨rfl, ?_⟩
  have hlen := hm.1
  simp [b66, initE, encM, enumL_map]
  refine forL_inv _ (fun r ρ => ∃ u4 u5 u6 u7 b' acc, ρ = [.dat (.tuple (ms.map Stp.enc)), .dat (Box.enc b'), .dat (.bool g), .dat (.list (acc.map Piece.enc)), u4, u5, u6, u7] ∧ ∃ n, r = (ms.drop n).zipIdx n ∧ pieces ms bx g 0 = acc ++ pieces (ms.drop n) b' g n ∧ acc.length ≤ n ∧ n ≤ ms.length) (fun x r ρ hI k hk => ?_) (fun ρ hI => ?_) _ _ ⟨_, _, _, _, bx, [], rfl, 0, by simp, by simp, Nat.le_refl _, Nat.zero_le _⟩
  · obtain ⟨u4, u5, u6, u7, b', acc, rfl, n, e1, e2, e3, e4⟩ := hI
    obtain ⟨s, i⟩ := x
    cases e : ms.drop n with
    | nil => rw [e] at e1; cases e1
    | cons s' r' =>
      rw [e, List.zipIdx_cons] at e1
      obtain ⟨e1, rfl⟩ := List.cons.inj e1
      cases e1
      have hs : s ∈ ms := List.mem_of_mem_drop (by rw [e]; exact List.mem_cons_self)
      have er : r' = ms.drop (n + 1) := by rw [← List.tail_drop, e]; rfl
      have hn : n < ms.length := by
        by_cases z : n < ms.length
        · exact z
        · rw [List.drop_of_length_le (by omega)] at e; cases e
      rw [e] at e2
      simp only [pieces] at e2
      simp
      rw [h65]
      refine ⟨s, b', rfl, rfl, hm.2 s hs, ?_⟩
      obtain ⟨ds, d1, d2⟩ := enc_last s
      cases h1 : (splitB s b' g).1 with
      | none =>
        rw [h1] at e2
        cases h2 : (splitB s b' g).2 with
        | none =>
          rw [h2] at e2
          simp at e2
          rw [e2] at q
          simpa [encB, isNone, encPs] using q
        | some b2 =>
          rw [h2] at e2
          simp [encB, isNone, Box.enc]
          exact hk _ ⟨_, _, _, _, b2, acc, rfl, n + 1, by rw [er], by rw [← er]; simpa using e2, by omega, by omega⟩
      | some b1 =>
        rw [h1] at e2
        cases h2 : (splitB s b' g).2 with
        | none =>
          rw [h2] at e2
          simp at e2
          rw [e2] at q
          simp [encB, isNone, Box.enc, d1, d2]
          refine ⟨by rw [sizeLine_eq]; omega, ?_⟩
          simpa [encPs, Piece.enc, encO, Box.enc] using q
        | some b2 =>
          rw [h2] at e2
          simp [encB, isNone, Box.enc, d1, d2]
          refine ⟨by rw [sizeLine_eq]; omega, ?_⟩
          refine hk _ ⟨_, _, _, _, b2, acc ++ [⟨b1, g, some n, s.pl⟩], by simp [Piece.enc, encO, Box.enc]; exact ⟨rfl, rfl, rfl, rfl⟩, n + 1, by rw [er], by rw [← er]; simpa using e2, by simp; omega, by omega⟩
  · obtain ⟨u4, u5, u6, u7, b', acc, rfl, n, e1, e2, e3, e4⟩ := hI
    have : ms.drop n = [] := by
      cases e : ms.drop n with
      | nil => rfl
      | cons _ _ => rw [e] at e1; cases e1
    rw [this] at e2
    simp only [pieces] at e2
    rw [e2] at q
    simp
    refine ⟨by rw [sizeLine_eq]; omega, ?_⟩
    simpa [encPs, Piece.enc, encO] using q
def spanOf (r : Int × Int) (w : Int) : Span := if 0 < 2 * r.1 - w then ⟨2 * r.1 - w, true, some (2 * r.2 + w), true⟩ else ⟨0, false, some (2 * r.2 + w), true⟩
def boxOf (k : Knd) (w : Int) : Box := ⟨spanOf k.w w, spanOf k.t w, spanOf k.h w⟩
def sp67 : Spec
  | [.dat a, .dat (.int w)], Q => ∃ k, a = Knd.enc k ∧ Q (boxOf k w).enc
  | _, _ => False
theorem spanOf_enc (a b w : Int) : (spanOf (a, b) w).enc = if w < 2 * a then .tuple [.int (2 * a - w), .bool true, .int (2 * b + w), .bool true] else .tuple [.int 0, .bool false, .int (2 * b + w), .bool true] := by
  unfold spanOf
  by_cases h : w < 2 * a
  · rw [if_pos (show 0 < 2 * (a, b).1 - w by show 0 < 2 * a - w; omega), if_pos h]; rfl
  · rw [if_neg (show ¬ 0 < 2 * (a, b).1 - w by show ¬ 0 < 2 * a - w; omega), if_neg h]; rfl
theorem sem67 {Φ : Nat → Spec} : DefSem (b67.sem Φ) 6 2 sp67 := by
  intro as Q q
  unfold sp67 at q
  split at q <;> try exact q.elim
  rename_i w
  obtain ⟨⟨⟨a, b⟩, ⟨c, d⟩, ⟨e, f⟩, g, p⟩, rfl, q⟩ := q
  refine ⟨rfl, ?_⟩
  have c2 : ∀ x, CMul 2 x := fun x => .inl ⟨by decide, by decide⟩
  simp only [boxOf, Box.enc, spanOf_enc] at q
  by_cases h1 : w < 2 * a <;> by_cases h2 : w < 2 * c <;> by_cases h3 : w < 2 * e <;> simpa [b67, initE, Knd.enc, encR, cut_to, c2, sizeLine_eq, h1, h2, h3] using q
def sp68 : Spec
  | [.dat a, .dat b, .dat (.int w)], Q => ∃ ms k, a = encM ms ∧ b = Knd.enc k ∧ okL ms ∧ Q (encPs (pieces ms (boxOf k w) k.m 0))
  | _, _ => False
theorem sem68 {Φ : Nat → Spec} (h66 : Φ 66 = sp66) (h67 : Φ 67 = sp67) : DefSem (b68.sem Φ) 3 3 sp68 := by
  intro as Q q
  unfold sp68 at q
  split at q <;> try exact q.elim
  rename_i w
  obtain ⟨ms, k, rfl, rfl, hm, q⟩ := q
  refine ⟨rfl, ?_⟩
  simp [b68, initE]
  rw [h67]
  refine ⟨k, rfl, ?_⟩
  simp [Knd.enc]
  rw [h66]
  exact ⟨ms, _, rfl, rfl, hm, q⟩
/-! ### boxes and bounds -/
def okW' (w : Int) : Prop := 0 ≤ w
theorem spanOf_some {r : Int × Int} {w : Int} (h : 1 ≤ r.1 ∧ r.1 ≤ r.2) (hw : 0 ≤ w) : isSome (spanOf r w) = true := by
  unfold spanOf
  split
  · by_cases z : 2 * r.1 - w = 2 * r.2 + w
    · simp [isSome, z]
    · have : 2 * r.1 - w < 2 * r.2 + w := by omega
      simp [isSome, this]
  · have : 0 < 2 * r.2 + w := by omega
    simp [isSome, this]
theorem boxOf_ok {k : Knd} (h : k.ok) {w : Int} (hw : 0 ≤ w) : okB (boxOf k w) := by
  obtain ⟨h1, h2, h3, _⟩ := h
  exact ⟨spanOf_some ⟨h1.1, h1.2.1⟩ hw, spanOf_some ⟨h2.1, h2.2.1⟩ hw, spanOf_some ⟨h3.1, h3.2.1⟩ hw⟩
def bndOf (r : Int × Int) : Bnd := ⟨r.1, some r.2⟩
def bndsOf (k : Knd) : Bnds := ⟨bndOf k.w, bndOf k.t, bndOf k.h⟩
theorem bndOf_ok {r : Int × Int} (h : 1 ≤ r.1 ∧ r.1 ≤ r.2) : (bndOf r).ok := ⟨by show 0 ≤ r.1; omega, fun x e => by cases e; exact ⟨h.2, by omega⟩⟩
theorem bndsOf_ok {k : Knd} (h : k.ok) : (bndsOf k).ok := ⟨bndOf_ok ⟨h.1.1, h.1.2.1⟩, bndOf_ok ⟨h.2.1.1, h.2.1.2.1⟩, bndOf_ok ⟨h.2.2.1.1, h.2.2.1.2.1⟩⟩
theorem span_dom {r q : Int × Int} (h : 1 ≤ r.1) : inS (spanOf r 0) q ↔ Dom (bndOf r).lo (bndOf r).hi q := by
  have e : spanOf r 0 = ⟨2 * r.1, true, some (2 * r.2), true⟩ := by
    unfold spanOf
    rw [if_pos (show 0 < 2 * r.1 - 0 by omega), Int.sub_zero, Int.add_zero]
  rw [e]
  have h0 : r.1 ≠ 0 := by omega
  show (2 * r.1 * q.2 ≤ 2 * q.1 ∧ 2 * q.1 ≤ 2 * r.2 * q.2) ↔ ((if r.1 = 0 then 0 < q.1 else r.1 * q.2 ≤ q.1) ∧ q.1 ≤ r.2 * q.2)
  rw [if_neg h0, Int.mul_assoc, Int.mul_assoc]
  omega
theorem box_dom {k : Knd} (h : k.ok) (c : Coin) : inB (boxOf k 0) c ↔ DomC (bndsOf k) c := by
  unfold inB DomC
  exact and_congr (span_dom h.1.1) (and_congr (span_dom h.2.1.1) (span_dom h.2.2.1.1))
/-- the places of a kind, by both -/
def endsG (ms : List Stp) (b : Bnds) (m : Bool) : List Int := (grid [ms] b m).map fun r => endOf ms r.coin
theorem ends_same {ms : List Stp} {bx : Box} {b : Bnds} {m : Bool} (hx : okB bx) (hb : b.ok) (hd : ∀ c : Coin, inB bx c ↔ DomC b c) : sset ((pieces ms bx m 0).map (·.pl)) = sset (endsG ms b m) := by
  refine sset_eq (sset_sort _) fun z => ?_
  rw [sset_mem, List.mem_map]
  have h1 := places_iff (ms := ms) (m := m) hx z
  have h2 := ends_iff (m := ms) (ms := [ms]) List.mem_cons_self hb (g := m) z
  rw [h1]
  unfold endsG
  rw [List.mem_map, h2]
  constructor <;> rintro ⟨c, a, b, e, f⟩
  · exact ⟨c, a, b, (hd c).mp e, f⟩
  · exact ⟨c, a, b, (hd c).mpr e, f⟩
end CC

namespace CC
open PySem PySem.Spec PyProof.Rows L2
theorem go {Φ : Nat → Spec} {g : Nat} {s : Spec} {as : List Arg} {Q : D → Prop} (h : Φ g = s) (q : s as Q) : Φ g as Q := h ▸ q
theorem pieces_len : ∀ (ms : List Stp) (b : Box) (m : Bool) (n : Nat), (pieces ms b m n).length ≤ ms.length + 1
  | [], b, m, n => by simp [pieces]
  | s :: r, b, m, n => by
    simp only [pieces, List.length_append, List.length_cons]
    have h2 := fun b2 => pieces_len r b2 m (n + 1)
    cases (splitB s b m).1 <;> cases (splitB s b m).2 <;> simp
    · have := h2 ‹_›; omega
    · have := h2 ‹_›; omega
theorem pieces_pl : ∀ (ms : List Stp) (b : Box) (m : Bool) (n : Nat), (∀ s ∈ ms, s.ok) → ∀ p ∈ pieces ms b m n, okP p.pl
  | [], b, m, n, _, p, hp => by
    simp only [pieces, List.mem_singleton] at hp
    subst hp
    exact (⟨by decide, by decide⟩ : okP (-1))
  | s :: r, b, m, n, h, p, hp => by
    simp only [pieces, List.mem_append] at hp
    have hs := h s List.mem_cons_self
    rcases hp with hp | hp
    · split at hp
      · rw [List.mem_singleton.mp hp]
        cases s with
        | cut k l q => exact hs.2
        | mag q => exact hs
      · cases hp
    · split at hp
      · exact pieces_pl r _ m _ (fun s hs => h s (List.mem_cons_of_mem _ hs)) p hp
      · cases hp
def allP : List Int := [-1, 0, 1, 2, 3]
theorem mem_allP {z : Int} (h : okP z) : z ∈ allP := by
  obtain ⟨h1, h2⟩ := h
  have : z = -1 ∨ z = 0 ∨ z = 1 ∨ z = 2 ∨ z = 3 := by omega
  rcases this with rfl | rfl | rfl | rfl | rfl <;> decide
def encI (zs : List Int) : D := .list (zs.map .int)
/-- sorted(set([..])) of places -/
theorem sset_places {ns : List Int} {Q : D → Prop} (hl : ns.length < 4000) (hp : ∀ z ∈ ns, okP z) (q : Q (encI (sset ns))) : biD .ssetI [.list (ns.map .int)] Q :=
  ⟨ns, allP, rfl, hl, by decide, fun z hz => mem_allP (hp z hz), fun ms h1 h2 => by rw [sset_eq h1 h2]; exact q⟩
def endsP (ms : List Stp) (bx : Box) (m : Bool) : List Int := sset ((pieces ms bx m 0).map (·.pl))
theorem endsP_go {ms : List Stp} {bx : Box} {m : Bool} (hm : okM ms) {Q : D → Prop} (q : Q (encI (endsP ms bx m))) : biD .ssetI [.list (((pieces ms bx m 0).map (·.pl)).map .int)] Q := by
  refine sset_places ?_ (fun z hz => ?_) q
  · rw [List.length_map]
    have := pieces_len ms bx m 0
    have := hm.1
    omega
  · obtain ⟨p, hp, rfl⟩ := List.mem_map.mp hz
    exact pieces_pl ms bx m 0 hm.2 p hp
def sp71 : Spec
  | [.dat a, .dat b, .dat (.int w)], Q => ∃ ms k, a = encM ms ∧ b = Knd.enc k ∧ okM ms ∧ Q (encI (endsP ms (boxOf k w) k.m))
  | _, _ => False
theorem sem71 {Φ : Nat → Spec} (h68 : Φ 68 = sp68) : DefSem (b71.sem Φ) 7 3 sp71 := by
  intro as Q q
  unfold sp71 at q
  split at q <;> try exact q.elim
  rename_i w
  obtain ⟨ms, k, rfl, rfl, hm, q⟩ := q
  refine ⟨rfl, ?_⟩
  simp [b71, initE]
  rw [h68]
  refine ⟨ms, k, rfl, rfl, hm.l, ?_⟩
  simp [encPs]
  refine compL_typ Piece.enc (fun p => [.int p.pl]) (fun p hp k hk => ?_) ?_
  · simpa [Piece.enc] using hk
  · rw [List.nil_append, ← List.map_eq_flatMap]
    have := endsP_go (bx := boxOf k w) (m := k.m) hm q
    rw [List.map_map] at this
    exact this
/-- the numbers of the kinds that go astray -/
def strays (ks : List Knd) (ms : List Stp) (w : Int) : List Nat := (ks.zipIdx.filter fun p => endsP ms (boxOf p.1 w) p.1.m != [p.1.p]).map (·.2)
def encN (ns : List Nat) : D := .list (ns.map fun (n : Nat) => PyData.int (n : Int))
theorem eqv_I : ∀ a b : List Int, PyData.eqvAll (a.map .int) (b.map .int) = (a == b)
  | [], [] => by simp
  | [], _ :: _ => by simp
  | _ :: _, [] => by simp
  | x :: a, y :: b => by simp [eqv_I a b]; rfl
theorem eqv_encI (a b : List Int) : PyData.eqv (encI a) (encI b) = (a == b) := by simp [encI, eqv_I]
theorem shaped_I (a : List Int) : SeqAt.shaped (encI a) = true := shaped_lst (n := 0) (by omega) fun d hd => by
  obtain ⟨z, _, rfl⟩ := List.mem_map.mp hd
  simp [PyData.canLay0, PyData.depth]
theorem eqOk_I (a b : List Int) : eqOk (encI a) (encI b) := .inr ⟨shaped_I a, shaped_I b⟩
theorem encN_I (ns : List Nat) : encN ns = encI (ns.map fun (n : Nat) => (n : Int)) := by simp [encN, encI]
theorem Nat_beq_map (a b : List Nat) : ((a.map fun (n : Nat) => (n : Int)) == (b.map fun (n : Nat) => (n : Int))) = (a == b) := by
  rw [Bool.eq_iff_iff, beq_iff_eq, beq_iff_eq]
  constructor
  · intro h
    have := congrArg (List.map Int.toNat) h
    simpa [List.map_map, Function.comp_def] using this
  · intro h; rw [h]
theorem eqv_N (a b : List Nat) : PyData.eqv (encN a) (encN b) = (a == b) := by rw [encN_I, encN_I, eqv_encI, Nat_beq_map]
theorem eqOk_N (a b : List Nat) : eqOk (encN a) (encN b) := by rw [encN_I, encN_I]; exact eqOk_I _ _
theorem Knd.enc_p (k : Knd) : ∃ ds, k.enc = .tuple ds ∧ atI ds 4 = some (.int k.p) ∧ atI ds 3 = some (.bool k.m) := ⟨_, rfl, by simp, by simp⟩
def sp82 : Spec
  | [.dat a, .dat b, .dat (.int w)], Q => ∃ ks ms, a = encKs ks ∧ b = encM ms ∧ okM ms ∧ Q (encN (strays ks ms w))
  | _, _ => False
theorem zipIdx_enum (ks : List Knd) : enumL 0 (ks.map Knd.enc) = (ks.zipIdx 0).map fun p => PyData.tuple [.int (p.2 : Int), p.1.enc] := enumL_map Knd.enc 0 ks
theorem flatMap_if {α β : Type} (p : α → Bool) (f : α → β) (xs : List α) : (xs.flatMap fun x => if p x = true then [f x] else []) = (xs.filter p).map f := by
  induction xs with
  | nil => rfl
  | cons x r ih =>
    rw [List.flatMap_cons, ih, List.filter_cons]
    cases p x <;> simp
theorem sem82 {Φ : Nat → Spec} (h71 : Φ 71 = sp71) : DefSem (b82.sem Φ) 5 3 sp82 := by
  intro as Q q
  unfold sp82 at q
  split at q <;> try exact q.elim
  rename_i w
  obtain ⟨ks, ms, rfl, rfl, hm, q⟩ := q
  refine ⟨rfl, ?_⟩
  simp [b82, initE, encKs]
  rw [zipIdx_enum]
  refine compL_typ _ (fun p => if (endsP ms (boxOf p.1 w) p.1.m != [p.1.p]) = true then [.int (p.2 : Int)] else []) (fun p hp k hk => ?_) ?_
  · obtain ⟨c, i⟩ := p
    obtain ⟨ds, e1, e2, _⟩ := c.enc_p
    simp
    rw [h71]
    refine ⟨ms, c, rfl, rfl, hm, ?_⟩
    rw [e1]
    simp [e2]
    have f : PyData.list [.int c.p] = encI [c.p] := rfl
    rw [f]
    refine ⟨eqOk_I _ _, ?_⟩
    rw [eqv_encI]
    cases e : (endsP ms (boxOf c w) c.m == [c.p]) with
    | true => simpa [bne, e] using hk
    | false => simpa [bne, e] using hk
  · rw [List.nil_append, flatMap_if]
    simpa [encN, strays, Function.comp_def] using q
def sp84 : Spec
  | [.dat a], Q => ∃ p : Plan, a = p.enc ∧ p.ok ∧ Q (encN (strays p.ks p.ms 0))
  | _, _ => False
theorem sem84 {Φ : Nat → Spec} (h13 : Φ 13 = sp13) (h82 : Φ 82 = sp82) : DefSem (b84.sem Φ) 1 1 sp84 := by
  intro as Q q
  unfold sp84 at q
  split at q <;> try exact q.elim
  obtain ⟨p, rfl, hp, q⟩ := q
  refine ⟨rfl, ?_⟩
  simp [b84, initE, h13, sp13, shaped_plan, isPlan_ok hp]
  simp [Plan.enc]
  rw [h82]
  exact ⟨_, _, rfl, rfl, hp.2, q⟩
def sp85 : Spec
  | [.dat a], Q => ∃ p : Plan, a = p.enc ∧ p.ok ∧ Q (.bool (strays p.ks p.ms 0 == []))
  | _, _ => False
theorem sem85 {Φ : Nat → Spec} (h13 : Φ 13 = sp13) (h82 : Φ 82 = sp82) : DefSem (b85.sem Φ) 1 1 sp85 := by
  intro as Q q
  unfold sp85 at q
  split at q <;> try exact q.elim
  obtain ⟨p, rfl, hp, q⟩ := q
  refine ⟨rfl, ?_⟩
  simp [b85, initE, h13, sp13, shaped_plan, isPlan_ok hp]
  simp [Plan.enc]
  rw [h82]
  refine ⟨_, _, rfl, rfl, hp.2, ?_⟩
  have f : PyData.list [] = encN [] := rfl
  rw [f]
  refine ⟨eqOk_N _ _, ?_⟩
  rw [eqv_N]
  exact q
/-! ### pairs -/
def boxPair (a b : Knd) : Box := ⟨⟨max (2 * a.w.1) (2 * b.w.1), true, some (max (2 * a.w.2) (2 * b.w.2)), true⟩, ⟨2 * a.t.1 + 2 * b.t.1, true, some (2 * a.t.2 + 2 * b.t.2), true⟩, ⟨2 * a.h.1 + 2 * b.h.1, true, some (2 * a.h.2 + 2 * b.h.2), true⟩⟩
def sp83 : Spec
  | [.dat a, .dat b], Q => ∃ x y : Knd, a = x.enc ∧ b = y.enc ∧ x.ok ∧ y.ok ∧ Q (boxPair x y).enc
  | _, _ => False
theorem spanOf0 {r : Int × Int} (h : 1 ≤ r.1) : spanOf r 0 = ⟨2 * r.1, true, some (2 * r.2), true⟩ := by
  unfold spanOf
  rw [if_pos (show 0 < 2 * r.1 - 0 by omega), Int.sub_zero, Int.add_zero]
theorem if_max (a b : Int) : (if b > a then b else a) = max a b := by
  rw [Int.max_def]; split <;> split <;> omega
theorem sem83 {Φ : Nat → Spec} (h67 : Φ 67 = sp67) : DefSem (b83.sem Φ) 7 2 sp83 := by
  intro as Q q
  unfold sp83 at q
  split at q <;> try exact q.elim
  obtain ⟨x, y, rfl, rfl, hx, hy, q⟩ := q
  refine ⟨rfl, ?_⟩
  simp only [boxPair, Box.enc, Span.enc, Span.enc.encO', ← if_max] at q
  have fx : boxOf x 0 = ⟨⟨2 * x.w.1, true, some (2 * x.w.2), true⟩, ⟨2 * x.t.1, true, some (2 * x.t.2), true⟩, ⟨2 * x.h.1, true, some (2 * x.h.2), true⟩⟩ := by
    unfold boxOf; rw [spanOf0 hx.1.1, spanOf0 hx.2.1.1, spanOf0 hx.2.2.1.1]
  have fy : boxOf y 0 = ⟨⟨2 * y.w.1, true, some (2 * y.w.2), true⟩, ⟨2 * y.t.1, true, some (2 * y.t.2), true⟩, ⟨2 * y.h.1, true, some (2 * y.h.2), true⟩⟩ := by
    unfold boxOf; rw [spanOf0 hy.1.1, spanOf0 hy.2.1.1, spanOf0 hy.2.2.1.1]
  simp [b83, initE]
  refine go h67 ⟨x, rfl, ?_⟩
  rw [fx]
  refine go h67 ⟨y, rfl, ?_⟩
  rw [fy]
  simpa [Box.enc, Span.enc, Span.enc.encO'] using q
def endsB (ms : List Stp) (bx : Box) (m : Bool) : List Int := endsP ms bx m
theorem getI {α : Type} (enc : α → D) {xs : List α} {i : Int} (h0 : 0 ≤ i) (h1 : i < xs.length) : ∃ x, xs[i.toNat]? = some x ∧ atI (xs.map enc) i = some (enc x) := by
  have hl : i.toNat < xs.length := by omega
  refine ⟨xs[i.toNat], List.getElem?_eq_getElem hl, ?_⟩
  obtain ⟨d, e1, e2⟩ := atI_in (xs := xs.map enc) h0 (by rw [List.length_map]; exact h1)
  rw [List.getElem?_map, List.getElem?_eq_getElem hl] at e2
  rw [e1, ← e2]; rfl
def sp86 : Spec
  | [.dat a, .dat (.int i), .dat (.int j)], Q => ∃ (p : Plan) (x y : Knd), a = p.enc ∧ p.ok ∧ 0 ≤ i ∧ 0 ≤ j ∧ p.ks[i.toNat]? = some x ∧ p.ks[j.toNat]? = some y ∧ Q (encI (endsP p.ms (boxPair x y) (x.m || y.m)))
  | _, _ => False
theorem lt_of_get {α : Type} {xs : List α} {i : Nat} {x : α} (h : xs[i]? = some x) : i < xs.length := by
  by_cases z : i < xs.length
  · exact z
  · rw [List.getElem?_eq_none (by omega)] at h; cases h
theorem atI_get {α : Type} (enc : α → D) {xs : List α} {i : Int} {x : α} (h0 : 0 ≤ i) (h : xs[i.toNat]? = some x) : atI (xs.map enc) i = some (enc x) := by
  obtain ⟨y, e1, e2⟩ := getI enc h0 (show i < xs.length by have := lt_of_get h; omega)
  rw [h] at e1; cases e1
  exact e2
theorem sem86 {Φ : Nat → Spec} (h13 : Φ 13 = sp13) (h15 : Φ 15 = sp15) (h66 : Φ 66 = sp66) (h83 : Φ 83 = sp83) : DefSem (b86.sem Φ) 10 3 sp86 := by
  intro as Q q
  unfold sp86 at q
  split at q <;> try exact q.elim
  rename_i i j
  obtain ⟨p, x, y, rfl, hp, hi, hj, ex, ey, q⟩ := q
  refine ⟨rfl, ?_⟩
  have li := lt_of_get ex
  have lj := lt_of_get ey
  have kx := hp.1.2 x (List.mem_of_getElem? ex)
  have ky := hp.1.2 y (List.mem_of_getElem? ey)
  simp [b86, initE, h13, sp13, shaped_plan, isPlan_ok hp]
  refine go h15 ⟨p, rfl, ⟨hi, by omega⟩, ?_⟩
  refine go h15 ⟨p, rfl, ⟨hj, by omega⟩, ?_⟩
  simp [Plan.enc, encKs, atI_get Knd.enc hi ex, atI_get Knd.enc hj ey]
  rw [h83]
  refine ⟨x, y, rfl, rfl, kx, ky, ?_⟩
  simp [Knd.enc]
  have last : ∀ g (f : D → (List D → Prop) → Prop), (x.m || y.m) = g → (∀ p : Piece, ∀ k : List D → Prop, k [.int p.pl] → f p.enc k) → compL f ((pieces p.ms (boxPair x y) g 0).map Piece.enc) [] fun es => biD .ssetI [.list es] fun d => Q d := by
    rintro g f rfl hf
    refine compL_typ Piece.enc (fun p => [.int p.pl]) (fun p hp k hk => hf p k hk) ?_
    rw [List.nil_append, ← List.map_eq_flatMap]
    have := endsP_go (bx := boxPair x y) (m := x.m || y.m) hp.2 q
    rw [List.map_map] at this
    exact this
  split <;> rename_i hx
  · refine go h66 ⟨_, _, rfl, rfl, hp.2.l, ?_⟩
    simp [encPs]
    exact last true _ (by rw [hx]; rfl) fun p k hk => by simpa [Piece.enc] using hk
  · refine go h66 ⟨_, _, rfl, rfl, hp.2.l, ?_⟩
    simp [encPs]
    exact last y.m _ (by rw [show x.m = false by simpa using hx]; rfl) fun p k hk => by simpa [Piece.enc] using hk
end CC

namespace CC
open PySem PySem.Spec PyProof.Rows L2
/-! ### drawn kinds and plans -/
def Knd.top (k : Knd) (n : Int) : Prop := k.w.2 ≤ n ∧ k.t.2 ≤ n ∧ k.h.2 ≤ n
def sp26 : Spec
  | [.bag _, .dat (.int w)], Q => (0 < w ∧ w ≤ 20) ∧ ∀ k : Knd, k.ok → k.top (w + 5) → Q k.enc
  | _, _ => False
theorem mem6 {d : D} (h : d ∈ [PyData.int 0, .int 0, .int 1, .int 2, .int 3, .int 5]) : ∃ b : Int, d = .int b ∧ 0 ≤ b ∧ b ≤ 5 := by
  simp at h
  rcases h with rfl | rfl | rfl | rfl | rfl <;> exact ⟨_, rfl, by omega, by omega⟩
theorem memP {d : D} (h : d ∈ [PyData.int (-1), .int 0, .int 1, .int 1, .int 2]) : ∃ b : Int, d = .int b ∧ okP b := by
  simp at h
  rcases h with rfl | rfl | rfl | rfl <;> exact ⟨_, rfl, by unfold okP; omega⟩
theorem td_step (s : Stp) : td s.enc = true := by cases s <;> rfl
theorem td_knd (k : Knd) : td k.enc = true := rfl
theorem tdA_step (ss : List Stp) : tdA (ss.map Stp.enc) = true := tdA_map td_step ss
theorem sem26 {Φ : Nat → Spec} (h24 : Φ 24 = sp24) (h25 : Φ 25 = sp25) : DefSem (b26.sem Φ) 5 2 sp26 := by
  intro as Q q
  unfold sp26 at q
  split at q <;> try exact q.elim
  rename_i a w
  obtain ⟨⟨hw, hw2⟩, q⟩ := q
  refine ⟨rfl, ?_⟩
  simp only [b26, Sms.sem, Sm.sem]
  simp [initE, tdA, inR]
  intro p
  rw [show (3 : Int) = ((3 : Nat) : Int) from rfl, rngL_nat]
  refine forL_inv _ (fun r ρ => ∃ u v cs, ρ = [.cell a .bag, .dat (.int w), .cell p (.lst (cs.map encR)), u, v] ∧ (∀ c ∈ cs, okBd c ∧ c.2 ≤ w + 5) ∧ cs.length + r.length = 3) (fun x r ρ hI k hk => ?_) (fun ρ hI => ?_) _ _ ⟨_, _, [], rfl, (fun _ z => nomatch z), rfl⟩
  · obtain ⟨u, v, cs, rfl, hc, hl⟩ := hI
    simp
    refine go h24 ⟨⟨by omega, by omega⟩, fun r0 r1 r2 => ?_⟩
    simp
    refine go h25 ⟨⟨by decide, by decide⟩, fun d hd => ?_⟩
    obtain ⟨b, rfl, b1, b2⟩ := mem6 hd
    simp
    refine ⟨td_encR (_, _), ?_, ?_⟩
    · rw [sizeLine_eq]; simp at hl; omega
    · refine hk _ ⟨_, _, cs ++ [(1 + r0, 1 + r0 + b)], by rw [List.map_append]; rfl, fun c hm' => ?_, ?_⟩
      · rcases List.mem_append.mp hm' with hm' | hm'
        · exact hc c hm'
        · rw [List.mem_singleton.mp hm']
          exact ⟨⟨by show 1 ≤ 1 + r0; omega, by show 1 + r0 ≤ 1 + r0 + b; omega, by show 1 + r0 + b ≤ 40; omega⟩, by show 1 + r0 + b ≤ w + 5; omega⟩
      · rw [List.length_append]; simp at hl ⊢; omega
  · obtain ⟨u, v, cs, rfl, hc, hl⟩ := hI
    match cs, hl with
    | [c1, c2, c3], _ =>
      simp
      refine go h24 ⟨⟨by decide, by decide⟩, fun r r0 r1 => ?_⟩
      simp
      refine go h25 ⟨⟨by decide, by decide⟩, fun d hd => ?_⟩
      obtain ⟨b, rfl, b1⟩ := memP hd
      exact q ⟨c1, c2, c3, decide (r = 0), b⟩ ⟨(hc c1 (by simp)).1, (hc c2 (by simp)).1, (hc c3 (by simp)).1, b1⟩ ⟨(hc c1 (by simp)).2, (hc c2 (by simp)).2, (hc c3 (by simp)).2⟩
def sp28 : Spec
  | [.bag _, .dat (.int n), .dat (.int m)], Q => ((0 < n ∧ n ≤ 4) ∧ (0 ≤ m ∧ m ≤ 8)) ∧ ∀ p : Plan, p.ok → (p.ks.length : Int) ≤ n → (p.ms.length : Int) ≤ m → Q p.enc
  | _, _ => False
theorem mem3' {d : D} (h : d ∈ [PyData.int 5, .int 9, .int 20]) : ∃ b : Int, d = .int b ∧ 0 < b ∧ b ≤ 20 := by
  simp at h
  rcases h with rfl | rfl | rfl <;> exact ⟨_, rfl, by omega, by omega⟩
theorem sem28 {Φ : Nat → Spec} (h24 : Φ 24 = sp24) (h25 : Φ 25 = sp25) (h26 : Φ 26 = sp26) (h27 : Φ 27 = sp27) : DefSem (b28.sem Φ) 9 3 sp28 := by
  intro as Q q
  unfold sp28 at q
  split at q <;> try exact q.elim
  rename_i a n m
  obtain ⟨⟨⟨hn, hn2⟩, hm, hm2⟩, q⟩ := q
  refine ⟨rfl, ?_⟩
  simp only [b28, Sms.sem, Sm.sem]
  simp [initE]
  refine go h25 ⟨⟨by decide, by decide⟩, fun d hd => ?_⟩
  obtain ⟨w, rfl, w1, w2⟩ := mem3' hd
  refine go h24 ⟨⟨by omega, by omega⟩, fun r r0 r1 => ?_⟩
  simp
  refine ⟨⟨by omega, by omega⟩, ?_⟩
  rw [show 1 + r = (((1 + r).toNat : Nat) : Int) by omega, rngL_nat]
  refine compL_any (fun k : Knd => k.ok) Knd.enc (fun d hd k hk => ?_) fun ks hl hr => ?_
  · exact go h26 ⟨⟨w1, w2⟩, fun k hk1 _ => hk k hk1⟩
  · rw [List.length_map, List.length_range] at hl
    simp [tdA]
    intro p
    refine go h24 ⟨⟨by omega, by omega⟩, fun r' r0' r1' => ?_⟩
    simp
    refine ⟨⟨by omega, by omega⟩, ?_⟩
    rw [show r' = ((r'.toNat : Nat) : Int) by omega, rngL_nat]
    refine forL_inv _ (fun l ρ => ∃ u5 u7 u8 cs, ρ = [.cell a .bag, .dat (.int n), .dat (.int m), .dat (.int w), .dat (.tuple (ks.map Knd.enc)), u5, .cell p (.lst (cs.map Stp.enc)), u7, u8] ∧ (∀ c ∈ cs, Stp.ok c) ∧ cs.length + l.length = r'.toNat) (fun x l ρ hI k hk => ?_) (fun ρ hI => ?_) _ _ ⟨_, _, _, [], rfl, (fun _ z => nomatch z), by simp⟩
    · obtain ⟨u5, u7, u8, cs, rfl, hc, hl2⟩ := hI
      have fin : ∀ s : Stp, s.ok → ∀ u5 u7 u8, td s.enc = true ∧ (cs.map Stp.enc).length < sizeLine ∧ k [.cell a .bag, .dat (.int n), .dat (.int m), .dat (.int w), .dat (.tuple (ks.map Knd.enc)), u5, .cell p (.lst ((cs.map Stp.enc) ++ [s.enc])), u7, u8] := fun s hs u5 u7 u8 => by
        refine ⟨td_step s, ?_, ?_⟩
        · rw [List.length_map, sizeLine_eq]; simp at hl2; omega
        · refine hk _ ⟨_, _, _, cs ++ [s], by rw [List.map_append]; rfl, fun c hm' => ?_, ?_⟩
          · rcases List.mem_append.mp hm' with hm' | hm'
            · exact hc c hm'
            · rw [List.mem_singleton.mp hm']; exact hs
          · rw [List.length_append]; simp at hl2 ⊢; omega
      simp
      refine go h25 ⟨⟨by rw [List.length_map]; omega, by rw [List.length_map]; omega⟩, fun d hd => ?_⟩
      obtain ⟨c, hcm, rfl⟩ := List.mem_map.mp hd
      have kc := hr c hcm
      simp [Knd.enc, encR]
      refine go h24 ⟨⟨by decide, by decide⟩, fun r2 r20 r21 => ?_⟩
      simp
      have cut : ∀ (kd : Kd) (l : Int), 1 ≤ l ∧ l ≤ 40 → (Stp.cut kd l c.p).ok := fun kd l h => ⟨⟨h.1, by omega⟩, kc.2.2.2⟩
      obtain ⟨⟨a1, a2, a3⟩, ⟨b1, b2, b3⟩, ⟨c1, c2, c3⟩, _⟩ := kc
      split
      · refine go h25 ⟨⟨by simp, by simp⟩, fun d hd => ?_⟩
        simp at hd
        rcases hd with rfl | rfl | rfl
        · simpa [Stp.enc, Kd.word] using fin (.cut .hole c.w.2 c.p) (cut _ _ ⟨by omega, by omega⟩) _ _ _
        · simpa [Stp.enc, Kd.word] using fin (.cut .gap c.t.2 c.p) (cut _ _ ⟨by omega, by omega⟩) _ _ _
        · simpa [Stp.enc, Kd.word] using fin (.cut .scale c.h.1 c.p) (cut _ _ ⟨by omega, by omega⟩) _ _ _
      · refine go h27 ⟨⟨by omega, by omega⟩, fun s hs _ => ?_⟩
        simpa using fin s hs _ _ _
    · obtain ⟨u5, u7, u8, cs, rfl, hc, hl2⟩ := hI
      simp at hl2
      simp
      exact q ⟨ks, cs⟩ ⟨⟨⟨by show 1 ≤ ks.length; omega, by show ks.length ≤ 4; omega⟩, hr⟩, ⟨by show cs.length ≤ 8; omega, hc⟩⟩ (by show (ks.length : Int) ≤ n; omega) (by show (cs.length : Int) ≤ m; omega)
end CC

namespace CC
open PySem PySem.Spec PyProof.Rows L2
/-- a loop that makes a list longer, item by item -/
theorem forL_app {α : Type} (enc : α → D) {f : D → SEnv → (SEnv → Prop) → Prop} {Q : SEnv → Prop} (E : List D → SEnv → Prop) (g : α → List D) {xs : List α} {acc0 : List D} {N : Nat} (hN : acc0.length + (xs.flatMap g).length ≤ N)
    (hs : ∀ x ∈ xs, ∀ acc ρ, acc.length + (g x).length ≤ N → E acc ρ → ∀ k : SEnv → Prop, (∀ ρ', E (acc ++ g x) ρ' → k ρ') → f (enc x) ρ k) (hn : ∀ ρ, E (acc0 ++ xs.flatMap g) ρ → Q ρ) {ρ : SEnv} (h : E acc0 ρ) : forL f (xs.map enc) ρ Q := by
  refine forL_inv enc (fun r ρ => ∃ pre acc, xs = pre ++ r ∧ acc = acc0 ++ pre.flatMap g ∧ E acc ρ) (fun x r ρ hI k hk => ?_) (fun ρ hI => ?_) xs ρ ⟨[], acc0, rfl, by simp, h⟩
  · obtain ⟨pre, acc, rfl, rfl, hE⟩ := hI
    refine hs x (by simp) _ ρ ?_ hE k fun ρ' h' => hk ρ' ⟨pre ++ [x], _, by simp, rfl, by simpa using h'⟩
    simp [List.flatMap_append, List.flatMap_cons] at hN ⊢
    omega
  · obtain ⟨pre, acc, e, rfl, hE⟩ := hI
    rw [List.append_nil] at e
    subst e
    exact hn ρ hE
/-! ### the law's cells -/
def sp77 : Spec
  | [.dat a, .dat (.int i)], Q => ∃ (ms : List (List Stp)) (k : Kd), a = .list (ms.map encM) ∧ i = kdIx k ∧ (ms.map List.length).sum ≤ 60 ∧ Q (encI (limitsOf ms k))
  | _, _ => False
theorem limitsOf_len (k : Kd) : ∀ ms : List (List Stp), (limitsOf ms k).length ≤ (ms.map List.length).sum
  | [] => by simp [limitsOf]
  | m :: ms => by
    have h1 := limitsOf_len k ms
    have h2 := List.length_filterMap_le (stepLim k) m
    unfold limitsOf at h1 ⊢
    rw [List.flatMap_cons, List.length_append, List.map_cons, List.sum_cons]
    omega
theorem limitsOf_cons (m : List Stp) (ms : List (List Stp)) (k : Kd) : limitsOf (m :: ms) k = m.filterMap (stepLim k) ++ limitsOf ms k := rfl
def limD (k : Kd) (s : Stp) : List D := match stepLim k s with
  | some l => [.int l]
  | none => []
theorem limD_map (k : Kd) : ∀ m : List Stp, m.flatMap (limD k) = (m.filterMap (stepLim k)).map .int
  | [] => rfl
  | s :: m => by
    rw [List.flatMap_cons, limD_map k m, List.filterMap_cons]
    unfold limD
    cases stepLim k s <;> simp
theorem atI_word (k : Kd) : atI [PyData.str "hole", .str "gap", .str "scale"] (kdIx k) = some (.str k.word) := by cases k <;> simp [kdIx, Kd.word]
theorem sem77 {Φ : Nat → Spec} : DefSem (b77.sem Φ) 6 2 sp77 := by
  intro as Q q
  unfold sp77 at q
  split at q <;> try exact q.elim
  rename_i i
  obtain ⟨ms, k, rfl, rfl, hl, q⟩ := q
  refine ⟨rfl, ?_⟩
  have hll := limitsOf_len k ms
  have f0 : PyData.list [] = encI [] := rfl
  simp [b77, initE, atI_word]
  rw [f0]
  refine forL_inv encM (fun r ρ => ∃ ls u4, ρ = [.dat (.list (ms.map encM)), .dat (.int (kdIx k)), .dat (.str k.word), .dat (encI ls), u4, .un] ∧ limitsOf ms k = ls ++ limitsOf r k) (fun m r ρ hI K hK => ?_) (fun ρ hI => ?_) _ _ ⟨[], _, rfl, rfl⟩
  · obtain ⟨ls, u4, rfl, e2⟩ := hI
    rw [limitsOf_cons] at e2
    have z := congrArg List.length e2
    simp only [List.length_append] at z
    simp [encM]
    refine compL_typ Stp.enc (limD k) (fun s _ K hK => ?_) ?_
    · cases s with
      | mag p => cases k <;> simpa [Stp.enc, limD, stepLim, Kd.word] using hK
      | cut kd l p => cases kd <;> cases k <;> simpa [Stp.enc, limD, stepLim, Kd.word] using hK
    · rw [List.nil_append, limD_map]
      simp only [binD_add_l, encI]
      refine ⟨by rw [List.length_map, List.length_map, sizeLine_eq]; omega, ?_⟩
      rw [← List.map_append]
      exact hK _ ⟨_, _, rfl, by rw [e2, List.append_assoc]⟩
  · obtain ⟨ls, u4, rfl, e2⟩ := hI
    simp only [limitsOf, List.flatMap_nil, List.append_nil] at e2 q
    rw [e2] at q
    simpa using q
end CC

namespace CC
open PySem PySem.Spec PyProof.Rows L2
def Bnd.enc (b : Bnd) : D := .tuple [.int b.lo, encOi b.hi]
def encCs (cs : List Cell) : D := .list (cs.map Cell.enc)
def sp78 : Spec
  | [.dat a, .dat l], Q => ∃ (b : Bnd) (ls : List Int), a = b.enc ∧ l = encI ls ∧ ls.length ≤ 60 ∧ Q (encCs (cellsOf b ls))
  | _, _ => False
theorem td_cell (c : Cell) : td c.enc = true := by
  obtain ⟨a, b, s⟩ := c
  cases b <;> rfl
theorem atI_lastI (es : List Int) (h : es ≠ []) : atI (es.map PyData.int) (-1) = some (.int (es.getLast h)) := by
  have := atI_last ((es.dropLast).map PyData.int) (.int (es.getLast h))
  rwa [← List.map_singleton, ← List.map_append, List.dropLast_concat_getLast] at this
theorem segs_drop {es : List Int} {i : Nat} (h : i + 1 < es.length) : segs (es.drop i) = ⟨es[i], some es[i + 1], low (es[i] + es[i + 1]) 2⟩ :: ⟨es[i + 1], some es[i + 1], (es[i + 1], 1)⟩ :: segs (es.drop (i + 1)) := by
  rw [List.drop_eq_getElem_cons (by omega : i < es.length), List.drop_eq_getElem_cons h, segs]
theorem segs_end {es : List Int} {i : Nat} (h : es.length ≤ i + 1) : segs (es.drop i) = [] := by
  have : (es.drop i).length ≤ 1 := by rw [List.length_drop]; omega
  match e : es.drop i with
  | [] => rfl
  | [x] => rfl
  | x :: y :: r => rw [e] at this; simp at this
theorem segs_len : ∀ es : List Int, (segs es).length ≤ 2 * es.length
  | [] => by simp [segs]
  | [_] => by simp [segs]
  | a :: b :: r => by
    have := segs_len (b :: r)
    simp [segs] at this ⊢
    omega
theorem insI_len (x : Int) : ∀ l, (insI x l).length ≤ l.length + 1
  | [] => by simp [insI]
  | y :: r => by
    unfold insI
    have := insI_len x r
    split <;> try split
    all_goals simp; try omega
theorem sset_len : ∀ l, (sset l).length ≤ l.length
  | [] => by simp [sset]
  | x :: r => by
    have := insI_len x (sset r)
    have := sset_len r
    simp [sset]
    omega
theorem edges_len (b : Bnd) (ls : List Int) : (edges b.lo b.hi (innerOf b ls)).length ≤ ls.length + 2 := by
  have h1 := sset_len (ls.filter (btwB b))
  have h2 := List.length_filter_le (btwB b) ls
  unfold innerOf
  generalize ls.filter (btwB b) = F at *
  obtain ⟨lo, hi⟩ := b
  cases hi with
  | none => simp [edges]; omega
  | some h => by_cases e : h = lo <;> simp [edges, e] <;> omega
theorem cellsOf_len (b : Bnd) (ls : List Int) : (cellsOf b ls).length ≤ 2 * ls.length + 6 := by
  have h1 := edges_len b ls
  have h2 := segs_len (edges b.lo b.hi (innerOf b ls))
  unfold cellsOf cells
  rw [List.length_append, List.length_append]
  generalize segs (edges b.lo b.hi (innerOf b ls)) = S at *
  have : (if b.lo = 0 then [] else [(⟨b.lo, some b.lo, (b.lo, 1)⟩ : Cell)]).length ≤ 1 := by split <;> simp
  cases hb : b.hi <;> simp [hb] at * <;> omega
theorem sem78 {Φ : Nat → Spec} (h29 : Φ 29 = sp29) : DefSem (b78.sem Φ) 9 2 sp78 := by
  intro as Q q
  unfold sp78 at q
  split at q <;> try exact q.elim
  obtain ⟨b, ls, rfl, rfl, hl, q⟩ := q
  refine ⟨rfl, ?_⟩
  have hse : ∀ R : D → Prop, R (encI (innerOf b ls)) → biD .ssetI [.list ((ls.filter (btwB b)).map .int)] R := fun R hR => by
    have := List.length_filter_le (btwB b) ls
    exact ⟨_, _, rfl, by omega, by omega, fun _ h => h, fun ms h1 h2 => by rw [sset_eq h1 h2]; exact hR⟩
  have hel := edges_len b ls
  have hil : (innerOf b ls).length ≤ ls.length := by
    have h1 := sset_len (ls.filter (btwB b))
    have h2 := List.length_filter_le (btwB b) ls
    unfold innerOf
    omega
  have hne : edges b.lo b.hi (innerOf b ls) ≠ [] := by simp [edges]
  have hpos : 0 < (edges b.lo b.hi (innerOf b ls)).length := by simp [edges]
  have big : (200 : Nat) + 1 < sizeLine := by rw [sizeLine_eq]; omega
  have turn : ∀ (es : List Int) (i : Nat) (h : i + 1 < es.length), atI (es.map PyData.int) (i : Int) = some (.int es[i]) ∧ atI (es.map PyData.int) ((i : Int) + 1) = some (.int es[i + 1]) := fun es i h => ⟨atI_map _ (by omega), by have := atI_map PyData.int h; simpa using this⟩
  obtain ⟨lo, hi⟩ := b
  cases hi with
  | none =>
    have ee : edges lo none (innerOf ⟨lo, none⟩ ls) = lo :: innerOf ⟨lo, none⟩ ls := by simp [edges]
    simp only [encCs, cellsOf, cells, ee] at q
    simp only [ee] at hel hne hpos
    simp [b78, initE, Bnd.enc, encI, Span.enc.encO']
    refine compL_typ PyData.int (fun l => if btwB ⟨lo, none⟩ l = true then [.int l] else []) (fun l _ K hK => ?_) ?_
    · by_cases h : lo < l <;> simpa [btwB, h] using hK
    · rw [List.nil_append, flatMap_if]
      refine hse _ ?_
      simp [encI]
      generalize innerOf ⟨lo, none⟩ ls = inner at *
      refine ⟨by omega, by omega, ?_⟩
      have hlast := atI_lastI (lo :: inner) (by simp)
      have hfl : (if lo = 0 then [] else [(⟨lo, some lo, (lo, 1)⟩ : Cell)]).length ≤ 1 := by split <;> simp
      have f0 : (if lo = 0 then [] else [(⟨lo, some lo, (lo, 1)⟩ : Cell)]).map Cell.enc = (if lo = 0 then [] else [Cell.enc ⟨lo, some lo, (lo, 1)⟩]) := by split <;> rfl
      generalize hfd : (if lo = 0 then [] else [(⟨lo, some lo, (lo, 1)⟩ : Cell)]) = first at *
      split
      all_goals
        rename_i h0
        refine ⟨rfl, fun p => ⟨⟨by omega, by omega⟩, ?_⟩⟩
        try rw [show ((inner.length : Int) + 1) = ((inner.length + 1 : Nat) : Int) from by omega]
        refine forL_range _ (fun i ρ => ∃ u8 cs, ρ = [.dat (Bnd.enc ⟨lo, none⟩), .dat (encI ls), .dat (.int lo), .dat .none, .dat (encI inner), .un, .dat (encI (lo :: inner)), .cell p (.lst (cs.map Cell.enc)), u8] ∧ first ++ segs (lo :: inner) = cs ++ segs ((lo :: inner).drop i) ∧ cs.length ≤ 2 * i + 1) (fun i ρ hi hI K hK => ?_) (fun ρ hI => ?_) _ ⟨.un, first, by rw [f0]; (try rw [eES]); first | (rw [if_pos h0]; rfl) | (rw [if_neg h0]; rfl), by simp, by omega⟩
        · obtain ⟨u8, cs, rfl, e, hl⟩ := hI
          have hi' : i + 1 < (lo :: inner).length := by simp; omega
          rw [segs_drop hi'] at e
          obtain ⟨t1, t2⟩ := turn (lo :: inner) i hi'
          generalize (lo :: inner)[i] = x1 at *
          generalize (lo :: inner)[i + 1] = x2 at *
          have fin := hK [.dat (Bnd.enc ⟨lo, none⟩), .dat (encI ls), .dat (.int lo), .dat .none, .dat (encI inner), .un, .dat (encI (lo :: inner)), .cell p (.lst ((cs ++ ([⟨x1, some x2, low (x1 + x2) 2⟩, ⟨x2, some x2, (x2, 1)⟩] : List Cell)).map Cell.enc)), .dat (.int (i : Int))] ⟨_, _, rfl, by simpa using e, by simp; omega⟩
          simp [encI] at t1 t2 fin ⊢
          simp [t1, t2]
          refine go h29 ⟨⟨by decide, by decide⟩, rfl, by omega, ?_⟩
          exact ⟨rfl, by omega, fin⟩
        · obtain ⟨u8, cs, rfl, e, hl⟩ := hI
          rw [segs_end (by simp), List.append_nil] at e
          generalize (lo :: inner).getLast (by simp) = z at *
          simp [encI] at hlast ⊢
          simp [hlast]
          refine ⟨rfl, by omega, ?_⟩
          rw [← e]
          simpa [Cell.enc, Span.enc.encO', encR] using q
  | some h =>
    have ee : edges lo (some h) (innerOf ⟨lo, some h⟩ ls) = lo :: (innerOf ⟨lo, some h⟩ ls ++ if h = lo then [] else [h]) := by simp [edges]
    simp only [encCs, cellsOf, cells, ee] at q
    simp only [ee] at hel hne hpos
    simp [b78, initE, Bnd.enc, encI, Span.enc.encO']
    refine compL_typ PyData.int (fun l => if btwB ⟨lo, some h⟩ l = true then [.int l] else []) (fun l _ K hK => ?_) ?_
    · by_cases h1 : lo < l <;> by_cases h2 : l < h <;> simpa [btwB, h1, h2] using hK
    · rw [List.nil_append, flatMap_if]
      refine hse _ ?_
      simp [encI]
      generalize innerOf ⟨lo, some h⟩ ls = inner at *
      refine ⟨by omega, ?_⟩
      have hfl : (if lo = 0 then [] else [(⟨lo, some lo, (lo, 1)⟩ : Cell)]).length ≤ 1 := by split <;> simp
      have f0 : (if lo = 0 then [] else [(⟨lo, some lo, (lo, 1)⟩ : Cell)]).map Cell.enc = (if lo = 0 then [] else [Cell.enc ⟨lo, some lo, (lo, 1)⟩]) := by split <;> rfl
      generalize hfd : (if lo = 0 then [] else [(⟨lo, some lo, (lo, 1)⟩ : Cell)]) = first at *
      by_cases hh : h = lo
      · subst hh
        simp at hel q ⊢
        refine ⟨by omega, ?_⟩
        split
        all_goals
          rename_i h0
          refine ⟨rfl, fun p => ⟨⟨by omega, by omega⟩, ?_⟩⟩
          try rw [show ((inner.length : Int) + 1) = ((inner.length + 1 : Nat) : Int) from by omega]
          refine forL_range _ (fun i ρ => ∃ u8 cs, ρ = [.dat (Bnd.enc ⟨h, some h⟩), .dat (encI ls), .dat (.int h), .dat (.int h), .dat (encI inner), .un, .dat (encI (h :: inner)), .cell p (.lst (cs.map Cell.enc)), u8] ∧ first ++ segs (h :: inner) = cs ++ segs ((h :: inner).drop i) ∧ cs.length ≤ 2 * i + 1) (fun i ρ hi hI K hK => ?_) (fun ρ hI => ?_) _ ⟨.un, first, by rw [f0]; (try rw [eES]); first | (rw [if_pos h0]; rfl) | (rw [if_neg h0]; rfl), by simp, by omega⟩
          · obtain ⟨u8, cs, rfl, e, hl⟩ := hI
            have hi' : i + 1 < (h :: inner).length := by simp; omega
            rw [segs_drop hi'] at e
            obtain ⟨t1, t2⟩ := turn (h :: inner) i hi'
            generalize (h :: inner)[i] = x1 at *
            generalize (h :: inner)[i + 1] = x2 at *
            have fin := hK [.dat (Bnd.enc ⟨h, some h⟩), .dat (encI ls), .dat (.int h), .dat (.int h), .dat (encI inner), .un, .dat (encI (h :: inner)), .cell p (.lst ((cs ++ ([⟨x1, some x2, low (x1 + x2) 2⟩, ⟨x2, some x2, (x2, 1)⟩] : List Cell)).map Cell.enc)), .dat (.int (i : Int))] ⟨_, _, rfl, by simpa using e, by simp; omega⟩
            simp [encI] at t1 t2 fin ⊢
            simp [t1, t2]
            refine go h29 ⟨⟨by decide, by decide⟩, rfl, by omega, ?_⟩
            first | exact ⟨rfl, by omega, fin⟩ | (split <;> exact ⟨rfl, by omega, fin⟩)
          · obtain ⟨u8, cs, rfl, e, hl⟩ := hI
            rw [segs_end (by simp), List.append_nil] at e
            subst e
            simpa using q
      · simp [hh] at hel q ⊢
        refine ⟨by omega, ?_⟩
        have eES : encI (lo :: (inner ++ [h])) = PyData.list (.int lo :: (inner.map .int ++ [.int h])) := by simp [encI]
        split
        all_goals
          rename_i h0
          refine ⟨rfl, fun p => ⟨⟨by omega, by omega⟩, ?_⟩⟩
          try rw [show ((inner.length : Int) + 1) = ((inner.length + 1 : Nat) : Int) from by omega]
          refine forL_range _ (fun i ρ => ∃ u8 cs, ρ = [.dat (Bnd.enc ⟨lo, some h⟩), .dat (encI ls), .dat (.int lo), .dat (.int h), .dat (encI inner), .un, .dat (encI (lo :: (inner ++ [h]))), .cell p (.lst (cs.map Cell.enc)), u8] ∧ first ++ segs (lo :: (inner ++ [h])) = cs ++ segs ((lo :: (inner ++ [h])).drop i) ∧ cs.length ≤ 2 * i + 1) (fun i ρ hi hI K hK => ?_) (fun ρ hI => ?_) _ ⟨.un, first, by rw [f0]; (try rw [eES]); first | (rw [if_pos h0]; rfl) | (rw [if_neg h0]; rfl), by simp, by omega⟩
          · obtain ⟨u8, cs, rfl, e, hl⟩ := hI
            have hi' : i + 1 < (lo :: (inner ++ [h])).length := by simp; omega
            rw [segs_drop hi'] at e
            obtain ⟨t1, t2⟩ := turn (lo :: (inner ++ [h])) i hi'
            generalize (lo :: (inner ++ [h]))[i] = x1 at *
            generalize (lo :: (inner ++ [h]))[i + 1] = x2 at *
            have fin := hK [.dat (Bnd.enc ⟨lo, some h⟩), .dat (encI ls), .dat (.int lo), .dat (.int h), .dat (encI inner), .un, .dat (encI (lo :: (inner ++ [h]))), .cell p (.lst ((cs ++ ([⟨x1, some x2, low (x1 + x2) 2⟩, ⟨x2, some x2, (x2, 1)⟩] : List Cell)).map Cell.enc)), .dat (.int (i : Int))] ⟨_, _, rfl, by simpa using e, by simp; omega⟩
            simp [encI] at t1 t2 fin ⊢
            simp [t1, t2]
            refine go h29 ⟨⟨by decide, by decide⟩, rfl, by omega, ?_⟩
            first | exact ⟨rfl, by omega, fin⟩ | (split <;> exact ⟨rfl, by omega, fin⟩)
          · obtain ⟨u8, cs, rfl, e, hl⟩ := hI
            rw [segs_end (by simp), List.append_nil] at e
            subst e
            simpa using q
end CC

namespace CC
open PySem PySem.Spec PyProof.Rows L2
def sp79 : Spec
  | [.dat a, .dat s, .dat (.bool g)], Q => ∃ (ms : List (List Stp)) (b : Bnds), a = .list (ms.map encM) ∧ (s = .tuple [b.w.enc, b.t.enc, b.h.enc] ∨ s = .list [b.w.enc, b.t.enc, b.h.enc]) ∧ (ms.map List.length).sum ≤ 60 ∧ Q (.list ((grid ms b g).map Row.enc))
  | _, _ => False
theorem flat_len {α β : Type} (f : α → List β) {n : Nat} : ∀ {xs : List α}, (∀ x ∈ xs, (f x).length ≤ n) → (xs.flatMap f).length ≤ xs.length * n
  | [], _ => by simp
  | x :: r, h => by
    have h1 := h x List.mem_cons_self
    have h2 := flat_len f (xs := r) fun y hy => h y (List.mem_cons_of_mem _ hy)
    rw [List.flatMap_cons, List.length_append, List.length_cons, Nat.succ_mul]
    omega
theorem grid_rows (ms : List (List Stp)) (b : Bnds) (g : Bool) : (grid ms b g).map Row.enc = (cellsOf b.w (limitsOf ms .hole)).flatMap fun x => (cellsOf b.t (limitsOf ms .gap)).flatMap fun y => (cellsOf b.h (limitsOf ms .scale)).map fun z => Row.enc ⟨x, y, z, g⟩ := by
  unfold grid
  simp [List.map_flatMap, Function.comp_def]
theorem grid_len {ms : List (List Stp)} (h : (ms.map List.length).sum ≤ 60) (b : Bnds) (g : Bool) : ((grid ms b g).map Row.enc).length ≤ 2000376 := by
  have l1 := cellsOf_len b.w (limitsOf ms .hole)
  have l2 := cellsOf_len b.t (limitsOf ms .gap)
  have l3 := cellsOf_len b.h (limitsOf ms .scale)
  have m1 := limitsOf_len .hole ms
  have m2 := limitsOf_len .gap ms
  have m3 := limitsOf_len .scale ms
  rw [grid_rows]
  refine Nat.le_trans (flat_len _ (n := 126 * 126) fun x _ => ?_) ?_
  · refine Nat.le_trans (flat_len _ (n := 126) fun y _ => ?_) ?_
    · rw [List.length_map]; omega
    · exact Nat.mul_le_mul_right _ (by omega)
  · exact Nat.le_trans (Nat.mul_le_mul_right _ (show _ ≤ 126 by omega)) (by decide)
theorem td_row (r : Row) : td r.enc = true := by
  obtain ⟨x, y, z, m⟩ := r
  have := td_cell x
  have := td_cell y
  have := td_cell z
  simp [Row.enc, td, tdA, Row.coin, Coin.enc, encR, *]
theorem sem79 {Φ : Nat → Spec} (h77 : Φ 77 = sp77) (h78 : Φ 78 = sp78) : DefSem (b79.sem Φ) 7 3 sp79 := by
  intro as Q q
  unfold sp79 at q
  split at q <;> try exact q.elim
  rename_i s g
  obtain ⟨ms, b, rfl, hs, hl, q⟩ := q
  refine ⟨rfl, ?_⟩
  have i0 : ∀ R : D → Prop, R b.w.enc → ixD s (.int 0) R := fun R h => by rcases hs with rfl | rfl <;> simpa using h
  have i1 : ∀ R : D → Prop, R b.t.enc → ixD s (.int 1) R := fun R h => by rcases hs with rfl | rfl <;> simpa using h
  have i2 : ∀ R : D → Prop, R b.h.enc → ixD s (.int 2) R := fun R h => by rcases hs with rfl | rfl <;> simpa using h
  have m1 := limitsOf_len .hole ms
  have m2 := limitsOf_len .gap ms
  have m3 := limitsOf_len .scale ms
  have hlen := grid_len hl b g
  have big : 2000376 < sizeLine := by rw [sizeLine_eq]; omega
  rw [grid_rows] at hlen q
  have c0 : ∀ R : D → Prop, R (encCs (cellsOf b.w (limitsOf ms .hole))) → ixD s (.int 0) fun x => Φ 77 [.dat (.list (ms.map encM)), .dat (.int 0)] fun y => Φ 78 [.dat x, .dat y] R := fun R h => i0 _ (go h77 ⟨ms, .hole, rfl, rfl, hl, go h78 ⟨b.w, _, rfl, rfl, by omega, h⟩⟩)
  have c1 : ∀ R : D → Prop, R (encCs (cellsOf b.t (limitsOf ms .gap))) → ixD s (.int 1) fun x => Φ 77 [.dat (.list (ms.map encM)), .dat (.int 1)] fun y => Φ 78 [.dat x, .dat y] R := fun R h => i1 _ (go h77 ⟨ms, .gap, rfl, rfl, hl, go h78 ⟨b.t, _, rfl, rfl, by omega, h⟩⟩)
  have c2 : ∀ R : D → Prop, R (encCs (cellsOf b.h (limitsOf ms .scale))) → ixD s (.int 2) fun x => Φ 77 [.dat (.list (ms.map encM)), .dat (.int 2)] fun y => Φ 78 [.dat x, .dat y] R := fun R h => i2 _ (go h77 ⟨ms, .scale, rfl, rfl, hl, go h78 ⟨b.h, _, rfl, rfl, by omega, h⟩⟩)
  generalize cellsOf b.w (limitsOf ms .hole) = xs at *
  generalize cellsOf b.t (limitsOf ms .gap) = ys at *
  generalize cellsOf b.h (limitsOf ms .scale) = zs at *
  simp [b79, initE, tdA]
  intro p
  refine c0 _ ?_
  simp [encCs]
  refine forL_app Cell.enc (fun acc ρ => ∃ u4 u5 u6, ρ = [.dat (.list (ms.map encM)), .dat s, .dat (.bool g), .cell p (.lst acc), u4, u5, u6]) (fun x => ys.flatMap fun y => zs.map fun z => Row.enc ⟨x, y, z, g⟩) (xs := xs) (acc0 := []) (N := 2000376) (by simpa using hlen) (fun x _ acc ρ hN hE K hK => ?_) (fun ρ hE => ?_) ⟨_, _, _, rfl⟩
  · obtain ⟨u4, u5, u6, rfl⟩ := hE
    simp
    refine c1 _ ?_
    simp [encCs]
    refine forL_app Cell.enc (fun acc ρ => ∃ u5 u6, ρ = [.dat (.list (ms.map encM)), .dat s, .dat (.bool g), .cell p (.lst acc), .dat x.enc, u5, u6]) (fun y => zs.map fun z => Row.enc ⟨x, y, z, g⟩) (xs := ys) (acc0 := acc) (N := 2000376) hN (fun y _ acc ρ hN hE K hK => ?_) (fun ρ hE => ?_) ⟨_, _, rfl⟩
    · obtain ⟨u5, u6, rfl⟩ := hE
      simp
      refine c2 _ ?_
      simp [encCs]
      refine forL_app Cell.enc (fun acc ρ => ∃ u6, ρ = [.dat (.list (ms.map encM)), .dat s, .dat (.bool g), .cell p (.lst acc), .dat x.enc, .dat y.enc, u6]) (fun z => [Row.enc ⟨x, y, z, g⟩]) (xs := zs) (acc0 := acc) (N := 2000376) (by rw [← List.map_eq_flatMap]; exact hN) (fun z _ acc ρ hN hE K hK => ?_) (fun ρ hE => ?_) ⟨_, rfl⟩
      · obtain ⟨u6, rfl⟩ := hE
        have t := td_row ⟨x, y, z, g⟩
        have kk := hK [.dat (.list (ms.map encM)), .dat s, .dat (.bool g), .cell p (.lst (acc ++ [Row.enc ⟨x, y, z, g⟩])), .dat x.enc, .dat y.enc, .dat z.enc] ⟨_, rfl⟩
        have e : Row.enc ⟨x, y, z, g⟩ = .tuple [.tuple [x.enc, y.enc, z.enc], .tuple [encR x.s, encR y.s, encR z.s, .bool g]] := rfl
        have ix : ∀ (c : Cell) (R : D → Prop), R (encR c.s) → ixD c.enc (.int 2) R := fun c R h => by simpa [Cell.enc] using h
        rw [e] at t kk
        simp at hN ⊢
        refine ix x _ (ix y _ (ix z _ ⟨t, by omega, kk⟩))
      · obtain ⟨u6, rfl⟩ := hE
        rw [← List.map_eq_flatMap] 
        exact hK _ ⟨_, _, rfl⟩
    · obtain ⟨u5, u6, rfl⟩ := hE
      exact hK _ ⟨_, _, _, rfl⟩
  · obtain ⟨u4, u5, u6, rfl⟩ := hE
    simpa using q
end CC

namespace CC
open PySem PySem.Spec PyProof.Rows L2
theorem end_okP {ms : List Stp} (h : ∀ s ∈ ms, s.ok) (c : Coin) : okP (endOf ms c) := by
  induction ms with
  | nil => exact (⟨by decide, by decide⟩ : okP (-1))
  | cons s r ih =>
    rw [end_cons]
    have hs := h s List.mem_cons_self
    split
    · cases s with
      | cut k l q => exact hs.2
      | mag q => exact hs
    · exact ih fun s hs => h s (List.mem_cons_of_mem _ hs)
theorem limits3 : ∀ ms : List Stp, (limitsOf [ms] .hole).length + (limitsOf [ms] .gap).length + (limitsOf [ms] .scale).length ≤ ms.length
  | [] => by simp [limitsOf]
  | s :: r => by
    have := limits3 r
    simp only [limitsOf, List.flatMap_cons, List.flatMap_nil, List.append_nil, List.filterMap_cons, List.length_cons] at this ⊢
    cases s with
    | mag p => simp [stepLim]; omega
    | cut k l p => cases k <;> simp [stepLim] <;> omega
theorem prod3 {a b c : Nat} (h : a + b + c ≤ 8) : (2 * a + 6) * ((2 * b + 6) * (2 * c + 6)) < 4000 := by
  have : ∀ x y z : Fin 9, x.val + y.val + z.val ≤ 8 → (2 * x.val + 6) * ((2 * y.val + 6) * (2 * z.val + 6)) < 4000 := by decide +kernel
  exact this ⟨a, by omega⟩ ⟨b, by omega⟩ ⟨c, by omega⟩ h
theorem grid_small {ms : List Stp} (h : ms.length ≤ 8) (b : Bnds) (g : Bool) : (grid [ms] b g).length < 4000 := by
  have l1 := cellsOf_len b.w (limitsOf [ms] .hole)
  have l2 := cellsOf_len b.t (limitsOf [ms] .gap)
  have l3 := cellsOf_len b.h (limitsOf [ms] .scale)
  have h3 := limits3 ms
  have := prod3 (Nat.le_trans h3 h)
  rw [← List.length_map (f := Row.enc), grid_rows]
  refine Nat.lt_of_le_of_lt (flat_len _ (n := (2 * (limitsOf [ms] .gap).length + 6) * (2 * (limitsOf [ms] .scale).length + 6)) fun x _ => ?_) (Nat.lt_of_le_of_lt (Nat.mul_le_mul_right _ l1) this)
  refine Nat.le_trans (flat_len _ (n := 2 * (limitsOf [ms] .scale).length + 6) fun y _ => ?_) (Nat.mul_le_mul_right _ l2)
  rw [List.length_map]
  exact l3
theorem endsG_go {ms : List Stp} {b : Bnds} {g : Bool} (hm : okM ms) {R : D → Prop} (h : R (encI (sset (endsG ms b g)))) : biD .ssetI [.list ((endsG ms b g).map .int)] R :=
  sset_places (by unfold endsG; rw [List.length_map]; exact grid_small hm.1 b g) (fun z hz => by
    obtain ⟨r, _, rfl⟩ := List.mem_map.mp hz
    exact end_okP hm.2 _) h
/-- the ends of a grid's rows, by the law -/
theorem comp_ends {ms : List Stp} {b : Bnds} {g : Bool} (hm : okM ms) {f : D → (List D → Prop) → Prop} {R : D → Prop} (hf : ∀ (r : Row) (K : List D → Prop), K [.int (endOf ms r.coin)] → f r.enc K) (h : R (encI (sset (endsG ms b g)))) : compL f ((grid [ms] b g).map Row.enc) [] fun es => biD .ssetI [.list es] R := by
  refine compL_typ Row.enc (fun r => [.int (endOf ms r.coin)]) (fun r _ K hK => hf r K hK) ?_
  rw [List.nil_append, ← List.map_eq_flatMap]
  have := endsG_go (g := g) (b := b) hm h
  unfold endsG at this
  rw [List.map_map] at this
  exact this
def sp87 : Spec
  | [.dat a, .dat k], Q => ∃ ms kd, a = encM ms ∧ k = Knd.enc kd ∧ okM ms ∧ Q (encI (sset (endsG ms (bndsOf kd) kd.m)))
  | _, _ => False
theorem sum1 {ms : List Stp} (h : okM ms) : (([ms] : List (List Stp)).map List.length).sum ≤ 60 := by
  have := h.1
  simp; omega
theorem sem87 {Φ : Nat → Spec} (h56 : Φ 56 = sp56) (h79 : Φ 79 = sp79) : DefSem (b87.sem Φ) 4 2 sp87 := by
  intro as Q q
  unfold sp87 at q
  split at q <;> try exact q.elim
  obtain ⟨ms, k, rfl, rfl, hm, q⟩ := q
  refine ⟨rfl, ?_⟩
  simp [b87, initE, Knd.enc, cut_to]
  refine go h79 ⟨[ms], bndsOf k, rfl, .inl rfl, sum1 hm, ?_⟩
  refine comp_ends hm (fun r K hK => ?_) q
  simp [Row.enc]
  exact go h56 ⟨ms, r.coin, rfl, rfl, hm.l, hK⟩
def bndsPair (x y : Knd) : Bnds := ⟨⟨max x.w.1 y.w.1, some (max x.w.2 y.w.2)⟩, ⟨x.t.1 + y.t.1, some (x.t.2 + y.t.2)⟩, ⟨x.h.1 + y.h.1, some (x.h.2 + y.h.2)⟩⟩
def sp88 : Spec
  | [.dat a, .dat k, .dat l], Q => ∃ ms x y, a = encM ms ∧ k = Knd.enc x ∧ l = Knd.enc y ∧ okM ms ∧ Q (encI (sset (endsG ms (bndsPair x y) (x.m || y.m))))
  | _, _ => False
theorem sem88 {Φ : Nat → Spec} (h56 : Φ 56 = sp56) (h79 : Φ 79 = sp79) : DefSem (b88.sem Φ) 8 3 sp88 := by
  intro as Q q
  unfold sp88 at q
  split at q <;> try exact q.elim
  obtain ⟨ms, x, y, rfl, rfl, rfl, hm, q⟩ := q
  refine ⟨rfl, ?_⟩
  have big : 3 < sizeLine := by rw [sizeLine_eq]; omega
  have e1 : .tuple [.int (max x.w.1 y.w.1), .int (max x.w.2 y.w.2)] = (bndsPair x y).w.enc := rfl
  have e2 : .tuple [.int (x.t.1 + y.t.1), .int (x.t.2 + y.t.2)] = (bndsPair x y).t.enc := rfl
  have e3 : .tuple [.int (x.h.1 + y.h.1), .int (x.h.2 + y.h.2)] = (bndsPair x y).h.enc := rfl
  simp [b88, initE, Knd.enc, encR, if_max, td, tdA, show 1 < sizeLine by omega, show 2 < sizeLine by omega, e1, e2, e3]
  intro p
  split <;> rename_i hx
  · refine go h79 ⟨[ms], bndsPair x y, rfl, .inr rfl, sum1 hm, ?_⟩
    simp [td]
    refine comp_ends hm (fun r K hK => ?_) (by simpa [hx] using q)
    simp [Row.enc]
    exact go h56 ⟨ms, r.coin, rfl, rfl, hm.l, hK⟩
  · refine go h79 ⟨[ms], bndsPair x y, rfl, .inr rfl, sum1 hm, ?_⟩
    simp [td]
    refine comp_ends hm (fun r K hK => ?_) (by simpa [hx] using q)
    simp [Row.enc]
    exact go h56 ⟨ms, r.coin, rfl, rfl, hm.l, hK⟩
/-! ### both -/
theorem dbl_dom {l h : Int} {q : Int × Int} (h0 : 1 ≤ l) : inS ⟨2 * l, true, some (2 * h), true⟩ q ↔ Dom l (some h) q := by
  have h0 : l ≠ 0 := by omega
  show (2 * l * q.2 ≤ 2 * q.1 ∧ 2 * q.1 ≤ 2 * h * q.2) ↔ ((if l = 0 then 0 < q.1 else l * q.2 ≤ q.1) ∧ q.1 ≤ h * q.2)
  rw [if_neg h0, Int.mul_assoc, Int.mul_assoc]
  omega
theorem ends_kind {ms : List Stp} {k : Knd} (hk : k.ok) : endsP ms (boxOf k 0) k.m = sset (endsG ms (bndsOf k) k.m) :=
  ends_same (boxOf_ok hk (Int.le_refl _)) (bndsOf_ok hk) (box_dom hk)
theorem two_max (a b : Int) : max (2 * a) (2 * b) = 2 * max a b := by rw [Int.max_def, Int.max_def]; split <;> split <;> omega
theorem ends_pair {ms : List Stp} {x y : Knd} (hx : x.ok) (hy : y.ok) (g : Bool) : endsP ms (boxPair x y) g = sset (endsG ms (bndsPair x y) g) := by
  obtain ⟨a1, a2, a3, _⟩ := hx
  obtain ⟨b1, b2, b3, _⟩ := hy
  unfold okBd at *
  have e : boxPair x y = ⟨⟨2 * max x.w.1 y.w.1, true, some (2 * max x.w.2 y.w.2), true⟩, ⟨2 * (x.t.1 + y.t.1), true, some (2 * (x.t.2 + y.t.2)), true⟩, ⟨2 * (x.h.1 + y.h.1), true, some (2 * (x.h.2 + y.h.2)), true⟩⟩ := by
    unfold boxPair
    rw [two_max, two_max, Int.mul_add, Int.mul_add, Int.mul_add, Int.mul_add]
  have some2 : ∀ l h : Int, l ≤ h → isSome ⟨2 * l, true, some (2 * h), true⟩ = true := fun l h z => by
    simp [isSome]; omega
  have m1 := Int.max_def x.w.1 y.w.1
  have m2 := Int.max_def x.w.2 y.w.2
  refine ends_same ?_ ?_ fun c => ?_
  · rw [e]
    exact ⟨some2 _ _ (by rw [m1, m2]; split <;> split <;> omega), some2 _ _ (by omega), some2 _ _ (by omega)⟩
  · refine ⟨⟨?_, ?_⟩, ⟨?_, ?_⟩, ⟨?_, ?_⟩⟩
    · show 0 ≤ max x.w.1 y.w.1; rw [m1]; split <;> omega
    · intro h eh; cases eh; show max x.w.1 y.w.1 ≤ max x.w.2 y.w.2 ∧ 0 < max x.w.2 y.w.2; rw [m1, m2]; split <;> split <;> omega
    · show 0 ≤ x.t.1 + y.t.1; omega
    · intro h eh; cases eh; show x.t.1 + y.t.1 ≤ x.t.2 + y.t.2 ∧ 0 < x.t.2 + y.t.2; omega
    · show 0 ≤ x.h.1 + y.h.1; omega
    · intro h eh; cases eh; show x.h.1 + y.h.1 ≤ x.h.2 + y.h.2 ∧ 0 < x.h.2 + y.h.2; omega
  · rw [e]
    exact and_congr (dbl_dom (by rw [m1]; split <;> omega)) (and_congr (dbl_dom (by omega)) (dbl_dom (by omega)))
def strays' (ks : List Knd) (ms : List Stp) (e : Knd → List Int) : List Nat := (List.range ks.length).filter fun i => match ks[i]? with
  | some k => e k != [k.p]
  | none => false
theorem filter_snd {α : Type} (p : α × Nat → Bool) (q : Nat → Bool) : ∀ (xs : List (α × Nat)), (∀ x ∈ xs, p x = q x.2) → (xs.filter p).map (·.2) = (xs.map (·.2)).filter q
  | [], _ => rfl
  | x :: r, h => by
    have h1 := h x List.mem_cons_self
    have h2 := filter_snd p q r fun y hy => h y (List.mem_cons_of_mem _ hy)
    rw [List.map_cons, List.filter_cons, List.filter_cons, h1]
    cases q x.2 <;> simp [h2]
theorem strays_eq (ks : List Knd) (ms : List Stp) (w : Int) : strays ks ms w = strays' ks ms fun k => endsP ms (boxOf k w) k.m := by
  unfold strays strays'
  rw [filter_snd _ (fun i => match ks[i]? with
    | some k => endsP ms (boxOf k w) k.m != [k.p]
    | none => false)]
  · rw [List.zipIdx_map_snd, List.range_eq_range']
  · rintro ⟨k, i⟩ h
    have := List.mem_zipIdx_iff_getElem?.mp h
    simp only at this ⊢
    rw [this]
section
variable (p : Plan) (k : Knd) (ks : List Knd) (ms : List Stp) (R : D → Prop)
@[simp] theorem ixD_p0 : ixD p.enc (.int 0) R = R (encKs p.ks) := by simp [Plan.enc]
@[simp] theorem ixD_p1 : ixD p.enc (.int 1) R = R (encM p.ms) := by simp [Plan.enc]
@[simp] theorem ixD_k3 : ixD k.enc (.int 3) R = R (.bool k.m) := by simp [Knd.enc]
@[simp] theorem ixD_k4 : ixD k.enc (.int 4) R = R (.int k.p) := by simp [Knd.enc]
@[simp] theorem len_ks : biD .len [encKs ks] R = R (.int ks.length) := by simp [encKs]
@[simp] theorem len_M : biD .len [encM ms] R = R (.int ms.length) := by simp [encM]
theorem ixD_ks {ks : List Knd} {i : Nat} (h : i < ks.length) (R : D → Prop) : ixD (encKs ks) (.int (i : Int)) R = R ks[i].enc := by simp [encKs, atI_map Knd.enc h]
theorem ixD_ms {ms : List Stp} {i : Nat} (h : i < ms.length) (R : D → Prop) : ixD (encM ms) (.int (i : Int)) R = R ms[i].enc := by simp [encM, atI_map Stp.enc h]
end
theorem strays_law {p : Plan} (hp : p.ok) : strays' p.ks p.ms (fun k => sset (endsG p.ms (bndsOf k) k.m)) = strays p.ks p.ms 0 := by
  rw [strays_eq]
  unfold strays'
  refine List.filter_congr fun i hi => ?_
  cases e : p.ks[i]? with
  | none => rfl
  | some k => simp only; rw [ends_kind (hp.1.2 k (List.mem_of_getElem? e))]
theorem listN (ns : List Nat) : (ns.flatMap fun (n : Nat) => [PyData.int (n : Int)]) = ns.map fun (n : Nat) => PyData.int (n : Int) := by rw [← List.map_eq_flatMap]
theorem sem89 {Φ : Nat → Spec} (h23 : Φ 23 = sp23) (h24 : Φ 24 = sp24) (h28 : Φ 28 = sp28) (h84 : Φ 84 = sp84) (h85 : Φ 85 = sp85) (h86 : Φ 86 = sp86) (h87 : Φ 87 = sp87) (h88 : Φ 88 = sp88) : DefSem (b89.sem Φ) 10 1 lawS := by
  rintro as Q ⟨ns, rfl, hns, q⟩
  refine ⟨rfl, ?_⟩
  simp only [b89, Sms.sem, Sm.sem]
  simp [initE]
  generalize hM : (if (if (ns.length : Int) + 2 < 8 then (ns.length : Int) + 2 else 8) > 3 then (if (ns.length : Int) + 2 < 8 then (ns.length : Int) + 2 else 8) else 3) = M
  have hb : 0 ≤ M ∧ M ≤ 8 := by rw [← hM]; split <;> split <;> omega
  refine ⟨⟨by omega, by omega⟩, ?_⟩
  obtain ⟨N, rfl⟩ := Int.eq_ofNat_of_zero_le hb.1
  refine forL_range N (fun _ ρ => ∃ u1 u2 u3 u4 u5 u7 u8 u9, ρ = [.dat (.list (ns.map .int)), u1, u2, u3, u4, u5, .un, u7, u8, u9]) (fun i ρ hi hI k hk => ?_) (fun ρ hI => ?_) _ ⟨_, _, _, _, _, _, _, _, rfl⟩
  · obtain ⟨u1, u2, u3, u4, u5, u7, u8, u9, rfl⟩ := hI
    simp
    refine go h23 ⟨ns, rfl, ⟨by omega, by omega⟩, fun x y hxy => ?_⟩
    simp
    refine ⟨hxy, fun a => ?_⟩
    refine go h28 ⟨⟨⟨by decide, by decide⟩, ⟨by decide, by decide⟩⟩, fun p hp _ _ => ?_⟩
    simp
    refine ⟨⟨by omega, by omega⟩, ?_⟩
    rw [rngL_nat]
    refine compL_typ (fun (n : Nat) => PyData.int (n : Int)) (fun i => if (match p.ks[i]? with
      | some k => sset (endsG p.ms (bndsOf k) k.m) != [k.p]
      | none => false) = true then [.int (i : Int)] else []) (fun j hj K hK => ?_) ?_
    · have hj := List.mem_range.mp hj
      simp only [ixD_ks hj]
      refine go h87 ⟨_, _, rfl, rfl, hp.2, ?_⟩
      rw [List.getElem?_eq_getElem hj] at hK
      generalize p.ks[j] = c at *
      simp at hK ⊢
      have f : PyData.list [.int c.p] = encI [c.p] := rfl
      rw [f]
      refine ⟨eqOk_I _ _, ?_⟩
      rw [eqv_encI]
      by_cases e : sset (endsG p.ms (bndsOf c) c.m) = [c.p] <;> simpa [e] using hK
    · rw [List.nil_append, flatMap_if]
      have hd : (((List.range p.ks.length).filter fun i => match p.ks[i]? with
        | some k => sset (endsG p.ms (bndsOf k) k.m) != [k.p]
        | none => false).map fun (n : Nat) => PyData.int (n : Int)) = (strays p.ks p.ms 0).map fun (n : Nat) => PyData.int (n : Int) := by
        rw [← strays_law hp]; rfl
      rw [hd]
      simp only [show ∀ l : List Nat, PyData.list (l.map fun (n : Nat) => PyData.int (n : Int)) = encN l from fun _ => rfl]
      refine go h85 ⟨p, rfl, hp, go h84 ⟨p, rfl, hp, ?_⟩⟩
      have h0 : PyData.list [] = encN [] := rfl
      have h1 : PyData.eqvAll ((strays p.ks p.ms 0).map fun (n : Nat) => PyData.int (n : Int)) [] = (strays p.ks p.ms 0).isEmpty := by cases strays p.ks p.ms 0 <;> simp
      simp [eqv_N, eqOk_N, h1]
      refine ⟨h0 ▸ eqOk_N _ _, ⟨by omega, by omega⟩, ?_⟩
      rw [← rngL_nat]
      refine forL_range p.ks.length (fun _ ρ => ∃ u8 u9, ρ = [.dat (.list (ns.map .int)), .dat (.int (i : Int)), .cell a .bag, .dat p.enc, .dat (.int p.ks.length), .dat (encN (strays p.ks p.ms 0)), .un, .dat (.bool (strays p.ks p.ms 0).isEmpty), u8, u9]) (fun j ρ hj hI K hK => ?_) (fun ρ hI => ?_) _ ⟨_, _, rfl⟩
      · obtain ⟨u8, u9, rfl⟩ := hI
        simp
        refine go h24 ⟨⟨by omega, by omega⟩, fun r r0 r1 => ?_⟩
        obtain ⟨r, rfl⟩ := Int.eq_ofNat_of_zero_le r0
        have hr : r < p.ks.length := by omega
        have ej : p.ks[((j : Int)).toNat]? = some p.ks[j] := List.getElem?_eq_getElem hj
        have er : p.ks[((r : Int)).toNat]? = some p.ks[r] := List.getElem?_eq_getElem hr
        have kj := hp.1.2 _ (List.getElem_mem hj)
        have kr := hp.1.2 _ (List.getElem_mem hr)
        refine go h86 ⟨p, _, _, rfl, hp, by omega, by omega, ej, er, ?_⟩
        simp only [ixD_ks hj, ixD_ks hr]
        refine go h88 ⟨_, _, _, rfl, rfl, rfl, hp.2, ?_⟩
        rw [ends_pair kj kr]
        refine ⟨eqOk_I _ _, ?_⟩
        rw [eqv_encI]
        simp
        refine go h86 ⟨p, _, _, rfl, hp, by omega, by omega, er, ej, ?_⟩
        refine go h86 ⟨p, _, _, rfl, hp, by omega, by omega, ej, er, ?_⟩
        have sym : boxPair p.ks[r] p.ks[j] = boxPair p.ks[j] p.ks[r] := by
          unfold boxPair
          simp [Int.max_comm, Int.add_comm]
        rw [sym, Bool.or_comm]
        refine ⟨eqOk_I _ _, ?_⟩
        rw [eqv_encI]
        simp
        exact hK _ ⟨_, _, rfl⟩
      · obtain ⟨u8, u9, rfl⟩ := hI
        exact hk _ ⟨_, _, _, _, _, _, _, _, rfl⟩
  · obtain ⟨u1, u2, u3, u4, u5, u7, u8, u9, rfl⟩ := hI
    simpa using q
end CC

namespace CC
open PySem PySem.Spec PyProof.Rows L2
/-! ### what two spans have in common -/
def mLo (a b : Span) : Bool := decide (a.lo < b.lo) || (decide (b.lo = a.lo) && !b.hl)
def mHi (a b : Span) : Bool := match b.hi with
  | none => false
  | some h => match a.hi with
    | none => true
    | some g => decide (h < g) || (decide (h = g) && !b.hh)
def meet (a b : Span) : Span := ⟨if mLo a b then b.lo else a.lo, if mLo a b then b.hl else a.hl, if mHi a b then b.hi else a.hi, if mHi a b then b.hh else a.hh⟩
def geL (lo : Int) (hl : Bool) (r : Int × Int) : Prop := if hl then lo * r.2 ≤ 2 * r.1 else lo * r.2 < 2 * r.1
def leH (hi : Option Int) (hh : Bool) (r : Int × Int) : Prop := match hi with
  | none => True
  | some h => if hh then 2 * r.1 ≤ h * r.2 else 2 * r.1 < h * r.2
theorem inS_eq (s : Span) (r : Int × Int) : inS s r = (geL s.lo s.hl r ∧ leH s.hi s.hh r) := rfl
theorem meet_lo {a b : Span} {r : Int × Int} (hd : 0 < r.2) : geL (meet a b).lo (meet a b).hl r ↔ geL a.lo a.hl r ∧ geL b.lo b.hl r := by
  obtain ⟨l1, b1, h1, c1⟩ := a
  obtain ⟨l2, b2, h2, c2⟩ := b
  simp only [meet, mLo]
  by_cases h : l1 < l2
  · have := mul_lt' h hd
    simp only [h, decide_true, Bool.true_or, if_true, geL]
    cases b1 <;> cases b2 <;> simp <;> omega
  · by_cases e : l2 = l1
    · subst e
      cases b1 <;> cases b2 <;> simp [geL] <;> omega
    · have := mul_lt' (show l2 < l1 by omega) hd
      simp only [h, e, decide_false, Bool.false_or, Bool.false_and, geL]
      cases b1 <;> cases b2 <;> simp <;> omega
theorem meet_hi {a b : Span} {r : Int × Int} (hd : 0 < r.2) : leH (meet a b).hi (meet a b).hh r ↔ leH a.hi a.hh r ∧ leH b.hi b.hh r := by
  obtain ⟨l1, b1, h1, c1⟩ := a
  obtain ⟨l2, b2, h2, c2⟩ := b
  simp only [meet, mHi]
  cases h2 with
  | none => simp [leH]
  | some h =>
    cases h1 with
    | none => simp [leH]
    | some g =>
      by_cases q : h < g
      · have := mul_lt' q hd
        simp only [q, decide_true, Bool.true_or, if_true, leH]
        cases c1 <;> cases c2 <;> simp <;> omega
      · by_cases e : h = g
        · subst e
          cases c1 <;> cases c2 <;> simp [leH] <;> omega
        · have := mul_lt' (show g < h by omega) hd
          simp only [q, e, decide_false, Bool.false_or, Bool.false_and, leH]
          cases c1 <;> cases c2 <;> simp <;> omega
theorem meet_in {a b : Span} {r : Int × Int} (hd : 0 < r.2) : inS (meet a b) r ↔ inS a r ∧ inS b r := by
  rw [inS_eq, inS_eq, inS_eq, meet_lo hd, meet_hi hd]
  constructor
  · rintro ⟨⟨a, b⟩, c, d⟩; exact ⟨⟨a, c⟩, b, d⟩
  · rintro ⟨⟨a, b⟩, c, d⟩; exact ⟨⟨a, c⟩, b, d⟩
def meetB (a b : Box) : Box := ⟨meet a.w b.w, meet a.t b.t, meet a.h b.h⟩
theorem meetB_in {a b : Box} {c : Coin} (h : c.pos) : inB (meetB a b) c ↔ inB a c ∧ inB b c := by
  unfold inB meetB
  rw [meet_in h.1, meet_in h.2.1, meet_in h.2.2]
  constructor
  · rintro ⟨⟨a, b⟩, ⟨c, d⟩, e, f⟩; exact ⟨⟨a, c, e⟩, b, d, f⟩
  · rintro ⟨⟨a, c, e⟩, b, d, f⟩; exact ⟨⟨a, b⟩, ⟨c, d⟩, e, f⟩
/-! ### a coin, in lowest terms -/
theorem inS_scale {s : Span} {a b g : Int} (hg : 0 < g) (h : inS s (a * g, b * g)) : inS s (a, b) := by
  obtain ⟨lo, hl, hi, hh⟩ := s
  rw [inS_eq] at h ⊢
  have le : ∀ x y : Int, x * g ≤ y * g → x ≤ y := fun x y z => Int.le_of_mul_le_mul_right z hg
  have lt : ∀ x y : Int, x * g < y * g → x < y := fun x y z => Int.lt_of_mul_lt_mul_right z (by omega)
  refine ⟨?_, ?_⟩
  · have h1 := h.1
    simp only [geL, ← Int.mul_assoc] at h1 ⊢
    cases hl <;> simp only [if_true, if_false, Bool.false_eq_true] at h1 ⊢
    · exact lt _ _ h1
    · exact le _ _ h1
  · have h1 := h.2
    cases hi with
    | none => trivial
    | some x =>
      simp only [leH, ← Int.mul_assoc] at h1 ⊢
      cases hh <;> simp only [if_true, if_false, Bool.false_eq_true] at h1 ⊢
      · exact lt _ _ h1
      · exact le _ _ h1
def lowN (s : Span) : Int × Int := low (numIn s).1 (numIn s).2
theorem lowN_in {s : Span} (h : isSome s = true) : inS s (lowN s) ∧ 0 < (lowN s).2 := by
  obtain ⟨h1, h2⟩ := numIn_in h
  obtain ⟨e1, e2⟩ := low_mul (numIn s).1 h2
  have h3 : inS s ((low (numIn s).1 (numIn s).2).1 * (Int.gcd (numIn s).1 (numIn s).2 : Int), (low (numIn s).1 (numIn s).2).2 * (Int.gcd (numIn s).1 (numIn s).2 : Int)) := by rw [e1, e2]; exact h1
  exact ⟨inS_scale (gcd_pos (a := (numIn s).1) h2) h3, low_pos _ h2⟩
/-- bounds that are not too great, above 0 -/
def okS (s : Span) : Prop := 0 ≤ s.lo ∧ s.lo ≤ 4000 ∧ (s.hl = true → 0 < s.lo) ∧ ∀ h, s.hi = some h → h ≤ 4000
def okSB (b : Box) : Prop := okS b.w ∧ okS b.t ∧ okS b.h
theorem lowN_ok {s : Span} (h : isSome s = true) (ho : okS s) : okR (lowN s) := by
  obtain ⟨lo, hl, hi, hh⟩ := s
  obtain ⟨o1, o2, o3, o4⟩ := ho
  unfold isSome at h
  simp only at *
  have two : (1 : Int) ≤ 2 ∧ (2 : Int) ≤ 1000000 := ⟨by decide, by decide⟩
  have four : (1 : Int) ≤ 4 ∧ (4 : Int) ≤ 1000000 := ⟨by decide, by decide⟩
  cases hl with
  | true =>
    have := o3 rfl
    exact low_ok (a := lo) (b := 2) ⟨by omega, by omega⟩ two
  | false =>
    cases hi with
    | none => exact low_ok (a := lo + 2) (b := 2) ⟨by omega, by omega⟩ two
    | some x =>
      have := o4 x rfl
      simp only [Bool.false_and, Bool.and_false, Bool.or_false, decide_eq_true_eq] at h
      exact low_ok (a := lo + x) (b := 4) ⟨by omega, by omega⟩ four
theorem meet_S {a b : Span} (ha : okS a) (hb : okS b) : okS (meet a b) := by
  obtain ⟨a1, a2, a3, a4⟩ := ha
  obtain ⟨b1, b2, b3, b4⟩ := hb
  unfold meet okS
  simp only
  cases mLo a b <;> cases mHi a b <;> simp <;> first | exact ⟨a1, a2, a3, a4⟩ | exact ⟨a1, a2, a3, b4⟩ | exact ⟨b1, b2, b3, a4⟩ | exact ⟨b1, b2, b3, b4⟩
theorem meetB_S {a b : Box} (ha : okSB a) (hb : okSB b) : okSB (meetB a b) := ⟨meet_S ha.1 hb.1, meet_S ha.2.1 hb.2.1, meet_S ha.2.2 hb.2.2⟩
theorem cut_S {s : Span} {l : Int} (h : okS s) (hl : 1 ≤ l ∧ l ≤ 4000) : okS (upTo s l) ∧ okS (over s l) ∧ okS (fromOn s l) ∧ okS (under s l) := by
  obtain ⟨lo, b, hi, c⟩ := s
  obtain ⟨h1, h2, h3, h4⟩ := h
  simp only at h1 h2 h3 h4
  refine ⟨?_, ?_, ?_, ?_⟩
  · unfold upTo
    cases hi with
    | none => exact ⟨h1, h2, h3, fun x e => by cases e; exact hl.2⟩
    | some x =>
      simp only
      split
      · exact ⟨h1, h2, h3, fun x e => by cases e; exact hl.2⟩
      · exact ⟨h1, h2, h3, h4⟩
  · unfold over
    split
    · exact ⟨by show 0 ≤ l; omega, hl.2, (fun z => nomatch z), h4⟩
    · exact ⟨h1, h2, h3, h4⟩
  · unfold fromOn
    split
    · exact ⟨by show 0 ≤ l; omega, hl.2, fun _ => by show 0 < l; omega, h4⟩
    · exact ⟨h1, h2, h3, h4⟩
  · unfold under
    cases hi with
    | none => exact ⟨h1, h2, h3, fun x e => by cases e; exact hl.2⟩
    | some x =>
      simp only
      split
      · exact ⟨h1, h2, h3, fun x e => by cases e; exact hl.2⟩
      · exact ⟨h1, h2, h3, h4⟩
theorem split_S {s : Stp} {b b1 : Box} {m : Bool} (hs : s.ok) (hb : okSB b) (h : (splitB s b m).1 = some b1 ∨ (splitB s b m).2 = some b1) : okSB b1 := by
  have goS : ∀ (k : Kd) (sp : Span), okS sp → some1 b k sp = some b1 → okSB b1 := fun k sp q h => by
    unfold some1 at h
    split at h
    · cases h
      cases k
      · exact ⟨q, hb.2.1, hb.2.2⟩
      · exact ⟨hb.1, q, hb.2.2⟩
      · exact ⟨hb.1, hb.2.1, q⟩
    · cases h
  cases s with
  | mag p => cases m <;> simp [splitB] at h <;> (subst h; exact hb)
  | cut k l p =>
    have hl : 1 ≤ 2 * l ∧ 2 * l ≤ 4000 := ⟨by have := hs.1.1; omega, by have := hs.1.2; omega⟩
    cases k
    · rcases h with h | h
      · exact goS _ _ (cut_S hb.1 hl).1 h
      · exact goS _ _ (cut_S hb.1 hl).2.1 h
    · rcases h with h | h
      · exact goS _ _ (cut_S hb.2.1 hl).1 h
      · exact goS _ _ (cut_S hb.2.1 hl).2.1 h
    · rcases h with h | h
      · exact goS _ _ (cut_S hb.2.2 hl).2.2.1 h
      · exact goS _ _ (cut_S hb.2.2 hl).2.2.2 h
theorem pieces_S : ∀ (ms : List Stp) (b : Box) (m : Bool) (n : Nat) (p : Piece), (∀ s ∈ ms, s.ok) → okSB b → p ∈ pieces ms b m n → okSB p.box
  | [], b, m, n, p, _, hb, hp => by
    simp only [pieces, List.mem_singleton] at hp
    subst hp; exact hb
  | s :: r, b, m, n, p, hs, hb, hp => by
    simp only [pieces, List.mem_append] at hp
    have h0 := hs s List.mem_cons_self
    rcases hp with hp | hp
    · cases e : (splitB s b m).1 with
      | none => rw [e] at hp; cases hp
      | some b1 => rw [e] at hp; rw [List.mem_singleton.mp hp]; exact split_S h0 hb (.inl e)
    · cases e : (splitB s b m).2 with
      | none => rw [e] at hp; cases hp
      | some b2 => rw [e] at hp; exact pieces_S r b2 m (n + 1) p (fun s h => hs s (List.mem_cons_of_mem _ h)) (split_S h0 hb (.inr e)) hp
/-! ### lists of pieces that tell where coins come -/
structure Tells (A : List Piece) (ms : List Stp) (dom : Coin → Prop) : Prop where
  cover : ∀ c : Coin, c.pos → dom c → ∃ p ∈ A, p.m = c.m ∧ inB p.box c
  sound : ∀ p ∈ A, ∀ c : Coin, c.pos → c.m = p.m → inB p.box c → dom c ∧ p.pl = endOf ms c ∧ p.ix = idx ms c
  fine : ∀ p ∈ A, okB p.box ∧ okSB p.box
theorem tells_of {ms : List Stp} {b : Box} {m : Bool} (hm : ∀ s ∈ ms, s.ok) (hb : okB b) (hs : okSB b) : Tells (pieces ms b m 0) ms fun c => c.m = m ∧ inB b c where
  cover := fun c hc ⟨e, h⟩ => by
    subst e
    obtain ⟨p, hp, h2⟩ := pieces_in ms b 0 c hc h
    exact ⟨p, hp, pieces_m _ _ _ _ _ hp, h2⟩
  sound := fun p hp c hc e h => by
    have em := pieces_m _ _ _ _ _ hp
    obtain ⟨h1, h2, h3⟩ := pieces_out ms b m 0 p c hc (e.trans em) hp h
    exact ⟨⟨e.trans em, h1⟩, h3, by rw [h2]; cases idx ms c <;> simp⟩
  fine := fun p hp => ⟨pieces_ok _ _ _ _ _ hb hp, pieces_S _ _ _ _ _ hm hs hp⟩
theorem Tells.append {A B : List Piece} {ms : List Stp} {d e : Coin → Prop} (h : Tells A ms d) (k : Tells B ms e) : Tells (A ++ B) ms fun c => d c ∨ e c where
  cover := fun c hc hd => by
    rcases hd with hd | hd
    · obtain ⟨p, hp, q⟩ := h.cover c hc hd
      exact ⟨p, List.mem_append_left _ hp, q⟩
    · obtain ⟨p, hp, q⟩ := k.cover c hc hd
      exact ⟨p, List.mem_append_right _ hp, q⟩
  sound := fun p hp c hc e hb => by
    rcases List.mem_append.mp hp with hp | hp
    · have := h.sound p hp c hc e hb
      exact ⟨.inl this.1, this.2⟩
    · have := k.sound p hp c hc e hb
      exact ⟨.inr this.1, this.2⟩
  fine := fun p hp => (List.mem_append.mp hp).elim (h.fine p) (k.fine p)
theorem Tells.iff {A : List Piece} {ms : List Stp} {d e : Coin → Prop} (h : Tells A ms d) (k : ∀ c : Coin, c.pos → (d c ↔ e c)) : Tells A ms e where
  cover := fun c hc hd => h.cover c hc ((k c hc).mpr hd)
  sound := fun p hp c hc q hb => by
    have := h.sound p hp c hc q hb
    exact ⟨(k c hc).mp this.1, this.2⟩
  fine := h.fine
def coinOf (b : Box) (m : Bool) : Coin := ⟨lowN b.w, lowN b.t, lowN b.h, m⟩
theorem coinOf_in {b : Box} {m : Bool} (h : okB b) : inB b (coinOf b m) ∧ (coinOf b m).pos := ⟨⟨(lowN_in h.1).1, (lowN_in h.2.1).1, (lowN_in h.2.2).1⟩, (lowN_in h.1).2, (lowN_in h.2.1).2, (lowN_in h.2.2).2⟩
theorem coinOf_ok {b : Box} {m : Bool} (h : okB b) (hs : okSB b) : (coinOf b m).ok := ⟨lowN_ok h.1 hs.1, lowN_ok h.2.1 hs.2.1, lowN_ok h.2.2 hs.2.2⟩
def okb (b : Box) : Bool := isSome b.w && (isSome b.t && isSome b.h)
theorem okb_iff {b : Box} : okb b = true ↔ okB b := by simp [okb, okB]
def pairC (p q : Piece) : Option Coin := if (p.m == q.m && (p.pl != q.pl && okb (meetB p.box q.box))) = true then some (coinOf (meetB p.box q.box) p.m) else none
def partOf (A B : List Piece) : Option Coin := A.findSome? fun p => B.findSome? fun q => pairC p q
theorem pairC_some {p q : Piece} {c : Coin} (h : pairC p q = some c) : p.m = q.m ∧ p.pl ≠ q.pl ∧ okB (meetB p.box q.box) ∧ c = coinOf (meetB p.box q.box) p.m := by
  unfold pairC at h
  split at h
  · rename_i z
    cases h
    simp only [Bool.and_eq_true, beq_iff_eq, bne_iff_ne, ne_eq] at z
    exact ⟨z.1, z.2.1, okb_iff.mp z.2.2, rfl⟩
  · cases h
theorem part_some {A B : List Piece} {one two : List Stp} {dom : Coin → Prop} (hA : Tells A one dom) (hB : Tells B two dom) {c : Coin} (h : partOf A B = some c) : c.ok ∧ c.pos ∧ dom c ∧ endOf one c ≠ endOf two c := by
  obtain ⟨p, hp, h⟩ := List.exists_of_findSome?_eq_some h
  obtain ⟨q, hq, h⟩ := List.exists_of_findSome?_eq_some h
  obtain ⟨h1, h2, h3, rfl⟩ := pairC_some h
  obtain ⟨i1, i2⟩ := coinOf_in (m := p.m) h3
  obtain ⟨j1, j2⟩ := (meetB_in i2).mp i1
  obtain ⟨d1, d2, _⟩ := hA.sound p hp _ i2 rfl j1
  obtain ⟨e1, e2, _⟩ := hB.sound q hq _ i2 h1 j2
  exact ⟨coinOf_ok h3 (meetB_S (hA.fine p hp).2 (hB.fine q hq).2), i2, d1, by rw [← d2, ← e2]; exact h2⟩
theorem part_none {A B : List Piece} {one two : List Stp} {dom : Coin → Prop} (hA : Tells A one dom) (hB : Tells B two dom) : partOf A B = none ↔ ∀ c : Coin, c.pos → dom c → endOf one c = endOf two c := by
  constructor
  · intro h c hc hd
    obtain ⟨p, hp, pm, pi⟩ := hA.cover c hc hd
    obtain ⟨q, hq, qm, qi⟩ := hB.cover c hc hd
    have := List.findSome?_eq_none_iff.mp h p hp
    have := List.findSome?_eq_none_iff.mp this q hq
    rw [← (hA.sound p hp c hc pm.symm pi).2.1, ← (hB.sound q hq c hc qm.symm qi).2.1]
    by_cases e : p.pl = q.pl
    · exact e
    · exfalso
      have i := (meetB_in (a := p.box) (b := q.box) hc).mpr ⟨pi, qi⟩
      have ok : okB (meetB p.box q.box) := ⟨isSome_of hc.1 i.1, isSome_of hc.2.1 i.2.1, isSome_of hc.2.2 i.2.2⟩
      unfold pairC at this
      rw [if_pos] at this
      · cases this
      · simp only [Bool.and_eq_true, beq_iff_eq, bne_iff_ne, ne_eq]
        exact ⟨pm.trans qm.symm, e, okb_iff.mpr ok⟩
  · intro h
    cases e : partOf A B with
    | none => rfl
    | some c =>
      obtain ⟨_, h2, h3, h4⟩ := part_some hA hB e
      exact absurd (h c h2 h3) h4
/-! ### all coins whatever -/
def allS : Span := ⟨0, false, none, false⟩
def allB : Box := ⟨allS, allS, allS⟩
def allPs (ms : List Stp) : List Piece := pieces ms allB false 0 ++ pieces ms allB true 0
def bndsAll : Bnds := ⟨⟨0, none⟩, ⟨0, none⟩, ⟨0, none⟩⟩
theorem all_dom (c : Coin) : inB allB c ↔ DomC bndsAll c := by
  have : ∀ r : Int × Int, inS allS r ↔ Dom 0 none r := fun r => by
    show (0 * r.2 < 2 * r.1 ∧ True) ↔ ((if (0 : Int) = 0 then 0 < r.1 else 0 * r.2 ≤ r.1) ∧ True)
    rw [if_pos rfl, Int.zero_mul]
    constructor <;> (rintro ⟨h, -⟩; exact ⟨by omega, trivial⟩)
  exact and_congr (this _) (and_congr (this _) (this _))
theorem bndsAll_ok : bndsAll.ok := by
  have : (⟨0, none⟩ : Bnd).ok := ⟨by decide, fun h e => by cases e⟩
  exact ⟨this, this, this⟩
theorem allS_ok : isSome allS = true ∧ okS allS := ⟨rfl, by decide, by decide, (fun z => nomatch z), fun h e => by cases e⟩
theorem tells_all {ms : List Stp} (hm : ∀ s ∈ ms, s.ok) : Tells (allPs ms) ms fun c => DomC bndsAll c := by
  have hb : okB allB := ⟨allS_ok.1, allS_ok.1, allS_ok.1⟩
  have hs : okSB allB := ⟨allS_ok.2, allS_ok.2, allS_ok.2⟩
  refine ((tells_of (m := false) hm hb hs).append (tells_of (m := true) hm hb hs)).iff fun c _ => ?_
  rw [← all_dom]
  cases c.m <;> simp
def rowsAll (ms : List (List Stp)) : List Row := grid ms bndsAll false ++ grid ms bndsAll true
theorem rows_all {ms : List (List Stp)} (P : Coin → Prop) (hP : ∀ c q : Coin, c.m = q.m → (∀ m ∈ ms, ∀ s ∈ m, takes s c = takes s q) → (P c ↔ P q)) : (∃ r ∈ rowsAll ms, P r.coin) ↔ ∃ c : Coin, c.pos ∧ DomC bndsAll c ∧ P c := by
  constructor
  · rintro ⟨r, hr, h⟩
    rcases List.mem_append.mp hr with hr | hr
    · obtain ⟨h1, h2, _⟩ := grid_mem bndsAll_ok hr
      exact ⟨_, h1, h2, h⟩
    · obtain ⟨h1, h2, _⟩ := grid_mem bndsAll_ok hr
      exact ⟨_, h1, h2, h⟩
  · rintro ⟨c, h1, h2, h⟩
    obtain ⟨r, hr, hs⟩ := grid_cover (ms := ms) bndsAll_ok h1 h2
    refine ⟨r, ?_, (hP c r.coin ?_ hs).mp h⟩
    · unfold rowsAll
      cases e : c.m
      · exact List.mem_append_left _ (by rw [e] at hr; exact hr)
      · exact List.mem_append_right _ (by rw [e] at hr; exact hr)
    · exact (grid_mem bndsAll_ok hr).2.2.symm
theorem rows_kind {ms : List (List Stp)} {b : Bnds} (hb : b.ok) {g : Bool} (P : Coin → Prop) (hP : ∀ c q : Coin, c.m = q.m → (∀ m ∈ ms, ∀ s ∈ m, takes s c = takes s q) → (P c ↔ P q)) : (∃ r ∈ grid ms b g, P r.coin) ↔ ∃ c : Coin, c.pos ∧ c.m = g ∧ DomC b c ∧ P c := by
  constructor
  · rintro ⟨r, hr, h⟩
    obtain ⟨h1, h2, h3⟩ := grid_mem hb hr
    exact ⟨_, h1, h3, h2, h⟩
  · rintro ⟨c, h1, rfl, h2, h⟩
    obtain ⟨r, hr, hs⟩ := grid_cover (ms := ms) hb h1 h2
    exact ⟨r, hr, (hP c r.coin (grid_mem hb hr).2.2.symm hs).mp h⟩
end CC

namespace CC
open PySem PySem.Spec PyProof.Rows L2
def sp3 : Spec
  | [.dat (.int a), .dat (.int b)], Q => (0 < b ∧ b.natAbs.log2 < 9000) ∧ Q (encR (low a b))
  | _, _ => False
theorem sem3 {Φ : Nat → Spec} (h2 : Φ 2 = sp2) : DefSem (b3.sem Φ) 3 2 sp3 := by
  intro as Q q
  unfold sp3 at q
  split at q <;> try exact q.elim
  rename_i a b
  obtain ⟨⟨hb, hb2⟩, q⟩ := q
  refine ⟨rfl, ?_⟩
  have e : (Int.gcd (if a < 0 then -a else a) b : Int) = (Int.gcd a b : Int) := by rw [abs_if]; simp [Int.gcd]
  have c : ∀ z, CDivW z (Int.gcd a b : Int) := fun z => ⟨gcd_pos hb, by
    have h1 := gcd_le (a := a) hb
    have h2 := gcd_pos (a := a) hb
    have h3 := (Nat.log2_lt (by omega : b.natAbs ≠ 0)).mp hb2
    exact (Nat.log2_lt (by omega)).mpr (by omega)⟩
  simp [b3, initE]
  refine go h2 ⟨⟨by split <;> omega, by omega⟩, ?_⟩
  rw [e]
  simp [c]
  exact q
@[simp] theorem encOi_none : Span.enc.encO' none = .none := rfl
@[simp] theorem encOi_some (n : Int) : Span.enc.encO' (some n) = .int n := rfl
def sp100 : Spec
  | [.dat a, .dat b], Q => ∃ s t : Span, a = s.enc ∧ b = t.enc ∧ Q (meet s t).enc
  | _, _ => False
theorem sem100 {Φ : Nat → Spec} : DefSem (b100.sem Φ) 7 2 sp100 := by
  intro as Q q
  unfold sp100 at q
  split at q <;> try exact q.elim
  obtain ⟨⟨l1, b1, h1, c1⟩, ⟨l2, b2, h2, c2⟩, rfl, rfl, q⟩ := q
  refine ⟨rfl, ?_⟩
  by_cases x1 : l1 < l2
  · cases h2 with
    | none => simpa [b100, initE, Span.enc, meet, mLo, mHi, cut_to, cut_from, x1] using q
    | some h =>
      cases h1 with
      | none => simpa [b100, initE, Span.enc, meet, mLo, mHi, cut_to, cut_from, x1, sizeLine_eq] using q
      | some g => by_cases y1 : h < g <;> by_cases y2 : h = g <;> cases c2 <;> simpa [b100, initE, Span.enc, meet, mLo, mHi, cut_to, cut_from, x1, y1, y2, sizeLine_eq] using q
  · by_cases x2 : l2 = l1
    · cases h2 with
      | none => cases b2 <;> simpa [b100, initE, Span.enc, meet, mLo, mHi, cut_to, cut_from, x1, x2] using q
      | some h =>
        cases h1 with
        | none => cases b2 <;> simpa [b100, initE, Span.enc, meet, mLo, mHi, cut_to, cut_from, x1, x2, sizeLine_eq] using q
        | some g => cases b2 <;> by_cases y1 : h < g <;> by_cases y2 : h = g <;> cases c2 <;> simpa [b100, initE, Span.enc, meet, mLo, mHi, cut_to, cut_from, x1, x2, y1, y2, sizeLine_eq] using q
    · cases h2 with
      | none => simpa [b100, initE, Span.enc, meet, mLo, mHi, cut_to, cut_from, x1, x2] using q
      | some h =>
        cases h1 with
        | none => simpa [b100, initE, Span.enc, meet, mLo, mHi, cut_to, cut_from, x1, x2, sizeLine_eq] using q
        | some g => by_cases y1 : h < g <;> by_cases y2 : h = g <;> cases c2 <;> simpa [b100, initE, Span.enc, meet, mLo, mHi, cut_to, cut_from, x1, x2, y1, y2, sizeLine_eq] using q
end CC

namespace CC
open PySem PySem.Spec PyProof.Rows L2
def sp91 : Spec
  | [.dat a], Q => ∃ ms, a = encM ms ∧ okL ms ∧ Q (encPs (allPs ms))
  | _, _ => False
theorem sem91 {Φ : Nat → Spec} (h66 : Φ 66 = sp66) : DefSem (b91.sem Φ) 1 1 sp91 := by
  intro as Q q
  unfold sp91 at q
  split at q <;> try exact q.elim
  obtain ⟨ms, rfl, hm, q⟩ := q
  refine ⟨rfl, ?_⟩
  have l1 := pieces_len ms allB false 0
  have l2 := pieces_len ms allB true 0
  have := hm.1
  simp [b91, initE]
  refine go h66 ⟨ms, allB, rfl, rfl, hm, ?_⟩
  refine go h66 ⟨ms, allB, rfl, rfl, hm, ?_⟩
  simp [encPs]
  refine ⟨by rw [sizeLine_eq]; omega, ?_⟩
  simpa [encPs, allPs] using q
def sp69 : Spec
  | [.dat a], Q => ∃ s : Span, a = s.enc ∧ Q (encR (lowN s))
  | _, _ => False
theorem sem69 {Φ : Nat → Spec} (h3 : Φ 3 = sp3) : DefSem (b69.sem Φ) 5 1 sp69 := by
  intro as Q q
  unfold sp69 at q
  split at q <;> try exact q.elim
  obtain ⟨⟨lo, hl, hi, hh⟩, rfl, q⟩ := q
  refine ⟨rfl, ?_⟩
  unfold lowN numIn at q
  cases hl with
  | true =>
    simp [b69, initE, Span.enc]
    exact go h3 ⟨⟨by decide, by decide⟩, q⟩
  | false =>
    cases hi with
    | none =>
      simp [b69, initE, Span.enc]
      exact go h3 ⟨⟨by decide, by decide⟩, q⟩
    | some x =>
      simp [b69, initE, Span.enc]
      exact go h3 ⟨⟨by decide, by decide⟩, q⟩
def sp70 : Spec
  | [.dat a, .dat (.bool m)], Q => ∃ b : Box, a = b.enc ∧ Q (coinOf b m).enc
  | _, _ => False
theorem sem70 {Φ : Nat → Spec} (h69 : Φ 69 = sp69) : DefSem (b70.sem Φ) 2 2 sp70 := by
  intro as Q q
  unfold sp70 at q
  split at q <;> try exact q.elim
  rename_i m
  obtain ⟨b, rfl, q⟩ := q
  refine ⟨rfl, ?_⟩
  simp [b70, initE, Box.enc]
  exact go h69 ⟨b.w, rfl, go h69 ⟨b.t, rfl, go h69 ⟨b.h, rfl, q⟩⟩⟩
def encOC : Option Coin → D
  | none => .none
  | some c => c.enc
def sp101 : Spec
  | [.dat a, .dat b], Q => ∃ A B : List Piece, a = encPs A ∧ b = encPs B ∧ Q (encOC (partOf A B))
  | _, _ => False
theorem find_cons {α β : Type} (f : α → Option β) (x : α) (r : List α) : (x :: r).findSome? f = (f x).or (r.findSome? f) := by
  rw [List.findSome?_cons]
  cases f x <;> rfl
theorem partOf_cons (p : Piece) (A B : List Piece) : partOf (p :: A) B = (B.findSome? (pairC p)).or (partOf A B) := find_cons _ _ _
theorem sem101 {Φ : Nat → Spec} (h59 : Φ 59 = sp59) (h70 : Φ 70 = sp70) (h100 : Φ 100 = sp100) : DefSem (b101.sem Φ) 14 2 sp101 := by
  intro as Q q
  unfold sp101 at q
  split at q <;> try exact q.elim
  obtain ⟨A, B, rfl, rfl, q⟩ := q
  refine ⟨rfl, ?_⟩
  simp [b101, initE, encPs]
  refine forL_inv Piece.enc (fun r ρ => ∃ u2 u3 u4 u5 u6 u7 u8 u9 u10, ρ = [.dat (encPs A), .dat (encPs B), u2, u3, u4, u5, u6, u7, u8, u9, u10, .un, .un, .un] ∧ partOf A B = partOf r B) (fun x r ρ hI K hK => ?_) (fun ρ hI => ?_) _ _ ⟨_, _, _, _, _, _, _, _, _, rfl, rfl⟩
  · obtain ⟨u2, u3, u4, u5, u6, u7, u8, u9, u10, rfl, e⟩ := hI
    rw [partOf_cons] at e
    simp [Piece.enc, encPs]
    refine forL_inv Piece.enc (fun r' ρ => ∃ u6 u7 u8 u9 u10, ρ = [.dat (encPs A), .dat (encPs B), .dat x.box.enc, .dat (.bool x.m), .dat (encO x.ix), .dat (.int x.pl), u6, u7, u8, u9, u10, .un, .un, .un] ∧ B.findSome? (pairC x) = r'.findSome? (pairC x)) (fun y r' ρ hI K' hK' => ?_) (fun ρ hI => ?_) _ _ ⟨_, _, _, _, _, rfl, rfl⟩
    · obtain ⟨u6, u7, u8, u9, u10, rfl, e2⟩ := hI
      rw [find_cons] at e2
      have nx : pairC x y = none → ∀ ρ, (∃ u6 u7 u8 u9 u10, ρ = [.dat (encPs A), .dat (encPs B), .dat x.box.enc, .dat (.bool x.m), .dat (encO x.ix), .dat (.int x.pl), u6, u7, u8, u9, u10, .un, .un, .un]) → K' ρ := fun h ρ ⟨u6, u7, u8, u9, u10, e⟩ => hK' ρ ⟨u6, u7, u8, u9, u10, e, by rw [e2, h]; rfl⟩
      have rt : ∀ c, pairC x y = some c → Q c.enc := fun c h => by
        rw [h, Option.some_or] at e2
        rw [e2, Option.some_or] at e
        rw [e] at q
        exact q
      simp [Piece.enc, Box.enc]
      refine go h100 ⟨x.box.w, y.box.w, rfl, rfl, go h100 ⟨x.box.t, y.box.t, rfl, rfl, go h100 ⟨x.box.h, y.box.h, rfl, rfl, ?_⟩⟩⟩
      have hb : PyData.tuple [(meet x.box.w y.box.w).enc, (meet x.box.t y.box.t).enc, (meet x.box.h y.box.h).enc] = (meetB x.box y.box).enc := rfl
      simp
      by_cases hm : x.m = y.m
      · by_cases hp : x.pl = y.pl
        · rw [if_pos hm, if_pos hp]
          exact nx (by simp [pairC, hp]) _ ⟨_, _, _, _, _, rfl⟩
        · rw [if_pos hm, if_neg hp]
          refine go h59 ⟨_, rfl, go h59 ⟨_, rfl, go h59 ⟨_, rfl, ?_⟩⟩⟩
          refine ⟨[isSome (meet x.box.w y.box.w), isSome (meet x.box.t y.box.t), isSome (meet x.box.h y.box.h)], rfl, ?_⟩
          by_cases ok : okb (meetB x.box y.box) = true
          · rw [if_neg]
            · exact go h70 ⟨meetB x.box y.box, rfl, rt _ (by unfold pairC; rw [if_pos (by simp [hm, hp, ok])])⟩
            · simp [okb, meetB] at ok
              simp [ok]
          · rw [if_pos]
            · exact nx (by unfold pairC; rw [if_neg (by simp [ok])]) _ ⟨_, _, _, _, _, rfl⟩
            · simp [okb, meetB] at ok
              simp
              cases h1 : isSome (meet x.box.w y.box.w) <;> cases h2 : isSome (meet x.box.t y.box.t) <;> cases h3 : isSome (meet x.box.h y.box.h) <;> simp [h1, h2, h3] at ok ⊢
      · rw [if_neg hm]
        exact nx (by simp [pairC, hm]) _ ⟨_, _, _, _, _, rfl⟩
    · obtain ⟨u6, u7, u8, u9, u10, rfl, e2⟩ := hI
      rw [e2, List.findSome?_nil, Option.none_or] at e
      exact hK _ ⟨_, _, _, _, _, _, _, _, _, rfl, e⟩
  · obtain ⟨u2, u3, u4, u5, u6, u7, u8, u9, u10, rfl, e⟩ := hI
    rw [e] at q
    simpa [partOf, encOC] using q
def sp102 : Spec
  | [.dat a, .dat b], Q => ∃ one two, a = encM one ∧ b = encM two ∧ okL one ∧ okL two ∧ Q (encOC (partOf (allPs one) (allPs two)))
  | _, _ => False
theorem sem102 {Φ : Nat → Spec} (h91 : Φ 91 = sp91) (h101 : Φ 101 = sp101) : DefSem (b102.sem Φ) 2 2 sp102 := by
  intro as Q q
  unfold sp102 at q
  split at q <;> try exact q.elim
  obtain ⟨one, two, rfl, rfl, h1, h2, q⟩ := q
  refine ⟨rfl, ?_⟩
  simp [b102, initE]
  exact go h91 ⟨one, rfl, h1, go h91 ⟨two, rfl, h2, go h101 ⟨_, _, rfl, rfl, q⟩⟩⟩
theorem isNone_OC (o : Option Coin) : isNone (encOC o) = o.isNone := by cases o <;> rfl
def sameK (one two : List Stp) (k : Knd) : Bool := (partOf (pieces one (boxOf k 0) k.m 0) (pieces two (boxOf k 0) k.m 0)).isNone
def sp103 : Spec
  | [.dat ks, .dat a, .dat b], Q => ∃ kl one two, ks = encKs kl ∧ a = encM one ∧ b = encM two ∧ okL one ∧ okL two ∧ Q (.bool (kl.all (sameK one two)))
  | _, _ => False
theorem compL_boolT {α : Type} (enc : α → D) {f : D → (List D → Prop) → Prop} (p : α → Bool) {xs : List α} {R : D → Prop} (h : ∀ x ∈ xs, ∀ k : List D → Prop, k [.bool (p x)] → f (enc x) k) (q : R (.bool (xs.all p))) : compL f (xs.map enc) [] fun es => biD .all [.list es] R := by
  refine compL_typ enc (fun x => [.bool (p x)]) h ?_
  rw [List.nil_append, ← List.map_eq_flatMap]
  refine ⟨xs.map p, by rw [List.map_map]; rfl, ?_⟩
  rw [List.all_map]
  exact q
theorem sem103 {Φ : Nat → Spec} (h68 : Φ 68 = sp68) (h101 : Φ 101 = sp101) : DefSem (b103.sem Φ) 4 3 sp103 := by
  intro as Q q
  unfold sp103 at q
  split at q <;> try exact q.elim
  obtain ⟨kl, one, two, rfl, rfl, rfl, h1, h2, q⟩ := q
  refine ⟨rfl, ?_⟩
  simp [b103, initE, encKs]
  refine compL_boolT Knd.enc (sameK one two) (fun k hk K hK => ?_) q
  refine go h68 ⟨one, k, rfl, rfl, h1, go h68 ⟨two, k, rfl, rfl, h2, go h101 ⟨_, _, rfl, rfl, ?_⟩⟩⟩
  simp [isNone_OC]
  exact hK
def sp119 : Spec
  | [.dat v], Q => isKndsD v = true ∧ Q .none
  | _, _ => False
theorem sem119 {Φ : Nat → Spec} (h : Φ 11 = sp11) : DefSem (b119.sem Φ) 1 1 sp119 := by
  intro as Q q
  unfold sp119 at q
  split at q <;> try exact q.elim
  rename_i v
  obtain ⟨hm, q⟩ := q
  refine ⟨rfl, ?_⟩
  simp [b119, initE, h, hm]
  exact q
def sp137 : Spec
  | [.dat a, .dat b], Q => ∃ one two, a = encM one ∧ b = encM two ∧ okM one ∧ okM two ∧ Q (.bool (partOf (allPs one) (allPs two)).isNone)
  | _, _ => False
def sp138 : Spec
  | [.dat a, .dat b], Q => ∃ one two, a = encM one ∧ b = encM two ∧ okM one ∧ okM two ∧ Q (encOC (partOf (allPs one) (allPs two)))
  | _, _ => False
def sp139 : Spec
  | [.dat ks, .dat a, .dat b], Q => ∃ kl one two, ks = encKs kl ∧ a = encM one ∧ b = encM two ∧ okKs kl ∧ okM one ∧ okM two ∧ Q (.bool (kl.all (sameK one two)))
  | _, _ => False
theorem need_M {Φ : Nat → Spec} (h46 : Φ 46 = sp46) {ms : List Stp} (hm : okM ms) {R : D → Prop} (q : R .none) : Φ 46 [.dat (encM ms)] R := go h46 ⟨⟨shaped_M ms, isMach_ok hm⟩, q⟩
theorem sem137 {Φ : Nat → Spec} (h46 : Φ 46 = sp46) (h102 : Φ 102 = sp102) : DefSem (b137.sem Φ) 2 2 sp137 := by
  intro as Q q
  unfold sp137 at q
  split at q <;> try exact q.elim
  obtain ⟨one, two, rfl, rfl, h1, h2, q⟩ := q
  refine ⟨rfl, ?_⟩
  simp [b137, initE]
  refine need_M h46 h1 (need_M h46 h2 (go h102 ⟨one, two, rfl, rfl, h1.l, h2.l, ?_⟩))
  simp [isNone_OC]
  exact q
theorem sem138 {Φ : Nat → Spec} (h46 : Φ 46 = sp46) (h102 : Φ 102 = sp102) : DefSem (b138.sem Φ) 2 2 sp138 := by
  intro as Q q
  unfold sp138 at q
  split at q <;> try exact q.elim
  obtain ⟨one, two, rfl, rfl, h1, h2, q⟩ := q
  refine ⟨rfl, ?_⟩
  simp [b138, initE]
  exact need_M h46 h1 (need_M h46 h2 (go h102 ⟨one, two, rfl, rfl, h1.l, h2.l, q⟩))
theorem sem139 {Φ : Nat → Spec} (h46 : Φ 46 = sp46) (h103 : Φ 103 = sp103) (h119 : Φ 119 = sp119) : DefSem (b139.sem Φ) 3 3 sp139 := by
  intro as Q q
  unfold sp139 at q
  split at q <;> try exact q.elim
  obtain ⟨kl, one, two, rfl, rfl, rfl, hk, h1, h2, q⟩ := q
  refine ⟨rfl, ?_⟩
  simp [b139, initE]
  exact go h119 ⟨isKnds_ok hk, need_M h46 h1 (need_M h46 h2 (go h103 ⟨kl, one, two, rfl, rfl, rfl, h1.l, h2.l, q⟩))⟩
/-! ### the law's rows of all coins -/
def sp97 : Spec
  | [.dat a], Q => ∃ ms : List (List Stp), a = .list (ms.map encM) ∧ (ms.map List.length).sum ≤ 60 ∧ Q (.list ((rowsAll ms).map Row.enc))
  | _, _ => False
theorem sem97 {Φ : Nat → Spec} (h79 : Φ 79 = sp79) : DefSem (b97.sem Φ) 2 1 sp97 := by
  intro as Q q
  unfold sp97 at q
  split at q <;> try exact q.elim
  obtain ⟨ms, rfl, hm, q⟩ := q
  refine ⟨rfl, ?_⟩
  have l1 := grid_len hm bndsAll false
  have l2 := grid_len hm bndsAll true
  rw [List.length_map] at l1 l2
  simp [b97, initE]
  refine go h79 ⟨ms, bndsAll, rfl, .inl rfl, hm, ?_⟩
  refine go h79 ⟨ms, bndsAll, rfl, .inl rfl, hm, ?_⟩
  simp
  refine ⟨by rw [sizeLine_eq]; omega, ?_⟩
  simpa [rowsAll] using q
def apartR (one two : List Stp) (rs : List Row) : Bool := rs.any fun r => endOf one r.coin != endOf two r.coin
def sp141 : Spec
  | [.dat a, .dat b, .dat c], Q => ∃ one two rs, a = encM one ∧ b = encM two ∧ c = .list (rs.map Row.enc) ∧ okL one ∧ okL two ∧ Q (.bool (apartR one two rs))
  | _, _ => False
theorem lay_coin (c : Coin) : PyData.canLay0 c.enc = true ∧ PyData.depth c.enc ≤ 2 := by
  simp [Coin.enc, encR, PyData.canLay0, PyData.canLayAll0, PyData.depth, PyData.depthAll]
theorem eqvA_nil (l : List D) : PyData.eqvAll l [] = l.isEmpty := by cases l <;> simp
theorem filter_empty {α : Type} (p : α → Bool) : ∀ xs : List α, (!(xs.filter p).isEmpty) = xs.any p
  | [] => rfl
  | x :: r => by
    rw [List.filter_cons, List.any_cons, ← filter_empty p r]
    cases p x <;> simp
theorem sem141 {Φ : Nat → Spec} (h56 : Φ 56 = sp56) : DefSem (b141.sem Φ) 5 3 sp141 := by
  intro as Q q
  unfold sp141 at q
  split at q <;> try exact q.elim
  obtain ⟨one, two, rs, rfl, rfl, rfl, h1, h2, q⟩ := q
  refine ⟨rfl, ?_⟩
  simp [b141, initE]
  refine compL_typ Row.enc (fun r => if (endOf one r.coin != endOf two r.coin) = true then [r.coin.enc] else []) (fun r _ K hK => ?_) ?_
  · simp [Row.enc]
    refine go h56 ⟨one, _, rfl, rfl, h1, go h56 ⟨two, _, rfl, rfl, h2, ?_⟩⟩
    by_cases e : endOf one r.coin = endOf two r.coin <;> simpa [e] using hK
  · rw [List.nil_append, flatMap_if (fun r : Row => endOf one r.coin != endOf two r.coin) (fun r => r.coin.enc)]
    refine ⟨.inr ⟨shaped_lst (n := 2) (by omega) fun d hd => ?_, by decide +kernel⟩, ?_⟩
    · obtain ⟨r, _, rfl⟩ := List.mem_map.mp hd
      exact lay_coin _
    · rw [eqvA_nil, List.isEmpty_map, filter_empty]
      exact q
end CC

namespace CC
open PySem PySem.Spec PyProof.Rows L2
/-! ### a machine that is near -/
def sp140 : Spec
  | [.bag _, .dat a], Q => ∃ m, a = encM m ∧ (okM m ∧ ∀ s ∈ m, s.lim ≤ 79) ∧ ∀ m', okM m' → Q (encM m')
  | _, _ => False
theorem mem_td {α : Type} {x : α} {xs : List α} {n : Nat} (h : x ∈ xs.take n ∨ x ∈ xs.drop n) : x ∈ xs := h.elim List.mem_of_mem_take List.mem_of_mem_drop
theorem enc_word (s : Stp) : ∃ ds, s.enc = .tuple ds ∧ atI ds 0 = some (.str s.word) := by
  cases s <;> exact ⟨_, rfl, by simp [Stp.word]⟩
theorem sem140 {Φ : Nat → Spec} (h24 : Φ 24 = sp24) (h25 : Φ 25 = sp25) (h27 : Φ 27 = sp27) : DefSem (b140.sem Φ) 8 2 sp140 := by
  intro as Q q
  unfold sp140 at q
  split at q <;> try exact q.elim
  rename_i bag a
  obtain ⟨m, rfl, ⟨hm, hlim⟩, q⟩ := q
  refine ⟨rfl, ?_⟩
  have hl := hm.1
  have ok : ∀ s ∈ m, s.ok := hm.2
  have fin : ∀ m' : List Stp, m'.length ≤ 8 → (∀ s ∈ m', s.ok) → Q (.tuple (m'.map Stp.enc)) := fun m' h1 h2 => q m' ⟨h1, h2⟩
  simp [b140, initE]
  refine go h24 ⟨⟨by omega, by omega⟩, fun r r0 r1 => ?_⟩
  refine go h24 ⟨⟨by decide, by decide⟩, fun w w0 w1 => ?_⟩
  obtain ⟨n, rfl⟩ := Int.eq_ofNat_of_zero_le r0
  have hn : n ≤ m.length := by omega
  have big : 1000 < sizeLine := by rw [sizeLine_eq]; omega
  have n1 : (0 : Int) ≤ (n : Int) + 1 := by omega
  have n2 : (0 : Int) ≤ (n : Int) + 2 := by omega
  have t1 : ((n : Int) + 1).toNat = n + 1 := by omega
  have t2 : ((n : Int) + 2).toNat = n + 2 := by omega
  simp [encM, cut_to, cut_from, cut_both, n1, n2, t1, t2]
  split
  · refine go h27 ⟨⟨by decide, by decide⟩, fun s hs _ => ?_⟩
    simp
    refine ⟨by omega, by omega, ?_⟩
    have := fin ((m.take n ++ (s :: m.drop n)).take 8) (by simp; omega) fun x hx => by
      have hx := List.mem_of_mem_take hx
      simp at hx
      rcases hx with hx | rfl | hx
      · exact ok x (List.mem_of_mem_take hx)
      · exact hs
      · exact ok x (List.mem_of_mem_drop hx)
    simpa using this
  · split
    · refine ⟨by omega, ?_⟩
      have := fin (m.take n ++ m.drop (n + 1)) (by simp; omega) fun x hx => by
        simp at hx
        rcases hx with hx | hx
        · exact ok x (List.mem_of_mem_take hx)
        · exact ok x (List.mem_of_mem_drop hx)
      simpa using this
    · split
      · refine ⟨by omega, by omega, ?_⟩
        have := fin (m.take n ++ (((m.take (n + 2)).drop n).reverse ++ m.drop (n + 2))) (by simp; omega) fun x hx => by
          simp at hx
          rcases hx with hx | hx | hx
          · exact ok x (List.mem_of_mem_take hx)
          · exact ok x (List.mem_of_mem_take (List.mem_of_mem_drop hx))
          · exact ok x (List.mem_of_mem_drop hx)
        simpa using this
      · have last : ∀ b : Bool, b = decide ((m.length : Int) < 8) → if b = true then m.length + min 1 m.length ≤ sizeLine ∧ Q (.tuple (m.map Stp.enc ++ (m.map Stp.enc).take 1)) else Q (.tuple (m.map Stp.enc)) := fun b hb => by
          by_cases h8 : (m.length : Int) < 8
          · rw [if_pos (by rw [hb]; simpa using h8)]
            refine ⟨by omega, ?_⟩
            have := fin (m ++ m.take 1) (by simp; omega) fun x hx => by
              simp at hx
              rcases hx with hx | hx
              · exact ok x hx
              · exact ok x (List.mem_of_mem_take hx)
            simpa using this
          · rw [if_neg (by rw [hb]; simpa using h8)]
            exact fin m hl ok
        have last2 := last _ rfl
        simp at last2
        by_cases hlt : n < m.length
        · simp [hlt]
          split
          · have hs := ok m[n] (List.getElem_mem hlt)
            have hlm := hlim m[n] (List.getElem_mem hlt)
            simp [atI_map Stp.enc hlt]
            generalize m[n] = s at hs hlm
            cases s with
            | mag p => simpa [Stp.enc] using last2
            | cut kd l p =>
              have hw : ¬ kd.word = ("magnet" : Str) := by cases kd <;> simp [Kd.word]
              simp [Stp.enc, hw]
              have fin3 : ∀ l' : Int, 1 ≤ l' → l' ≤ 80 → min n m.length + 1 ≤ sizeLine ∧ min n m.length + 1 + (m.length - (n + 1)) ≤ sizeLine ∧ Q (.tuple ((m.map Stp.enc).take n ++ .tuple [.str kd.word, .int l', .int p] :: (m.map Stp.enc).drop (n + 1))) := fun l' h1 h2 => by
                refine ⟨by omega, by omega, ?_⟩
                have := fin (m.take n ++ (Stp.cut kd l' p :: m.drop (n + 1))) (by simp; omega) fun x hx => by
                  simp at hx
                  rcases hx with hx | rfl | hx
                  · exact ok x (List.mem_of_mem_take hx)
                  · exact ⟨⟨h1, h2⟩, hs.2⟩
                  · exact ok x (List.mem_of_mem_drop hx)
                simpa [Stp.enc] using this
              have l1 := hs.1.1
              have l2 : l ≤ 79 := hlm
              refine go h25 ⟨⟨by simp, by simp⟩, fun d hd => ?_⟩
              simp at hd
              rcases hd with rfl | rfl
              · simp
                split
                · exact fin3 _ (by omega) (by omega)
                · exact fin3 _ (by omega) (by omega)
              · simp
                split
                · exact fin3 _ (by omega) (by omega)
                · exact fin3 _ (by omega) (by omega)
          · exact last2
        · simp [hlt]
          exact last2
/-! ### both -/
theorem apart_iff (one two : List Stp) (rs : List Row) : apartR one two rs = true ↔ ∃ r ∈ rs, endOf one r.coin ≠ endOf two r.coin := by
  simp [apartR]
theorem end_same2 {ms : List (List Stp)} {one two : List Stp} (h1 : one ∈ ms) (h2 : two ∈ ms) (c q : Coin) (_ : c.m = q.m) (h : ∀ m ∈ ms, ∀ s ∈ m, takes s c = takes s q) : (endOf one c ≠ endOf two c) ↔ (endOf one q ≠ endOf two q) := by
  rw [end_congr (h one h1), end_congr (h two h2)]
theorem apart_all {ms : List (List Stp)} {one two : List Stp} (h1 : one ∈ ms) (h2 : two ∈ ms) (o1 : ∀ s ∈ one, s.ok) (o2 : ∀ s ∈ two, s.ok) : apartR one two (rowsAll ms) = !(partOf (allPs one) (allPs two)).isNone := by
  rw [Bool.eq_iff_iff, apart_iff, rows_all (fun c => endOf one c ≠ endOf two c) (end_same2 h1 h2)]
  rw [Bool.not_eq_true', ← Bool.not_eq_true, Option.isNone_iff_eq_none, part_none (tells_all o1) (tells_all o2)]
  constructor
  · rintro ⟨c, a, b, d⟩ h; exact d (h c a b)
  · intro h
    apply Classical.byContradiction
    intro z
    refine h fun c a b => ?_
    apply Classical.byContradiction
    intro y
    exact z ⟨c, a, b, y⟩
theorem boxOf_S {k : Knd} (h : k.ok) : okSB (boxOf k 0) := by
  have one : ∀ r : Int × Int, okBd r → okS (spanOf r 0) := fun r ⟨h1, h2, h3⟩ => by
    rw [spanOf0 h1]
    exact ⟨by show 0 ≤ 2 * r.1; omega, by show 2 * r.1 ≤ 4000; omega, fun _ => by show 0 < 2 * r.1; omega, fun h e => by cases e; omega⟩
  exact ⟨one _ h.1, one _ h.2.1, one _ h.2.2.1⟩
theorem tells_kind {ms : List Stp} {k : Knd} (hm : ∀ s ∈ ms, s.ok) (h : k.ok) : Tells (pieces ms (boxOf k 0) k.m 0) ms fun c => c.m = k.m ∧ DomC (bndsOf k) c :=
  (tells_of hm (boxOf_ok h (Int.le_refl _)) (boxOf_S h)).iff fun c _ => by rw [box_dom h]
theorem apart_kind {ms : List (List Stp)} {one two : List Stp} (h1 : one ∈ ms) (h2 : two ∈ ms) (o1 : ∀ s ∈ one, s.ok) (o2 : ∀ s ∈ two, s.ok) {k : Knd} (hk : k.ok) : apartR one two (grid ms (bndsOf k) k.m) = !sameK one two k := by
  rw [Bool.eq_iff_iff, apart_iff, rows_kind (bndsOf_ok hk) (fun c => endOf one c ≠ endOf two c) (end_same2 h1 h2)]
  unfold sameK
  rw [Bool.not_eq_true', ← Bool.not_eq_true, Option.isNone_iff_eq_none, part_none (tells_kind o1 hk) (tells_kind o2 hk)]
  constructor
  · rintro ⟨c, a, b, d, e⟩ h; exact e (h c a ⟨b, d⟩)
  · intro h
    apply Classical.byContradiction
    intro z
    refine h fun c a ⟨b, d⟩ => ?_
    apply Classical.byContradiction
    intro y
    exact z ⟨c, a, b, d, y⟩
theorem part_sym {one two : List Stp} (o1 : ∀ s ∈ one, s.ok) (o2 : ∀ s ∈ two, s.ok) : (partOf (allPs two) (allPs one)).isNone = (partOf (allPs one) (allPs two)).isNone := by
  rw [Bool.eq_iff_iff, Option.isNone_iff_eq_none, Option.isNone_iff_eq_none, part_none (tells_all o1) (tells_all o2), part_none (tells_all o2) (tells_all o1)]
  exact ⟨fun h c a b => (h c a b).symm, fun h c a b => (h c a b).symm⟩
theorem same_self {one : List Stp} (o1 : ∀ s ∈ one, s.ok) {k : Knd} (hk : k.ok) : sameK one one k = true := by
  unfold sameK
  rw [Option.isNone_iff_eq_none, part_none (tells_kind o1 hk) (tells_kind o1 hk)]
  exact fun _ _ _ => rfl
end CC

namespace CC
open PySem PySem.Spec PyProof.Rows L2
/-! ### steps left out, turned -/
def lessBy (ms : List Stp) (i : Nat) : List Stp := ms.take i ++ ms.drop (i + 1)
def turnedAt (ms : List Stp) (i : Nat) : List Stp := ms.take i ++ (((ms.take (i + 2)).drop i).reverse ++ ms.drop (i + 2))
theorem lessBy_mem {ms : List Stp} {i : Nat} {s : Stp} (h : s ∈ lessBy ms i) : s ∈ ms := by
  rcases List.mem_append.mp h with h | h
  · exact List.mem_of_mem_take h
  · exact List.mem_of_mem_drop h
theorem turnedAt_mem {ms : List Stp} {i : Nat} {s : Stp} (h : s ∈ turnedAt ms i) : s ∈ ms := by
  rcases List.mem_append.mp h with h | h
  · exact List.mem_of_mem_take h
  · rcases List.mem_append.mp h with h | h
    · exact List.mem_of_mem_take (List.mem_of_mem_drop (List.mem_reverse.mp h))
    · exact List.mem_of_mem_drop h
theorem lessBy_len (ms : List Stp) (i : Nat) : (lessBy ms i).length ≤ ms.length := by
  simp [lessBy]; omega
theorem turnedAt_len (ms : List Stp) (i : Nat) : (turnedAt ms i).length ≤ ms.length := by
  simp [turnedAt]; omega
theorem okL_sub {ms xs : List Stp} (h : okL ms) (hl : xs.length ≤ ms.length) (hm : ∀ s ∈ xs, s ∈ ms) : okL xs := ⟨Nat.le_trans hl h.1, fun s hs => h.2 s (hm s hs)⟩
theorem okM_sub {ms xs : List Stp} (h : okM ms) (hl : xs.length ≤ ms.length) (hm : ∀ s ∈ xs, s ∈ ms) : okM xs := ⟨Nat.le_trans hl h.1, fun s hs => h.2 s (hm s hs)⟩
def sp105 : Spec
  | [.dat a, .dat (.int i)], Q => ∃ (ms : List Stp) (n : Nat), a = encM ms ∧ i = (n : Int) ∧ ms.length ≤ 1000 ∧ Q (encM (lessBy ms n))
  | _, _ => False
theorem sem105 {Φ : Nat → Spec} : DefSem (b105.sem Φ) 2 2 sp105 := by
  intro as Q q
  unfold sp105 at q
  split at q <;> try exact q.elim
  obtain ⟨ms, n, rfl, rfl, hl, q⟩ := q
  refine ⟨rfl, ?_⟩
  have n1 : (0 : Int) ≤ (n : Int) + 1 := by omega
  have t1 : ((n : Int) + 1).toNat = n + 1 := by omega
  simp [b105, initE, encM, cut_to, cut_from, n1, t1]
  refine ⟨by rw [sizeLine_eq]; omega, ?_⟩
  simpa [encM, lessBy] using q
def sp106 : Spec
  | [.dat a, .dat (.int i)], Q => ∃ (ms : List Stp) (n : Nat), a = encM ms ∧ i = (n : Int) ∧ n + 1 < ms.length ∧ ms.length ≤ 1000 ∧ Q (encM (turnedAt ms n))
  | _, _ => False
theorem turned_eq {ms : List Stp} {n : Nat} (h : n + 1 < ms.length) : turnedAt ms n = ms.take n ++ ([ms[n + 1], ms[n]] ++ ms.drop (n + 2)) := by
  unfold turnedAt
  have : (ms.take (n + 2)).drop n = [ms[n], ms[n + 1]] := by
    rw [← List.take_append_getElem (by omega : n + 1 < ms.length), ← List.take_append_getElem (by omega : n < ms.length)]
    rw [List.append_assoc, List.drop_append_of_le_length (by simp; omega), List.drop_of_length_le (by simp; omega)]
    simp
  rw [this]
  simp
theorem sem106 {Φ : Nat → Spec} : DefSem (b106.sem Φ) 2 2 sp106 := by
  intro as Q q
  unfold sp106 at q
  split at q <;> try exact q.elim
  obtain ⟨ms, n, rfl, rfl, hn, hl, q⟩ := q
  refine ⟨rfl, ?_⟩
  have n2 : (0 : Int) ≤ (n : Int) + 2 := by omega
  have t2 : ((n : Int) + 2).toNat = n + 2 := by omega
  have a1 := atI_map Stp.enc (xs := ms) (n := n) (by omega)
  have a2 := atI_map Stp.enc hn
  simp at a2
  rw [turned_eq hn] at q
  simp [b106, initE, encM, cut_to, cut_from, n2, t2, a1, a2]
  refine ⟨by rw [sizeLine_eq]; omega, by rw [sizeLine_eq]; omega, ?_⟩
  simpa [encM] using q
def idleOf (ms : List Stp) : List Nat := (List.range ms.length).filter fun i => !(allPs ms).any fun p => p.ix == some i
def sp104 : Spec
  | [.dat a], Q => ∃ ms, a = encM ms ∧ okL ms ∧ Q (encN (idleOf ms))
  | _, _ => False
theorem eqv_O (o : Option Nat) (i : Nat) : PyData.eqv (encO o) (.int (i : Int)) = (o == some i) := by
  cases o with
  | none => simp [encO]
  | some n =>
    simp [encO]
    rw [Bool.eq_iff_iff]
    simp
    omega
theorem flat_O (o : Option Nat) : flatD (encO o) = true := by cases o <;> rfl
theorem any_O (os : List (Option Nat)) (i : Nat) : (os.map encO).any (fun z => PyData.eqv z (.int (i : Int))) = os.any (fun o => o == some i) := by
  rw [List.any_map]
  congr 1
  funext o
  exact eqv_O o i
theorem all_flatO (os : List (Option Nat)) : (os.map encO).all flatD = true := by
  rw [List.all_map, List.all_eq_true]
  intro o _
  exact flat_O o
theorem sem104 {Φ : Nat → Spec} (h91 : Φ 91 = sp91) : DefSem (b104.sem Φ) 6 1 sp104 := by
  intro as Q q
  unfold sp104 at q
  split at q <;> try exact q.elim
  obtain ⟨ms, rfl, hm, q⟩ := q
  refine ⟨rfl, ?_⟩
  have := hm.1
  simp [b104, initE]
  refine go h91 ⟨ms, rfl, hm, ?_⟩
  simp [encPs]
  refine compL_typ Piece.enc (fun p => [encO p.ix]) (fun p _ K hK => by simpa [Piece.enc] using hK) ?_
  rw [List.nil_append, ← List.map_eq_flatMap]
  have e : (allPs ms).map (fun p => encO p.ix) = ((allPs ms).map (·.ix)).map encO := by rw [List.map_map]; rfl
  rw [e]
  refine ⟨⟨by omega, by omega⟩, ?_⟩
  simp
  rw [rngL_nat]
  refine compL_typ (fun (n : Nat) => PyData.int (n : Int)) (fun i => if (!(allPs ms).any fun p => p.ix == some i) = true then [.int (i : Int)] else []) (fun i hi K hK => ?_) ?_
  · simp [flat_O, eqv_O] at hK ⊢
    split <;> rename_i h
    · rwa [if_pos h] at hK
    · rwa [if_neg h] at hK
  · rw [List.nil_append, flatMap_if (fun i : Nat => !(allPs ms).any fun p => p.ix == some i) (fun i => PyData.int (i : Int))]
    exact q
def sp107 : Spec
  | [.dat a], Q => ∃ ms, a = encM ms ∧ okM ms ∧ Q (encN (idleOf ms))
  | _, _ => False
theorem sem107 {Φ : Nat → Spec} (h46 : Φ 46 = sp46) (h104 : Φ 104 = sp104) : DefSem (b107.sem Φ) 1 1 sp107 := by
  intro as Q q
  unfold sp107 at q
  split at q <;> try exact q.elim
  obtain ⟨ms, rfl, hm, q⟩ := q
  refine ⟨rfl, ?_⟩
  simp [b107, initE]
  exact need_M h46 hm (go h104 ⟨ms, rfl, hm.l, q⟩)
def needlessOf (ks : List Knd) (ms : List Stp) : List Nat := (List.range ms.length).filter fun i => ks.all (sameK ms (lessBy ms i))
def sp108 : Spec
  | [.dat a], Q => ∃ p : Plan, a = p.enc ∧ p.ok ∧ Q (encN (needlessOf p.ks p.ms))
  | _, _ => False
theorem need_P {Φ : Nat → Spec} (h13 : Φ 13 = sp13) {p : Plan} (hp : p.ok) {R : D → Prop} (q : R .none) : Φ 13 [.dat p.enc] R := go h13 ⟨⟨shaped_plan p, isPlan_ok hp⟩, q⟩
theorem sem108 {Φ : Nat → Spec} (h13 : Φ 13 = sp13) (h103 : Φ 103 = sp103) (h105 : Φ 105 = sp105) : DefSem (b108.sem Φ) 4 1 sp108 := by
  intro as Q q
  unfold sp108 at q
  split at q <;> try exact q.elim
  obtain ⟨p, rfl, hp, q⟩ := q
  refine ⟨rfl, ?_⟩
  have hl := hp.2.1
  simp [b108, initE]
  refine need_P h13 hp ?_
  simp [Plan.enc]
  refine ⟨⟨by omega, by omega⟩, ?_⟩
  rw [rngL_nat]
  refine compL_typ (fun (n : Nat) => PyData.int (n : Int)) (fun i => if (p.ks.all (sameK p.ms (lessBy p.ms i))) = true then [.int (i : Int)] else []) (fun i hi K hK => ?_) ?_
  · refine go h105 ⟨p.ms, i, rfl, rfl, by omega, go h103 ⟨p.ks, p.ms, _, rfl, rfl, rfl, hp.2.l, okL_sub hp.2.l (lessBy_len _ _) fun s hs => lessBy_mem hs, ?_⟩⟩
    cases e : p.ks.all (sameK p.ms (lessBy p.ms i)) <;> simpa [e] using hK
  · rw [List.nil_append, flatMap_if (fun i : Nat => p.ks.all (sameK p.ms (lessBy p.ms i))) (fun i => PyData.int (i : Int))]
    exact q
def exchOf (ms : List Stp) : List Nat := (List.range (ms.length - 1)).filter fun i => (partOf (allPs ms) (allPs (turnedAt ms i))).isNone
def sp109 : Spec
  | [.dat a], Q => ∃ ms, a = encM ms ∧ okM ms ∧ Q (encN (exchOf ms))
  | _, _ => False
theorem rngL_pred (n : Nat) : rngL 0 ((n : Int) - 1) = (List.range (n - 1)).map fun (i : Nat) => PyData.int (i : Int) := by
  unfold rngL
  rw [show ((n : Int) - 1 - 0).toNat = n - 1 by omega]
  simp
theorem sem109 {Φ : Nat → Spec} (h46 : Φ 46 = sp46) (h102 : Φ 102 = sp102) (h106 : Φ 106 = sp106) : DefSem (b109.sem Φ) 3 1 sp109 := by
  intro as Q q
  unfold sp109 at q
  split at q <;> try exact q.elim
  obtain ⟨ms, rfl, hm, q⟩ := q
  refine ⟨rfl, ?_⟩
  have hl := hm.1
  simp [b109, initE]
  refine need_M h46 hm ⟨⟨by omega, by omega⟩, ?_⟩
  rw [rngL_pred]
  simp
  refine compL_typ (fun (n : Nat) => PyData.int (n : Int)) (fun i => if (partOf (allPs ms) (allPs (turnedAt ms i))).isNone = true then [.int (i : Int)] else []) (fun i hi K hK => ?_) ?_
  · have hi := List.mem_range.mp hi
    refine go h106 ⟨ms, i, rfl, rfl, by omega, by omega, go h102 ⟨ms, _, rfl, rfl, hm.l, okL_sub hm.l (turnedAt_len _ _) fun s hs => turnedAt_mem hs, ?_⟩⟩
    simp only [isNone_OC]
    cases e : (partOf (allPs ms) (allPs (turnedAt ms i))).isNone <;> simpa [e] using hK
  · rw [List.nil_append, flatMap_if (fun i : Nat => (partOf (allPs ms) (allPs (turnedAt ms i))).isNone) (fun i => PyData.int (i : Int))]
    exact q
def sp110 : Spec
  | [.dat a, .dat b, .dat c], Q => ∃ one two rs, a = encM one ∧ b = encM two ∧ c = .list (rs.map Row.enc) ∧ okL one ∧ okL two ∧ Q (.bool (!apartR one two rs))
  | _, _ => False
theorem sem110 {Φ : Nat → Spec} (h56 : Φ 56 = sp56) : DefSem (b110.sem Φ) 5 3 sp110 := by
  intro as Q q
  unfold sp110 at q
  split at q <;> try exact q.elim
  obtain ⟨one, two, rs, rfl, rfl, rfl, h1, h2, q⟩ := q
  refine ⟨rfl, ?_⟩
  simp [b110, initE]
  refine compL_typ Row.enc (fun r => if (endOf one r.coin != endOf two r.coin) = true then [r.coin.enc] else []) (fun r _ K hK => ?_) ?_
  · simp [Row.enc]
    refine go h56 ⟨one, _, rfl, rfl, h1, go h56 ⟨two, _, rfl, rfl, h2, ?_⟩⟩
    by_cases e : endOf one r.coin = endOf two r.coin <;> simpa [e] using hK
  · rw [List.nil_append, flatMap_if (fun r : Row => endOf one r.coin != endOf two r.coin) (fun r => r.coin.enc)]
    refine ⟨.inr ⟨shaped_lst (n := 2) (by omega) fun d hd => ?_, by decide +kernel⟩, ?_⟩
    · obtain ⟨r, _, rfl⟩ := List.mem_map.mp hd
      exact lay_coin _
    · rw [eqvA_nil, List.isEmpty_map]
      have := filter_empty (fun r : Row => endOf one r.coin != endOf two r.coin) rs
      rw [show (rs.filter fun r : Row => endOf one r.coin != endOf two r.coin).isEmpty = !apartR one two rs by unfold apartR; rw [← this, Bool.not_not]]
      exact q
/-! ### both -/
theorem end_sub {ms : List (List Stp)} {one two : List Stp} (h1 : one ∈ ms) (h2 : ∀ s ∈ two, s ∈ one) (c q : Coin) (_ : c.m = q.m) (h : ∀ m ∈ ms, ∀ s ∈ m, takes s c = takes s q) : (endOf one c ≠ endOf two c) ↔ (endOf one q ≠ endOf two q) := by
  rw [end_congr (h one h1), end_congr fun s hs => h one h1 s (h2 s hs)]
theorem apart_allS {one two : List Stp} (h2 : ∀ s ∈ two, s ∈ one) (o1 : ∀ s ∈ one, s.ok) : apartR one two (rowsAll [one]) = !(partOf (allPs one) (allPs two)).isNone := by
  have o2 : ∀ s ∈ two, s.ok := fun s hs => o1 s (h2 s hs)
  rw [Bool.eq_iff_iff, apart_iff, rows_all (fun c => endOf one c ≠ endOf two c) (end_sub (List.mem_singleton.mpr rfl) h2)]
  rw [Bool.not_eq_true', ← Bool.not_eq_true, Option.isNone_iff_eq_none, part_none (tells_all o1) (tells_all o2)]
  constructor
  · rintro ⟨c, a, b, d⟩ h; exact d (h c a b)
  · intro h
    apply Classical.byContradiction
    intro z
    refine h fun c a b => ?_
    apply Classical.byContradiction
    intro y
    exact z ⟨c, a, b, y⟩
theorem apart_kindS {one two : List Stp} (h2 : ∀ s ∈ two, s ∈ one) (o1 : ∀ s ∈ one, s.ok) {k : Knd} (hk : k.ok) : apartR one two (grid [one] (bndsOf k) k.m) = !sameK one two k := by
  have o2 : ∀ s ∈ two, s.ok := fun s hs => o1 s (h2 s hs)
  rw [Bool.eq_iff_iff, apart_iff, rows_kind (bndsOf_ok hk) (fun c => endOf one c ≠ endOf two c) (end_sub (List.mem_singleton.mpr rfl) h2)]
  unfold sameK
  rw [Bool.not_eq_true', ← Bool.not_eq_true, Option.isNone_iff_eq_none, part_none (tells_kind o1 hk) (tells_kind o2 hk)]
  constructor
  · rintro ⟨c, a, b, d, e⟩ h; exact e (h c a ⟨b, d⟩)
  · intro h
    apply Classical.byContradiction
    intro z
    refine h fun c a ⟨b, d⟩ => ?_
    apply Classical.byContradiction
    intro y
    exact z ⟨c, a, b, d, y⟩
theorem met_iff {A : List Piece} {ms : List Stp} {dom : Coin → Prop} (h : Tells A ms dom) (i : Nat) : (A.any fun p => p.ix == some i) = true ↔ ∃ c : Coin, c.pos ∧ dom c ∧ idx ms c = some i := by
  rw [List.any_eq_true]
  constructor
  · rintro ⟨p, hp, e⟩
    obtain ⟨h1, h2⟩ := coinOf_in (m := p.m) (h.fine p hp).1
    obtain ⟨d, _, f⟩ := h.sound p hp _ h2 rfl h1
    exact ⟨_, h2, d, by rw [← f]; exact eq_of_beq e⟩
  · rintro ⟨c, hc, hd, e⟩
    obtain ⟨p, hp, pm, pi⟩ := h.cover c hc hd
    refine ⟨p, hp, ?_⟩
    rw [(h.sound p hp c hc pm.symm pi).2.2, e]
    exact beq_self_eq_true _
theorem idle_rows {ms : List Stp} (o : ∀ s ∈ ms, s.ok) : idleOf ms = (List.range ms.length).filter fun i => !((rowsAll [ms]).map fun r => idx ms r.coin).any fun o => o == some i := by
  unfold idleOf
  congr 1
  funext i
  congr 1
  rw [Bool.eq_iff_iff, met_iff (tells_all o), List.any_map, List.any_eq_true]
  rw [← rows_all (ms := [ms]) (fun c => idx ms c = some i) (fun c q _ h => by rw [idx_congr (h ms (List.mem_singleton.mpr rfl))])]
  simp
end CC

namespace CC
open PySem PySem.Spec PyProof.Rows L2
/-- a slot that is no cell -/
def slO : Option D → Sl
  | none => .un
  | some d => .dat d
section
variable (o : Option D)
@[simp] theorem hideS_O : hideS (slO o) = slO o := by cases o <;> rfl
@[simp] theorem frozS_O : frozS (slO o) = slO o := by cases o <;> rfl
@[simp] theorem noCell_O : noCell (some (slO o)) = true := by cases o <;> rfl
end
theorem rep_bool (x : D) (b : Bool) (R : D → Prop) (h : R (.list (if b = true then [x] else []))) : repD (.list [x]) (.int (if b = true then 1 else 0)) R := by
  rw [repD_l]
  cases b
  · refine ⟨⟨by decide, by decide, by rw [sizeLine_eq]; simp⟩, ?_⟩
    simpa using h
  · refine ⟨⟨by decide, by decide, by rw [sizeLine_eq]; simp⟩, ?_⟩
    simpa using h
theorem range_filter (c : Nat → Bool) (n : Nat) : (List.range (n + 1)).filter c = (List.range n).filter c ++ if c n = true then [n] else [] := by
  rw [List.range_succ, List.filter_append]
  congr 1
  rw [List.filter_cons]
  cases c n <;> simp
theorem encN_app (a b : List Nat) : PyData.list ((a.map fun (n : Nat) => PyData.int (n : Int)) ++ b.map fun (n : Nat) => PyData.int (n : Int)) = encN (a ++ b) := by simp [encN]
theorem add_due {c : Nat → Bool} {n : Nat} {R : D → Prop} (hn : n ≤ 1000) (h : R (encN ((List.range (n + 1)).filter c))) : binD .add (encN ((List.range n).filter c)) (.list (if c n = true then [.int (n : Int)] else [])) R := by
  have hl := List.length_filter_le c (List.range n)
  rw [List.length_range] at hl
  rw [range_filter] at h
  simp only [encN, binD_add_l]
  refine ⟨?_, ?_⟩
  · rw [List.length_map, sizeLine_eq]
    cases c n <;> simp <;> omega
  · cases e : c n <;> simpa [e, encN] using h
theorem sem111 {Φ : Nat → Spec} (h23 : Φ 23 = sp23) (h28 : Φ 28 = sp28) (h54 : Φ 54 = sp54) (h55 : Φ 55 = sp55) (h79 : Φ 79 = sp79) (h97 : Φ 97 = sp97) (h107 : Φ 107 = sp107) (h108 : Φ 108 = sp108) (h109 : Φ 109 = sp109) (h110 : Φ 110 = sp110) : DefSem (b111.sem Φ) 16 1 lawS := by
  rintro as Q ⟨ns, rfl, hns, q⟩
  refine ⟨rfl, ?_⟩
  simp only [b111, Sms.sem, Sm.sem]
  simp [initE]
  generalize hM : (if (if (ns.length : Int) + 2 < 7 then (ns.length : Int) + 2 else 7) > 3 then (if (ns.length : Int) + 2 < 7 then (ns.length : Int) + 2 else 7) else 3) = M
  have hb : 0 ≤ M ∧ M ≤ 8 := by rw [← hM]; split <;> split <;> omega
  refine ⟨⟨by omega, by omega⟩, ?_⟩
  obtain ⟨N, rfl⟩ := Int.eq_ofNat_of_zero_le hb.1
  refine forL_range N (fun _ ρ => ∃ u1 u2 u3 u4 u5 u6 u9 u10 u11 u12 u13 u14 u15, ρ = [.dat (.list (ns.map .int)), u1, u2, u3, u4, u5, u6, .un, .un, slO u9, u10, u11, u12, u13, u14, u15]) (fun i ρ hi hI k hk => ?_) (fun ρ hI => ?_) _ ⟨_, _, _, _, _, _, none, _, _, _, _, _, _, rfl⟩
  · obtain ⟨u1, u2, u3, u4, u5, u6, u9, u10, u11, u12, u13, u14, u15, rfl⟩ := hI
    simp
    refine go h23 ⟨ns, rfl, ⟨by omega, by omega⟩, fun x y hxy => ?_⟩
    simp
    refine ⟨hxy, fun a => ?_⟩
    refine go h54 ⟨⟨by decide, by decide⟩, fun one h1 o1 => ?_⟩
    refine go h28 ⟨⟨⟨by decide, by decide⟩, ⟨by decide, by decide⟩⟩, fun p hp _ hpm => ?_⟩
    have ok1 : okM one := ⟨by omega, fun s hs => (o1 s hs).1⟩
    refine go h97 ⟨[one], rfl, sum1 ok1, ?_⟩
    simp
    refine compL_typ Row.enc (fun r => [encO (idx one r.coin)]) (fun r _ K hK => ?_) ?_
    · simp [Row.enc]
      exact go h55 ⟨one, _, rfl, rfl, ok1.l, hK⟩
    rw [List.nil_append, ← List.map_eq_flatMap]
    refine go h107 ⟨one, rfl, ok1, ?_⟩
    simp
    refine ⟨⟨by omega, by omega⟩, ?_⟩
    rw [rngL_nat]
    refine compL_typ (fun (n : Nat) => PyData.int (n : Int)) (fun j => if (!((rowsAll [one]).map fun r => idx one r.coin).any fun o => o == some j) = true then [.int (j : Int)] else []) (fun j hj K hK => ?_) ?_
    · simp [flat_O, eqv_O] at hK ⊢
      split <;> rename_i h
      · rwa [if_pos h] at hK
      · rwa [if_neg h] at hK
    rw [List.nil_append, flatMap_if (fun j : Nat => !((rowsAll [one]).map fun r => idx one r.coin).any fun o => o == some j) (fun j => PyData.int (j : Int))]
    have hidle : PyData.list (((List.range one.length).filter fun j : Nat => !((rowsAll [one]).map fun r => idx one r.coin).any fun o => o == some j).map fun (j : Nat) => PyData.int (j : Int)) = encN (idleOf one) := by rw [idle_rows ok1.2]; rfl
    rw [hidle]
    have hpl := hp.2.1
    have hol := ok1.1
    have f0 : PyData.list [] = encN [] := rfl
    simp [eqv_N, eqOk_N]
    refine ⟨⟨by omega, by omega⟩, ?_⟩
    rw [rngL_pred, ← rngL_nat]
    have hc1 : (List.range (one.length - 1)).filter (fun j => !apartR one (turnedAt one j) (rowsAll [one])) = exchOf one := by
      unfold exchOf
      congr 1
      funext j
      rw [apart_allS (fun s hs => turnedAt_mem hs) ok1.2, Bool.not_not]
    refine forL_range (one.length - 1) (fun j ρ => ∃ u6 u9 u11 u12 u13 u14 u15, ρ = [.dat (.list (ns.map .int)), .dat (.int (i : Int)), .cell a .bag, .dat (encM one), .dat p.enc, .dat (.list ((rowsAll [one]).map Row.enc)), u6, .un, .un, slO u9, .dat (encN ((List.range j).filter fun j => !apartR one (turnedAt one j) (rowsAll [one]))), u11, u12, u13, u14, u15]) (fun j ρ hj hI K hK => ?_) (fun ρ hI => ?_) _ ⟨_, _, _, _, _, _, _, rfl⟩
    · obtain ⟨u6, u9, u11, u12, u13, u14, u15, rfl⟩ := hI
      have n0 : (0 : Int) ≤ (j : Int) + 2 := by omega
      have t2 : ((j : Int) + 2).toNat = j + 2 := by omega
      simp [encM, cut_to, cut_from, cut_both, n0, t2]
      refine ⟨by rw [sizeLine_eq]; omega, by rw [sizeLine_eq]; omega, ?_⟩
      refine go h110 ⟨one, turnedAt one j, _, rfl, by simp [encM, turnedAt], rfl, ok1.l, okL_sub ok1.l (turnedAt_len _ _) fun s hs => turnedAt_mem hs, ?_⟩
      simp only [biD_int_b]
      refine rep_bool _ (!apartR one (turnedAt one j) (rowsAll [one])) _ ?_
      refine add_due (c := fun j => !apartR one (turnedAt one j) (rowsAll [one])) (n := j) (by omega) ?_
      exact hK _ ⟨_, some _, _, _, _, _, _, rfl⟩
    · obtain ⟨u6, u9, u11, u12, u13, u14, u15, rfl⟩ := hI
      rw [hc1]
      simp
      refine go h109 ⟨one, rfl, ok1, ?_⟩
      simp [eqv_N, eqOk_N]
      refine ⟨⟨by omega, by omega⟩, ?_⟩
      rw [f0]
      have hc2 : (List.range p.ms.length).filter (fun j => p.ks.all fun k => !apartR p.ms (lessBy p.ms j) (grid [p.ms] (bndsOf k) k.m)) = needlessOf p.ks p.ms := by
        unfold needlessOf
        congr 1
        funext j
        rw [Bool.eq_iff_iff, List.all_eq_true, List.all_eq_true]
        have : ∀ k ∈ p.ks, (!apartR p.ms (lessBy p.ms j) (grid [p.ms] (bndsOf k) k.m)) = sameK p.ms (lessBy p.ms j) k := fun k hk => by
          rw [apart_kindS (fun s hs => lessBy_mem hs) hp.2.2 (hp.1.2 k hk), Bool.not_not]
        exact ⟨fun h k hk => by rw [← this k hk]; exact h k hk, fun h k hk => by rw [this k hk]; exact h k hk⟩
      refine forL_range p.ms.length (fun j ρ => ∃ u3 u5 u6 u9 u11 u12 u13 u14 u15, ρ = [.dat (.list (ns.map .int)), .dat (.int (i : Int)), .cell a .bag, u3, .dat p.enc, u5, u6, .un, .un, slO u9, .dat (encN ((List.range j).filter fun j => p.ks.all fun k => !apartR p.ms (lessBy p.ms j) (grid [p.ms] (bndsOf k) k.m))), u11, u12, u13, u14, u15]) (fun j ρ hj hI K hK => ?_) (fun ρ hI => ?_) _ ⟨_, _, _, _, _, _, _, _, _, rfl⟩
      · obtain ⟨u3, u5, u6, u9, u11, u12, u13, u14, u15, rfl⟩ := hI
        have n0 : (0 : Int) ≤ (j : Int) + 1 := by omega
        have t1 : ((j : Int) + 1).toNat = j + 1 := by omega
        simp [encM, encKs, cut_to, cut_from, n0, t1]
        refine ⟨by rw [sizeLine_eq]; omega, ?_⟩
        have eL : PyData.tuple ((p.ms.map Stp.enc).take j ++ (p.ms.map Stp.enc).drop (j + 1)) = encM (lessBy p.ms j) := by simp [encM, lessBy]
        rw [eL]
        refine forL_inv Knd.enc (fun r ρ => ∃ pre u3 u5 u6 u11 u14 u15, p.ks = pre ++ r ∧ ρ = [.dat (.list (ns.map .int)), .dat (.int (i : Int)), .cell a .bag, u3, .dat p.enc, u5, u6, .un, .un, .dat (.int (j : Int)), .dat (encN ((List.range j).filter fun j => p.ks.all fun k => !apartR p.ms (lessBy p.ms j) (grid [p.ms] (bndsOf k) k.m))), u11, .dat (encM (lessBy p.ms j)), .dat (.bool (pre.all fun k => !apartR p.ms (lessBy p.ms j) (grid [p.ms] (bndsOf k) k.m))), u14, u15]) (fun kd r ρ hI K2 hK2 => ?_) (fun ρ hI => ?_) _ _ ⟨[], _, _, _, _, _, _, rfl, rfl⟩
        · obtain ⟨pre, u3, u5, u6, u11, u14, u15, e, rfl⟩ := hI
          have hkd : kd ∈ p.ks := by rw [e]; simp
          obtain ⟨g, hg⟩ : ∃ g : Bool, g = pre.all fun k => !apartR p.ms (lessBy p.ms j) (grid [p.ms] (bndsOf k) k.m) := ⟨_, rfl⟩
          have fin : ∀ h : Bool, h = (g && !apartR p.ms (lessBy p.ms j) (grid [p.ms] (bndsOf kd) kd.m)) → ∀ u3 u5 u6 u11 u14 u15, K2 [.dat (.list (ns.map .int)), .dat (.int (i : Int)), .cell a .bag, u3, .dat p.enc, u5, u6, .un, .un, .dat (.int (j : Int)), .dat (encN ((List.range j).filter fun j => p.ks.all fun k => !apartR p.ms (lessBy p.ms j) (grid [p.ms] (bndsOf k) k.m))), u11, .dat (encM (lessBy p.ms j)), .dat (.bool h), u14, u15] := fun h hh u3 u5 u6 u11 u14 u15 => hK2 _ ⟨pre ++ [kd], u3, u5, u6, u11, u14, u15, by rw [e]; simp, by rw [List.all_append, ← hg, hh]; simp⟩
          rw [← hg]
          simp
          simp only [Knd.enc, slD_t, cut_to _ (show (0 : Int) ≤ 3 by decide)]
          refine go h79 ⟨[p.ms], bndsOf kd, rfl, .inl rfl, sum1 hp.2, ?_⟩
          split
          · rename_i hgt
            refine go h110 ⟨p.ms, _, _, rfl, rfl, rfl, hp.2.l, okL_sub hp.2.l (lessBy_len _ _) fun s hs => lessBy_mem hs, ?_⟩
            exact fin _ (by rw [hgt]; simp) _ _ _ _ _ _
          · rename_i hgf
            exact fin false (by rw [show g = false by simpa using hgf]; rfl) _ _ _ _ _ _
        · obtain ⟨pre, u3, u5, u6, u11, u14, u15, e, rfl⟩ := hI
          rw [List.append_nil] at e
          subst e
          have hg : ∃ g : Bool, g = p.ks.all fun k => !apartR p.ms (lessBy p.ms j) (grid [p.ms] (bndsOf k) k.m) := ⟨_, rfl⟩
          obtain ⟨g, hg⟩ := hg
          rw [← hg]
          simp [-repD_l]
          refine rep_bool _ g _ ?_
          rw [hg]
          refine add_due (c := fun j => p.ks.all fun k => !apartR p.ms (lessBy p.ms j) (grid [p.ms] (bndsOf k) k.m)) (n := j) (by omega) ?_
          exact hK _ ⟨_, _, _, some _, _, _, _, _, _, rfl⟩
      · obtain ⟨u3, u5, u6, u9, u11, u12, u13, u14, u15, rfl⟩ := hI
        rw [hc2]
        simp
        refine go h108 ⟨p, rfl, hp, ?_⟩
        simp [eqv_N, eqOk_N]
        exact hk _ ⟨_, _, _, _, _, _, _, _, _, _, _, _, _, rfl⟩
  · obtain ⟨u1, u2, u3, u4, u5, u6, u9, u10, u11, u12, u13, u14, u15, rfl⟩ := hI
    simpa using q
end CC

namespace CC
open PySem PySem.Spec PyProof.Rows L2
/-! ### the least and the greatest of typed things -/
def bestOf {α : Type} (lt : α → α → Bool) (x : α) (xs : List α) : α := xs.foldl (fun a y => if lt y a then y else a) x
theorem best_spec {α : Type} {lt : α → α → Bool} (ir : ∀ a, lt a a = false) (tr : ∀ a b c, lt a b = true → lt b c = true → lt a c = true) : ∀ (xs : List α) (x : α) (seen : List α), x ∈ seen → (∀ y ∈ seen, lt y x = false) → bestOf lt x xs ∈ seen ++ xs ∧ ∀ y ∈ seen ++ xs, lt y (bestOf lt x xs) = false
  | [], x, seen, h1, h2 => by simpa [bestOf] using ⟨h1, h2⟩
  | y :: r, x, seen, h1, h2 => by
    unfold bestOf
    rw [List.foldl_cons]
    have e : seen ++ y :: r = (seen ++ [y]) ++ r := by simp
    rw [e]
    by_cases h : lt y x = true
    · rw [if_pos h]
      refine best_spec ir tr r y (seen ++ [y]) (by simp) fun z hz => ?_
      rcases List.mem_append.mp hz with hz | hz
      · cases q : lt z y with
        | false => rfl
        | true => have := tr _ _ _ q h; rw [h2 z hz] at this; cases this
      · rw [List.mem_singleton.mp hz]; exact ir y
    · rw [if_neg h]
      refine best_spec ir tr r x (seen ++ [y]) (List.mem_append_left _ h1) fun z hz => ?_
      rcases List.mem_append.mp hz with hz | hz
      · exact h2 z hz
      · rw [List.mem_singleton.mp hz]; simpa using h
theorem best_of {α : Type} {lt : α → α → Bool} (ir : ∀ a, lt a a = false) (tr : ∀ a b c, lt a b = true → lt b c = true → lt a c = true) (x : α) (xs : List α) : bestOf lt x xs ∈ x :: xs ∧ ∀ y ∈ x :: xs, lt y (bestOf lt x xs) = false :=
  best_spec ir tr xs x [x] (by simp) fun y hy => by rw [List.mem_singleton.mp hy]; exact ir x
theorem minD_typ {α : Type} (enc : α → D) (lt : α → α → Bool) (h : ∀ a b, PySem.W.dataLt (enc a) (enc b) = lt a b) : ∀ (xs : List α) (x : α), PySem.W.minD (enc x) (xs.map enc) = enc (bestOf lt x xs)
  | [], _ => rfl
  | y :: r, x => by
    have ih := minD_typ enc lt h r
    unfold PySem.W.minD bestOf at *
    rw [List.map_cons, List.foldl_cons, List.foldl_cons, h]
    cases lt y x
    · exact ih x
    · exact ih y
theorem maxD_typ {α : Type} (enc : α → D) (lt : α → α → Bool) (h : ∀ a b, PySem.W.dataLt (enc a) (enc b) = lt a b) : ∀ (xs : List α) (x : α), PySem.W.maxD (enc x) (xs.map enc) = enc (bestOf (fun a b => lt b a) x xs)
  | [], _ => rfl
  | y :: r, x => by
    have ih := maxD_typ enc lt h r
    unfold PySem.W.maxD bestOf at *
    rw [List.map_cons, List.foldl_cons, List.foldl_cons, h]
    dsimp only
    by_cases hq : lt x y = true
    · rw [if_pos hq, if_pos hq]; exact ih y
    · rw [if_neg hq, if_neg hq]; exact ih x
def ltI (a b : Int) : Bool := decide (a < b)
def ltP (a b : Int × Int) : Bool := decide (a.1 < b.1) || (decide (a.1 = b.1) && decide (a.2 < b.2))
theorem ltI_ir (a : Int) : ltI a a = false := by simp [ltI]
theorem ltI_tr (a b c : Int) (h : ltI a b = true) (k : ltI b c = true) : ltI a c = true := by simp [ltI] at *; omega
theorem ltP_iff {a b : Int × Int} : ltP a b = true ↔ a.1 < b.1 ∨ (a.1 = b.1 ∧ a.2 < b.2) := by simp [ltP]
theorem ltP_ir (a : Int × Int) : ltP a a = false := by simp [ltP]
theorem ltP_tr (a b c : Int × Int) (h : ltP a b = true) (k : ltP b c = true) : ltP a c = true := by rw [ltP_iff] at *; omega
theorem ltP_no {a b : Int × Int} (h : ltP a b = false) : b.1 < a.1 ∨ (b.1 = a.1 ∧ b.2 ≤ a.2) := by
  have : ¬ (a.1 < b.1 ∨ (a.1 = b.1 ∧ a.2 < b.2)) := fun z => by rw [ltP_iff.mpr z] at h; cases h
  omega
theorem dataLt_I (a b : Int) : PySem.W.dataLt (.int a) (.int b) = ltI a b := PySem.W.dataLt_int a b
def encPr (p : Int × Int) : D := .tuple [.int p.1, .int p.2]
theorem dataLt_P (a b : Int × Int) : PySem.W.dataLt (encPr a) (encPr b) = ltP a b := by
  have h1 : ∀ x y : Int, PyProof.Rows.lexLt PyProof.Rows.itemOrd [Sum.inl x] [Sum.inl y] = decide (x < y) := fun x y => by
    have := PySem.W.dataLt_int x y
    unfold PySem.W.dataLt at this
    simpa only [PySem.W.keyToks] using this
  unfold PySem.W.dataLt encPr ltP
  simp only [PySem.W.keyToks, PySem.W.keyToksAll, List.cons_append, List.nil_append]
  have l0 := PySem.W.lex_pre [.inl 1] [.inl a.1, .inl 1, .inl a.2, .inl 0] [.inl b.1, .inl 1, .inl b.2, .inl 0]
  simp only [List.cons_append, List.nil_append] at l0
  rw [l0]
  by_cases e : a.1 = b.1
  · rw [e]
    have l1 := PySem.W.lex_pre [.inl b.1, .inl 1] [.inl a.2, .inl 0] [.inl b.2, .inl 0]
    simp only [List.cons_append, List.nil_append] at l1
    rw [l1]
    by_cases f : a.2 = b.2
    · rw [f]
      have l2 := PySem.W.lex_pre [.inl b.2, .inl 0] [] []
      simp only [List.cons_append, List.nil_append] at l2
      rw [l2]
      simp
      rfl
    · rw [PySem.W.lex_atom (by simpa using f), h1]
      simp
  · rw [PySem.W.lex_atom (by simpa using e), h1]
    simp [e]
theorem alikeI (xs : List Int) : PySem.W.AlikeAll (xs.map .int) := ⟨fun x hx y hy => by
  obtain ⟨a, _, rfl⟩ := List.mem_map.mp hx
  obtain ⟨b, _, rfl⟩ := List.mem_map.mp hy
  simp [PySem.W.alike], fun x hx e => by
  obtain ⟨a, _, rfl⟩ := List.mem_map.mp hx
  cases e⟩
theorem alikeP (xs : List (Int × Int)) : PySem.W.AlikeAll (xs.map encPr) := ⟨fun x hx y hy => by
  obtain ⟨a, _, rfl⟩ := List.mem_map.mp hx
  obtain ⟨b, _, rfl⟩ := List.mem_map.mp hy
  simp [encPr, PySem.W.alike, PySem.W.alikeAll], fun x hx e => by
  obtain ⟨a, _, rfl⟩ := List.mem_map.mp hx
  cases e⟩
theorem depthI (xs : List Int) : PyData.depthAll (xs.map .int) ≤ 60 := Nat.le_trans (dep_all (n := 0) fun d hd => by
  obtain ⟨a, _, rfl⟩ := List.mem_map.mp hd
  simp [PyData.depth]) (by decide)
theorem depthP (xs : List (Int × Int)) : PyData.depthAll (xs.map encPr) ≤ 60 := Nat.le_trans (dep_all (n := 1) fun d hd => by
  obtain ⟨a, _, rfl⟩ := List.mem_map.mp hd
  simp [encPr, PyData.depth, PyData.depthAll]) (by decide)
/-! ### the bounds of some measures -/
abbrev MS := Int × Int → Prop
def LowOf (S : MS) (n : Int) (t : Bool) : Prop := (∀ r, S r → n * r.2 ≤ r.1) ∧ (∀ m : Int, (∀ r, S r → m * r.2 ≤ r.1) → m ≤ n) ∧ (t = true ↔ ∃ r, S r ∧ r.1 = n * r.2)
def HighOf (S : MS) (n : Int) (t : Bool) : Prop := (∀ r, S r → r.1 ≤ n * r.2) ∧ (∀ m : Int, (∀ r, S r → r.1 ≤ m * r.2) → n ≤ m) ∧ (t = true ↔ ∃ r, S r ∧ r.1 = n * r.2)
def Unb (S : MS) : Prop := ∀ m : Int, ∃ r, S r ∧ m * r.2 < r.1
theorem low_uniq {S T : MS} (h : ∀ r, S r ↔ T r) {n m : Int} {t u : Bool} (a : LowOf S n t) (b : LowOf T m u) : n = m ∧ t = u := by
  have e : n = m := by
    have h1 := a.2.1 m fun r hr => b.1 r ((h r).mp hr)
    have h2 := b.2.1 n fun r hr => a.1 r ((h r).mpr hr)
    omega
  subst e
  refine ⟨rfl, ?_⟩
  rw [Bool.eq_iff_iff, a.2.2, b.2.2]
  constructor
  · rintro ⟨r, h1, h2⟩; exact ⟨r, (h r).mp h1, h2⟩
  · rintro ⟨r, h1, h2⟩; exact ⟨r, (h r).mpr h1, h2⟩
theorem high_uniq {S T : MS} (h : ∀ r, S r ↔ T r) {n m : Int} {t u : Bool} (a : HighOf S n t) (b : HighOf T m u) : n = m ∧ t = u := by
  have e : n = m := by
    have h1 := a.2.1 m fun r hr => b.1 r ((h r).mp hr)
    have h2 := b.2.1 n fun r hr => a.1 r ((h r).mpr hr)
    omega
  subst e
  refine ⟨rfl, ?_⟩
  rw [Bool.eq_iff_iff, a.2.2, b.2.2]
  constructor
  · rintro ⟨r, h1, h2⟩; exact ⟨r, (h r).mp h1, h2⟩
  · rintro ⟨r, h1, h2⟩; exact ⟨r, (h r).mpr h1, h2⟩
/-- the numbers of some spans -/
def SpS (ss : List Span) : MS := fun r => 0 < r.2 ∧ ∃ s ∈ ss, inS s r
/-- bounds that are told by even numbers -/
def evS (s : Span) : Prop := (∃ a, s.lo = 2 * a) ∧ ∀ h, s.hi = some h → ∃ b, h = 2 * b
theorem span_lo {s : Span} {r : Int × Int} (h : inS s r) : s.lo * r.2 ≤ 2 * r.1 := by
  have := h.1
  unfold geLo at this
  split at this <;> omega
theorem span_hi {s : Span} {r : Int × Int} {x : Int} (e : s.hi = some x) (h : inS s r) : 2 * r.1 ≤ x * r.2 := by
  have := h.2
  unfold leHi at this
  rw [e] at this
  simp only at this
  split at this <;> omega
theorem span_near {s : Span} (h : isSome s = true) (hl : s.hl = false) : inS s (2 * s.lo + 1, 4) := by
  obtain ⟨lo, l, hi, hh⟩ := s
  simp only at hl
  subst hl
  unfold isSome at h
  refine ⟨?_, ?_⟩
  · show lo * 4 < 2 * (2 * lo + 1); omega
  · cases hi with
    | none => trivial
    | some x =>
      simp only [Bool.false_and, Bool.and_false, Bool.or_false, decide_eq_true_eq] at h
      show if hh = true then 2 * (2 * lo + 1) ≤ x * 4 else 2 * (2 * lo + 1) < x * 4
      split <;> omega
theorem span_at {s : Span} (h : isSome s = true) (hl : s.hl = true) : inS s (s.lo, 2) := by
  obtain ⟨lo, l, hi, hh⟩ := s
  simp only at hl
  subst hl
  unfold isSome at h
  refine ⟨?_, ?_⟩
  · show lo * 2 ≤ 2 * lo; omega
  · cases hi with
    | none => trivial
    | some x =>
      simp only [Bool.true_and, Bool.or_eq_true, Bool.and_eq_true, decide_eq_true_eq] at h
      show if hh = true then 2 * lo ≤ x * 2 else 2 * lo < x * 2
      split
      · omega
      · rename_i q
        rcases h with h | ⟨_, h⟩
        · omega
        · exact absurd h q
theorem span_nearH {s : Span} {x : Int} (e : s.hi = some x) (h : isSome s = true) (hl : s.hh = false) : inS s (2 * x - 1, 4) := by
  obtain ⟨lo, l, hi, hh⟩ := s
  simp only at hl e
  subst hl
  subst e
  unfold isSome at h
  simp only [Bool.and_false, Bool.or_false, decide_eq_true_eq] at h
  refine ⟨?_, ?_⟩
  · show if l = true then lo * 4 ≤ 2 * (2 * x - 1) else lo * 4 < 2 * (2 * x - 1)
    split <;> omega
  · show 2 * (2 * x - 1) < x * 4
    omega
theorem span_atH {s : Span} {x : Int} (e : s.hi = some x) (h : isSome s = true) (hl : s.hh = true) : inS s (x, 2) := by
  obtain ⟨lo, l, hi, hh⟩ := s
  simp only at hl e
  subst hl
  subst e
  unfold isSome at h
  simp only [Bool.and_true, Bool.or_eq_true, Bool.and_eq_true, decide_eq_true_eq] at h
  refine ⟨?_, ?_⟩
  · show if l = true then lo * 2 ≤ 2 * x else lo * 2 < 2 * x
    split
    · omega
    · rename_i q
      rcases h with h | ⟨_, h⟩
      · omega
      · exact absurd h q
  · show 2 * x ≤ x * 2
    omega
theorem low_spans {ss : List Span} {n : Int} (ok : ∀ s ∈ ss, isSome s = true) (hm : ∃ s ∈ ss, s.lo = 2 * n) (hle : ∀ s ∈ ss, 2 * n ≤ s.lo) : LowOf (SpS ss) n (ss.any fun s => decide (s.lo = 2 * n) && s.hl) := by
  have dbl : ∀ a d : Int, 2 * a * d = 2 * (a * d) := fun a d => Int.mul_assoc 2 a d
  refine ⟨?_, ?_, ?_⟩
  · rintro r ⟨h0, s, hs, h⟩
    have h1 := span_lo h
    have h2 := mul_le' (hle s hs) h0
    rw [dbl] at h2
    omega
  · intro m h
    obtain ⟨s, hs, e⟩ := hm
    cases q : s.hl with
    | true =>
      have := h (s.lo, 2) ⟨by show (0 : Int) < 2; decide, s, hs, span_at (ok s hs) q⟩
      simp only at this
      omega
    | false =>
      have := h (2 * s.lo + 1, 4) ⟨by show (0 : Int) < 4; decide, s, hs, span_near (ok s hs) q⟩
      simp only at this
      omega
  · rw [List.any_eq_true]
    constructor
    · rintro ⟨s, hs, h⟩
      simp only [Bool.and_eq_true, decide_eq_true_eq] at h
      exact ⟨(s.lo, 2), ⟨by show (0 : Int) < 2; decide, s, hs, span_at (ok s hs) h.2⟩, by show s.lo = n * 2; omega⟩
    · rintro ⟨r, ⟨h0, s, hs, h⟩, e⟩
      refine ⟨s, hs, ?_⟩
      have h1 := span_lo h
      have h2 := mul_le' (hle s hs) h0
      rw [dbl] at h2
      have h3 : s.lo = 2 * n := by
        by_cases z : 2 * n < s.lo
        · have := mul_lt' z h0
          rw [dbl] at this
          omega
        · have := hle s hs
          omega
      simp only [Bool.and_eq_true, decide_eq_true_eq]
      refine ⟨h3, ?_⟩
      cases q : s.hl with
      | true => rfl
      | false =>
        have := h.1
        unfold geLo at this
        rw [q, h3, dbl] at this
        simp at this
        omega
theorem high_spans {ss : List Span} {n : Int} (ok : ∀ s ∈ ss, isSome s = true) (hm : ∃ s ∈ ss, s.hi = some (2 * n)) (hle : ∀ s ∈ ss, ∃ x, s.hi = some x ∧ x ≤ 2 * n) : HighOf (SpS ss) n (ss.any fun s => decide (s.hi = some (2 * n)) && s.hh) := by
  have dbl : ∀ a d : Int, 2 * a * d = 2 * (a * d) := fun a d => Int.mul_assoc 2 a d
  refine ⟨?_, ?_, ?_⟩
  · rintro r ⟨h0, s, hs, h⟩
    obtain ⟨x, e, hx⟩ := hle s hs
    have h1 := span_hi e h
    have h2 := mul_le' hx h0
    rw [dbl] at h2
    omega
  · intro m h
    obtain ⟨s, hs, e⟩ := hm
    cases q : s.hh with
    | true =>
      have := h (2 * n, 2) ⟨by show (0 : Int) < 2; decide, s, hs, span_atH e (ok s hs) q⟩
      simp only at this
      omega
    | false =>
      have := h (2 * (2 * n) - 1, 4) ⟨by show (0 : Int) < 4; decide, s, hs, span_nearH e (ok s hs) q⟩
      simp only at this
      omega
  · rw [List.any_eq_true]
    constructor
    · rintro ⟨s, hs, h⟩
      simp only [Bool.and_eq_true, decide_eq_true_eq] at h
      exact ⟨(2 * n, 2), ⟨by show (0 : Int) < 2; decide, s, hs, span_atH h.1 (ok s hs) h.2⟩, by show 2 * n = n * 2; omega⟩
    · rintro ⟨r, ⟨h0, s, hs, h⟩, e⟩
      refine ⟨s, hs, ?_⟩
      obtain ⟨x, ex, hx⟩ := hle s hs
      have h1 := span_hi ex h
      have h3 : x = 2 * n := by
        by_cases z : x < 2 * n
        · have := mul_lt' z h0
          rw [dbl] at this
          omega
        · omega
      simp only [Bool.and_eq_true, decide_eq_true_eq]
      refine ⟨by rw [ex, h3], ?_⟩
      cases q : s.hh with
      | true => rfl
      | false =>
        have := h.2
        unfold leHi at this
        rw [ex, q, h3] at this
        simp at this
        rw [dbl] at this
        omega
theorem unb_spans {ss : List Span} (ok : ∀ s ∈ ss, isSome s = true) : Unb (SpS ss) ↔ ∃ s ∈ ss, s.hi = none := by
  constructor
  · intro h
    apply Classical.byContradiction
    intro z
    -- some bound of all
    have bd : ∃ m : Int, ∀ s ∈ ss, ∃ x, s.hi = some x ∧ x ≤ 2 * m := by
      clear h
      induction ss with
      | nil => exact ⟨0, fun _ h => nomatch h⟩
      | cons s r ih =>
        obtain ⟨m, hm⟩ := ih (fun s hs => ok s (List.mem_cons_of_mem _ hs)) fun ⟨s, hs, e⟩ => z ⟨s, List.mem_cons_of_mem _ hs, e⟩
        cases e : s.hi with
        | none => exact absurd ⟨s, List.mem_cons_self, e⟩ z
        | some x =>
          refine ⟨max m x + (if x < 0 then 0 else 0) + (if max m x < 0 then -(max m x) else 0), fun t ht => ?_⟩
          have m1 := Int.le_max_left m x
          have m2 := Int.le_max_right m x
          rcases List.mem_cons.mp ht with rfl | ht
          · exact ⟨x, e, by split <;> split <;> omega⟩
          · obtain ⟨y, ey, hy⟩ := hm t ht
            exact ⟨y, ey, by split <;> split <;> omega⟩
    obtain ⟨m, hm⟩ := bd
    obtain ⟨r, ⟨h0, s, hs, hin⟩, hr⟩ := h m
    obtain ⟨x, ex, hx⟩ := hm s hs
    have h1 := span_hi ex hin
    have h2 := mul_le' hx h0
    rw [Int.mul_assoc] at h2
    omega
  · rintro ⟨s, hs, e⟩ m
    refine ⟨(2 * (if m < 0 then 0 else m) + (if s.lo < 0 then 0 else s.lo) + 1, 1), ⟨by show (0 : Int) < 1; decide, s, hs, ?_, ?_⟩, ?_⟩
    · show if s.hl = true then s.lo * 1 ≤ 2 * (_ + _ + 1) else s.lo * 1 < 2 * (_ + _ + 1)
      split <;> split <;> split <;> omega
    · unfold leHi; rw [e]; trivial
    · show m * 1 < _ + _ + 1
      split <;> split <;> omega
end CC

namespace CC
open PySem PySem.Spec PyProof.Rows L2
/-! ### the numbers of some cells -/
def CeS (cs : List Cell) : MS := fun q => 0 < q.2 ∧ ∃ c ∈ cs, fits c q
def okC (c : Cell) : Prop := fits c c.s ∧ 0 < c.s.2
def lowC (c : Cell) : Int × Int := (c.a, if c.b = some c.a then 0 else 1)
def highC (c : Cell) : Int × Int := (c.b.getD 0, if c.b = some c.a then 1 else 0)
theorem fits_pt {c : Cell} (h : c.b = some c.a) {q : Int × Int} : fits c q ↔ q.1 = c.a * q.2 := by
  unfold fits
  rw [h]
  simp
theorem fits_op {c : Cell} {y : Int} (e : c.b = some y) (h : c.a ≠ y) {q : Int × Int} : fits c q ↔ c.a * q.2 < q.1 ∧ q.1 < y * q.2 := by
  unfold fits
  rw [e]
  simp [h]
theorem fits_inf {c : Cell} (e : c.b = none) {q : Int × Int} : fits c q ↔ c.a * q.2 < q.1 := by
  unfold fits
  rw [e]
theorem cell_lt {c : Cell} {y : Int} (ok : okC c) (e : c.b = some y) (h : c.a ≠ y) : c.a < y := by
  obtain ⟨h1, h2⟩ := ok
  rw [fits_op e h] at h1
  by_cases z : c.a < y
  · exact z
  · have := mul_le' (show y ≤ c.a by omega) h2
    omega
theorem fits_lo {c : Cell} {q : Int × Int} (h : fits c q) : c.a * q.2 ≤ q.1 := by
  cases e : c.b with
  | none => rw [fits_inf e] at h; omega
  | some y =>
    by_cases z : c.a = y
    · subst z; rw [fits_pt e] at h; omega
    · rw [fits_op e z] at h; omega
theorem fits_hi {c : Cell} {y : Int} (e : c.b = some y) {q : Int × Int} (h : fits c q) : q.1 ≤ y * q.2 := by
  by_cases z : c.a = y
  · subst z; rw [fits_pt e] at h; omega
  · rw [fits_op e z] at h; omega
theorem low_cells {cs : List Cell} {m : Int × Int} (ok : ∀ c ∈ cs, okC c) (hm : ∃ c ∈ cs, lowC c = m) (hle : ∀ c ∈ cs, ltP (lowC c) m = false) : LowOf (CeS cs) m.1 (decide (m.2 = 0)) := by
  have le : ∀ c ∈ cs, m.1 ≤ c.a := fun c hc => by
    have := ltP_no (hle c hc)
    simp only [lowC] at this
    omega
  refine ⟨?_, ?_, ?_⟩
  · rintro r ⟨h0, c, hc, h⟩
    have h1 := fits_lo h
    have h2 := mul_le' (le c hc) h0
    omega
  · intro k h
    obtain ⟨c, hc, e⟩ := hm
    have e1 : c.a = m.1 := congrArg Prod.fst e
    by_cases p : c.b = some c.a
    · have := h (c.a, 1) ⟨by show (0 : Int) < 1; decide, c, hc, (fits_pt p).mpr (by show c.a = c.a * 1; omega)⟩
      simp only at this
      omega
    · have f : fits c (2 * c.a + 1, 2) := by
        cases eb : c.b with
        | none => rw [fits_inf eb]; show c.a * 2 < 2 * c.a + 1; omega
        | some y =>
          have ny : c.a ≠ y := fun z => p (by rw [eb, z])
          have := cell_lt (ok c hc) eb ny
          rw [fits_op eb ny]
          show c.a * 2 < 2 * c.a + 1 ∧ 2 * c.a + 1 < y * 2
          omega
      have := h (2 * c.a + 1, 2) ⟨by show (0 : Int) < 2; decide, c, hc, f⟩
      simp only at this
      omega
  · rw [decide_eq_true_eq]
    constructor
    · intro h0
      obtain ⟨c, hc, e⟩ := hm
      have e1 : c.a = m.1 := congrArg Prod.fst e
      have e2 : (if c.b = some c.a then (0 : Int) else 1) = m.2 := congrArg Prod.snd e
      have p : c.b = some c.a := by
        by_cases z : c.b = some c.a
        · exact z
        · rw [if_neg z] at e2; omega
      exact ⟨(c.a, 1), ⟨by show (0 : Int) < 1; decide, c, hc, (fits_pt p).mpr (by show c.a = c.a * 1; omega)⟩, by show c.a = m.1 * 1; omega⟩
    · rintro ⟨r, ⟨h0, c, hc, h⟩, e⟩
      have l1 := le c hc
      have p : c.a = m.1 ∧ c.b = some c.a := by
        have h1 := fits_lo h
        have ea : c.a = m.1 := by
          by_cases z : m.1 < c.a
          · have := mul_lt' z h0; omega
          · omega
        refine ⟨ea, ?_⟩
        rw [← ea] at e
        cases eb : c.b with
        | none => rw [fits_inf eb] at h; omega
        | some y =>
          by_cases z : c.a = y
          · rw [z]
          · rw [fits_op eb z] at h; omega
      have := ltP_no (hle c hc)
      simp only [lowC, p.2, if_true] at this
      obtain ⟨d, hd, ed⟩ := hm
      have e2 : (if d.b = some d.a then (0 : Int) else 1) = m.2 := congrArg Prod.snd ed
      split at e2 <;> omega
theorem high_cells {cs : List Cell} {m : Int × Int} (ok : ∀ c ∈ cs, okC c) (hb : ∀ c ∈ cs, c.b ≠ none) (hm : ∃ c ∈ cs, highC c = m) (hle : ∀ c ∈ cs, ltP m (highC c) = false) : HighOf (CeS cs) m.1 (decide (m.2 = 1)) := by
  have some' : ∀ c ∈ cs, c.b = some (c.b.getD 0) := fun c hc => by
    cases e : c.b with
    | none => exact absurd e (hb c hc)
    | some y => rfl
  have le : ∀ c ∈ cs, c.b.getD 0 ≤ m.1 := fun c hc => by
    have := ltP_no (hle c hc)
    simp only [highC] at this
    omega
  refine ⟨?_, ?_, ?_⟩
  · rintro r ⟨h0, c, hc, h⟩
    have h1 := fits_hi (some' c hc) h
    have h2 := mul_le' (le c hc) h0
    omega
  · intro k h
    obtain ⟨c, hc, e⟩ := hm
    have e1 : c.b.getD 0 = m.1 := congrArg Prod.fst e
    by_cases p : c.b = some c.a
    · have ea : c.a = m.1 := by rw [← e1, p]; rfl
      have := h (c.a, 1) ⟨by show (0 : Int) < 1; decide, c, hc, (fits_pt p).mpr (by show c.a = c.a * 1; omega)⟩
      simp only at this
      omega
    · have eb := some' c hc
      rw [e1] at eb
      have ny : c.a ≠ m.1 := fun z => p (by rw [eb, z])
      have lt := cell_lt (ok c hc) eb ny
      have f : fits c (2 * m.1 - 1, 2) := by
        rw [fits_op eb ny]
        show c.a * 2 < 2 * m.1 - 1 ∧ 2 * m.1 - 1 < m.1 * 2
        omega
      have := h (2 * m.1 - 1, 2) ⟨by show (0 : Int) < 2; decide, c, hc, f⟩
      simp only at this
      omega
  · rw [decide_eq_true_eq]
    constructor
    · intro h0
      obtain ⟨c, hc, e⟩ := hm
      have e1 : c.b.getD 0 = m.1 := congrArg Prod.fst e
      have e2 : (if c.b = some c.a then (1 : Int) else 0) = m.2 := congrArg Prod.snd e
      have p : c.b = some c.a := by
        by_cases z : c.b = some c.a
        · exact z
        · rw [if_neg z] at e2; omega
      have ea : c.a = m.1 := by rw [← e1, p]; rfl
      exact ⟨(c.a, 1), ⟨by show (0 : Int) < 1; decide, c, hc, (fits_pt p).mpr (by show c.a = c.a * 1; omega)⟩, by show c.a = m.1 * 1; omega⟩
    · rintro ⟨r, ⟨h0, c, hc, h⟩, e⟩
      have l1 := le c hc
      have eb := some' c hc
      have h1 := fits_hi eb h
      have ey : c.b.getD 0 = m.1 := by
        by_cases z : c.b.getD 0 < m.1
        · have := mul_lt' z h0; omega
        · omega
      rw [ey] at eb
      have ea : c.a = m.1 := by
        by_cases z : c.a = m.1
        · exact z
        · rw [fits_op eb z] at h; omega
      have p : c.b = some c.a := by rw [eb, ea]
      have := ltP_no (hle c hc)
      simp only [highC, p, if_true] at this
      obtain ⟨d, hd, ed⟩ := hm
      have e2 : (if d.b = some d.a then (1 : Int) else 0) = m.2 := congrArg Prod.snd ed
      split at e2 <;> simp at this <;> omega
theorem unb_cells {cs : List Cell} (ok : ∀ c ∈ cs, okC c) : Unb (CeS cs) ↔ ∃ c ∈ cs, c.b = none := by
  constructor
  · intro h
    apply Classical.byContradiction
    intro z
    have bd : ∃ m : Int, ∀ c ∈ cs, ∃ x, c.b = some x ∧ x ≤ m := by
      clear h
      induction cs with
      | nil => exact ⟨0, fun _ h => nomatch h⟩
      | cons s r ih =>
        obtain ⟨m, hm⟩ := ih (fun s hs => ok s (List.mem_cons_of_mem _ hs)) fun ⟨s, hs, e⟩ => z ⟨s, List.mem_cons_of_mem _ hs, e⟩
        cases e : s.b with
        | none => exact absurd ⟨s, List.mem_cons_self, e⟩ z
        | some x =>
          refine ⟨max m x, fun t ht => ?_⟩
          have m1 := Int.le_max_left m x
          have m2 := Int.le_max_right m x
          rcases List.mem_cons.mp ht with rfl | ht
          · exact ⟨x, e, by omega⟩
          · obtain ⟨y, ey, hy⟩ := hm t ht
            exact ⟨y, ey, by omega⟩
    obtain ⟨m, hm⟩ := bd
    obtain ⟨r, ⟨h0, s, hs, hin⟩, hr⟩ := h m
    obtain ⟨x, ex, hx⟩ := hm s hs
    have h1 := fits_hi ex hin
    have h2 := mul_le' hx h0
    omega
  · rintro ⟨c, hc, e⟩ m
    refine ⟨((if m < c.a then c.a else m) + 1, 1), ⟨by show (0 : Int) < 1; decide, c, hc, ?_⟩, ?_⟩
    · rw [fits_inf e]
      show c.a * 1 < _ + 1
      split <;> omega
    · show m * 1 < _ + 1
      split <;> omega
/-! ### rows of a grid that tell where coins come -/
def fitsR (r : Row) (c : Coin) : Prop := fits r.x c.w ∧ fits r.y c.t ∧ fits r.z c.h
structure RowsTell (R : List Row) (ms : List Stp) (dom : Coin → Prop) : Prop where
  cover : ∀ c : Coin, c.pos → dom c → ∃ r ∈ R, r.m = c.m ∧ fitsR r c
  sound : ∀ r ∈ R, ∀ c : Coin, c.pos → c.m = r.m → fitsR r c → dom c ∧ endOf ms c = endOf ms r.coin
  fine : ∀ r ∈ R, okC r.x ∧ okC r.y ∧ okC r.z
theorem cell_sim {lo : Int} {hi : Option Int} {inner ls : List Int} (w : Well lo hi inner) (hls : ∀ l ∈ ls, l ∈ inner ∨ ¬ btw lo hi l) {c : Cell} (hc : c ∈ cells lo hi inner) {q : Int × Int} (hq : 0 < q.2) (hf : fits c q) : sim ls q c.s ∧ Dom lo hi q := by
  obtain ⟨h1, h2, h3, h4⟩ := cells_mem w c hc
  refine ⟨fits_sim hq h2 hf h1 fun l hl => h4 l (hls l hl), ?_⟩
  have hlo : ¬ btw lo hi lo := fun z => by have := z.1; omega
  have s1 := fits_sim (ls := [lo]) hq h2 hf h1 (fun l hl => by rw [List.mem_singleton.mp hl]; exact h4 lo (.inr hlo)) lo (List.mem_singleton.mpr rfl)
  refine ⟨?_, ?_⟩
  · have := h3.1
    by_cases z : lo = 0
    · rw [if_pos z] at this ⊢
      rw [z] at s1
      omega
    · rw [if_neg z] at this ⊢
      exact s1.2.mpr this
  · cases hi with
    | none => trivial
    | some h =>
      have hh : ¬ btw lo (some h) h := fun z => by
        have : h < h := z.2
        omega
      have s2 := fits_sim (ls := [h]) hq h2 hf h1 (fun l hl => by rw [List.mem_singleton.mp hl]; exact h4 h (.inr hh)) h (List.mem_singleton.mpr rfl)
      exact s2.1.mpr h3.2
theorem rows_tell {ms : List Stp} {b : Bnds} (hb : b.ok) (g : Bool) : RowsTell (grid [ms] b g) ms fun c => c.m = g ∧ DomC b c where
  cover := fun c hc ⟨e, d⟩ => by
    subst e
    obtain ⟨x, hx, fx⟩ := cells_cover (well_of hb.1 (limitsOf [ms] .hole)) hc.1 d.1
    obtain ⟨y, hy, fy⟩ := cells_cover (well_of hb.2.1 (limitsOf [ms] .gap)) hc.2.1 d.2.1
    obtain ⟨z, hz, fz⟩ := cells_cover (well_of hb.2.2 (limitsOf [ms] .scale)) hc.2.2 d.2.2
    exact ⟨⟨x, y, z, c.m⟩, List.mem_flatMap.mpr ⟨x, hx, List.mem_flatMap.mpr ⟨y, hy, List.mem_map.mpr ⟨z, hz, rfl⟩⟩⟩, rfl, fx, fy, fz⟩
  sound := fun r hr c hc e hf => by
    obtain ⟨x, hx, hr⟩ := List.mem_flatMap.mp hr
    obtain ⟨y, hy, hr⟩ := List.mem_flatMap.mp hr
    obtain ⟨z, hz, rfl⟩ := List.mem_map.mp hr
    obtain ⟨s1, d1⟩ := cell_sim (well_of hb.1 _) (in_or _ (limitsOf [ms] .hole)) hx hc.1 hf.1
    obtain ⟨s2, d2⟩ := cell_sim (well_of hb.2.1 _) (in_or _ (limitsOf [ms] .gap)) hy hc.2.1 hf.2.1
    obtain ⟨s3, d3⟩ := cell_sim (well_of hb.2.2 _) (in_or _ (limitsOf [ms] .scale)) hz hc.2.2 hf.2.2
    exact ⟨⟨e, d1, d2, d3⟩, end_congr (sim_takes (ms := [ms]) (q := (⟨x, y, z, g⟩ : Row).coin) s1 s2 s3 e ms (List.mem_singleton.mpr rfl))⟩
  fine := fun r hr => by
    obtain ⟨x, hx, hr⟩ := List.mem_flatMap.mp hr
    obtain ⟨y, hy, hr⟩ := List.mem_flatMap.mp hr
    obtain ⟨z, hz, rfl⟩ := List.mem_map.mp hr
    obtain ⟨a1, a2, _⟩ := cells_mem (well_of hb.1 _) x hx
    obtain ⟨b1, b2, _⟩ := cells_mem (well_of hb.2.1 _) y hy
    obtain ⟨c1, c2, _⟩ := cells_mem (well_of hb.2.2 _) z hz
    exact ⟨⟨a1, a2⟩, ⟨b1, b2⟩, ⟨c1, c2⟩⟩
theorem RowsTell.append {R T : List Row} {ms : List Stp} {d e : Coin → Prop} (h : RowsTell R ms d) (k : RowsTell T ms e) : RowsTell (R ++ T) ms fun c => d c ∨ e c where
  cover := fun c hc hd => by
    rcases hd with hd | hd
    · obtain ⟨p, hp, q⟩ := h.cover c hc hd
      exact ⟨p, List.mem_append_left _ hp, q⟩
    · obtain ⟨p, hp, q⟩ := k.cover c hc hd
      exact ⟨p, List.mem_append_right _ hp, q⟩
  sound := fun p hp c hc e hb => by
    rcases List.mem_append.mp hp with hp | hp
    · have := h.sound p hp c hc e hb
      exact ⟨.inl this.1, this.2⟩
    · have := k.sound p hp c hc e hb
      exact ⟨.inr this.1, this.2⟩
  fine := fun p hp => (List.mem_append.mp hp).elim (h.fine p) (k.fine p)
theorem RowsTell.iff {R : List Row} {ms : List Stp} {d e : Coin → Prop} (h : RowsTell R ms d) (k : ∀ c : Coin, c.pos → (d c ↔ e c)) : RowsTell R ms e where
  cover := fun c hc hd => h.cover c hc ((k c hc).mpr hd)
  sound := fun p hp c hc q hb => by
    have := h.sound p hp c hc q hb
    exact ⟨(k c hc).mp this.1, this.2⟩
  fine := h.fine
theorem rows_tellA (ms : List Stp) : RowsTell (rowsAll [ms]) ms fun c => DomC bndsAll c := by
  refine ((rows_tell (ms := ms) bndsAll_ok false).append (rows_tell (ms := ms) bndsAll_ok true)).iff fun c _ => ?_
  cases c.m <;> simp
/-! ### a measure of the coins that come to a place -/
def Coin.meas (c : Coin) : Kd → Int × Int
  | .hole => c.w
  | .gap => c.t
  | .scale => c.h
def Row.cell (r : Row) : Kd → Cell
  | .hole => r.x
  | .gap => r.y
  | .scale => r.z
def AtS (ms : List Stp) (dom : Coin → Prop) (goal : Int) (kd : Kd) : MS := fun r => ∃ c : Coin, c.pos ∧ dom c ∧ endOf ms c = goal ∧ c.meas kd = r
def spansAt (A : List Piece) (goal : Int) (kd : Kd) : List Span := (A.filter fun p => decide (p.pl = goal)).map fun p => p.box.get kd
def cellsAt (R : List Row) (ms : List Stp) (goal : Int) (kd : Kd) : List Cell := (R.filter fun r => decide (endOf ms r.coin = goal)).map fun r => r.cell kd
theorem at_spans {A : List Piece} {ms : List Stp} {dom : Coin → Prop} (h : Tells A ms dom) (goal : Int) (kd : Kd) (r : Int × Int) : AtS ms dom goal kd r ↔ SpS (spansAt A goal kd) r := by
  constructor
  · rintro ⟨c, hc, hd, he, rfl⟩
    obtain ⟨p, hp, pm, pi⟩ := h.cover c hc hd
    obtain ⟨_, e, _⟩ := h.sound p hp c hc pm.symm pi
    have mem : p.box.get kd ∈ spansAt A goal kd := List.mem_map.mpr ⟨p, List.mem_filter.mpr ⟨hp, by rw [e, he]; simp⟩, rfl⟩
    cases kd
    · exact ⟨hc.1, _, mem, pi.1⟩
    · exact ⟨hc.2.1, _, mem, pi.2.1⟩
    · exact ⟨hc.2.2, _, mem, pi.2.2⟩
  · rintro ⟨h0, s, hs, hin⟩
    obtain ⟨p, hp, rfl⟩ := List.mem_map.mp hs
    obtain ⟨hp, hg⟩ := List.mem_filter.mp hp
    have hg := of_decide_eq_true hg
    obtain ⟨⟨i1, i2, i3⟩, ⟨o1, o2, o3⟩⟩ := coinOf_in (m := p.m) (h.fine p hp).1
    cases kd
    · obtain ⟨d, e, _⟩ := h.sound p hp ⟨r, (coinOf p.box p.m).t, (coinOf p.box p.m).h, p.m⟩ ⟨h0, o2, o3⟩ rfl ⟨hin, i2, i3⟩
      exact ⟨⟨r, (coinOf p.box p.m).t, (coinOf p.box p.m).h, p.m⟩, ⟨h0, o2, o3⟩, d, by rw [← e]; exact hg, rfl⟩
    · obtain ⟨d, e, _⟩ := h.sound p hp ⟨(coinOf p.box p.m).w, r, (coinOf p.box p.m).h, p.m⟩ ⟨o1, h0, o3⟩ rfl ⟨i1, hin, i3⟩
      exact ⟨⟨(coinOf p.box p.m).w, r, (coinOf p.box p.m).h, p.m⟩, ⟨o1, h0, o3⟩, d, by rw [← e]; exact hg, rfl⟩
    · obtain ⟨d, e, _⟩ := h.sound p hp ⟨(coinOf p.box p.m).w, (coinOf p.box p.m).t, r, p.m⟩ ⟨o1, o2, h0⟩ rfl ⟨i1, i2, hin⟩
      exact ⟨⟨(coinOf p.box p.m).w, (coinOf p.box p.m).t, r, p.m⟩, ⟨o1, o2, h0⟩, d, by rw [← e]; exact hg, rfl⟩
theorem at_cells {R : List Row} {ms : List Stp} {dom : Coin → Prop} (h : RowsTell R ms dom) (goal : Int) (kd : Kd) (q : Int × Int) : AtS ms dom goal kd q ↔ CeS (cellsAt R ms goal kd) q := by
  constructor
  · rintro ⟨c, hc, hd, he, rfl⟩
    obtain ⟨r, hr, rm, rf⟩ := h.cover c hc hd
    obtain ⟨_, e⟩ := h.sound r hr c hc rm.symm rf
    have mem : r.cell kd ∈ cellsAt R ms goal kd := List.mem_map.mpr ⟨r, List.mem_filter.mpr ⟨hr, by rw [← e, he]; simp⟩, rfl⟩
    cases kd
    · exact ⟨hc.1, _, mem, rf.1⟩
    · exact ⟨hc.2.1, _, mem, rf.2.1⟩
    · exact ⟨hc.2.2, _, mem, rf.2.2⟩
  · rintro ⟨h0, s, hs, hin⟩
    obtain ⟨r, hr, rfl⟩ := List.mem_map.mp hs
    obtain ⟨hr, hg⟩ := List.mem_filter.mp hr
    have hg := of_decide_eq_true hg
    obtain ⟨⟨i1, o1⟩, ⟨i2, o2⟩, ⟨i3, o3⟩⟩ := h.fine r hr
    cases kd
    · obtain ⟨d, e⟩ := h.sound r hr ⟨q, r.y.s, r.z.s, r.m⟩ ⟨h0, o2, o3⟩ rfl ⟨hin, i2, i3⟩
      exact ⟨_, ⟨h0, o2, o3⟩, d, by rw [e]; exact hg, rfl⟩
    · obtain ⟨d, e⟩ := h.sound r hr ⟨r.x.s, q, r.z.s, r.m⟩ ⟨o1, h0, o3⟩ rfl ⟨i1, hin, i3⟩
      exact ⟨_, ⟨o1, h0, o3⟩, d, by rw [e]; exact hg, rfl⟩
    · obtain ⟨d, e⟩ := h.sound r hr ⟨r.x.s, r.y.s, q, r.m⟩ ⟨o1, o2, h0⟩ rfl ⟨i1, i2, hin⟩
      exact ⟨_, ⟨o1, o2, h0⟩, d, by rw [e]; exact hg, rfl⟩
end CC

namespace CC
open PySem PySem.Spec PyProof.Rows L2
/-! ### the bounds, by both -/
abbrev BR := (Int × Bool) × Option (Int × Bool)
def loOf : List Span → Int
  | [] => 0
  | s :: r => bestOf ltI s.lo (r.map (·.lo))
def hiOf : List Span → Int
  | [] => 0
  | s :: r => bestOf (fun a b => ltI b a) (s.hi.getD 0) (r.map fun s => s.hi.getD 0)
def progB (ss : List Span) : Option BR := if ss.isEmpty = true then none else some ((loOf ss, ss.any fun s => decide (s.lo = loOf ss) && s.hl), if (ss.any fun s => s.hi.isNone) = true then none else some (hiOf ss, ss.any fun s => decide (s.hi = some (hiOf ss)) && s.hh))
def loC : List Cell → Int × Int
  | [] => (0, 0)
  | c :: r => bestOf ltP (lowC c) (r.map lowC)
def hiC : List Cell → Int × Int
  | [] => (0, 0)
  | c :: r => bestOf (fun a b => ltP b a) (highC c) (r.map highC)
def lawB (cs : List Cell) : Option BR := if cs.isEmpty = true then none else some (((loC cs).1, decide ((loC cs).2 = 0)), if (cs.any fun c => c.b.isNone) = true then none else some ((hiC cs).1, decide ((hiC cs).2 = 1)))
def dbl2 (x : BR) : BR := ((2 * x.1.1, x.1.2), x.2.map fun y => (2 * y.1, y.2))
theorem loOf_mem {ss : List Span} (h : ss ≠ []) : (∃ s ∈ ss, s.lo = loOf ss) ∧ ∀ s ∈ ss, loOf ss ≤ s.lo := by
  cases ss with
  | nil => exact absurd rfl h
  | cons s r =>
    obtain ⟨h1, h2⟩ := best_of ltI_ir ltI_tr s.lo (r.map (·.lo))
    rw [show s.lo :: r.map (·.lo) = (s :: r).map (·.lo) from rfl] at h1 h2
    obtain ⟨t, ht, e⟩ := List.mem_map.mp h1
    refine ⟨⟨t, ht, e⟩, fun u hu => ?_⟩
    have := h2 u.lo (List.mem_map_of_mem hu)
    simp [ltI] at this
    exact this
theorem hiOf_mem {ss : List Span} (h : ss ≠ []) : (∃ s ∈ ss, s.hi.getD 0 = hiOf ss) ∧ ∀ s ∈ ss, s.hi.getD 0 ≤ hiOf ss := by
  cases ss with
  | nil => exact absurd rfl h
  | cons s r =>
    obtain ⟨h1, h2⟩ := best_of (lt := fun a b => ltI b a) (fun a => ltI_ir a) (fun a b c h k => ltI_tr c b a k h) (s.hi.getD 0) (r.map fun s => s.hi.getD 0)
    rw [show s.hi.getD 0 :: r.map (fun s => s.hi.getD 0) = (s :: r).map (fun s => s.hi.getD 0) from rfl] at h1 h2
    obtain ⟨t, ht, e⟩ := List.mem_map.mp h1
    refine ⟨⟨t, ht, e⟩, fun u hu => ?_⟩
    have := h2 (u.hi.getD 0) (List.mem_map_of_mem (f := fun s : Span => s.hi.getD 0) hu)
    have := of_decide_eq_false this
    show u.hi.getD 0 ≤ bestOf _ _ _
    omega
theorem loC_mem {cs : List Cell} (h : cs ≠ []) : (∃ c ∈ cs, lowC c = loC cs) ∧ ∀ c ∈ cs, ltP (lowC c) (loC cs) = false := by
  cases cs with
  | nil => exact absurd rfl h
  | cons s r =>
    obtain ⟨h1, h2⟩ := best_of ltP_ir ltP_tr (lowC s) (r.map lowC)
    rw [show lowC s :: r.map lowC = (s :: r).map lowC from rfl] at h1 h2
    obtain ⟨t, ht, e⟩ := List.mem_map.mp h1
    exact ⟨⟨t, ht, e⟩, fun u hu => h2 (lowC u) (List.mem_map_of_mem hu)⟩
theorem hiC_mem {cs : List Cell} (h : cs ≠ []) : (∃ c ∈ cs, highC c = hiC cs) ∧ ∀ c ∈ cs, ltP (hiC cs) (highC c) = false := by
  cases cs with
  | nil => exact absurd rfl h
  | cons s r =>
    obtain ⟨h1, h2⟩ := best_of (lt := fun a b => ltP b a) (fun a => ltP_ir a) (fun a b c h k => ltP_tr c b a k h) (highC s) (r.map highC)
    rw [show highC s :: r.map highC = (s :: r).map highC from rfl] at h1 h2
    obtain ⟨t, ht, e⟩ := List.mem_map.mp h1
    exact ⟨⟨t, ht, e⟩, fun u hu => h2 (highC u) (List.mem_map_of_mem hu)⟩
theorem spS_some {s : Span} (h : isSome s = true) : ∃ r : Int × Int, 0 < r.2 ∧ inS s r := ⟨_, (numIn_in h).2, (numIn_in h).1⟩
theorem bounds_same {ss : List Span} {cs : List Cell} (hS : ∀ r, SpS ss r ↔ CeS cs r) (o1 : ∀ s ∈ ss, isSome s = true) (ev : ∀ s ∈ ss, evS s) (o2 : ∀ c ∈ cs, okC c) : progB ss = (lawB cs).map dbl2 := by
  by_cases e1 : ss = []
  · have e2 : cs = [] := by
      cases cs with
      | nil => rfl
      | cons c r =>
        obtain ⟨h1, h2⟩ := o2 c List.mem_cons_self
        obtain ⟨_, s, hs, _⟩ := (hS c.s).mpr ⟨h2, c, List.mem_cons_self, h1⟩
        rw [e1] at hs
        cases hs
    rw [e1, e2]
    rfl
  · have e2 : cs ≠ [] := fun e2 => by
      cases ss with
      | nil => exact e1 rfl
      | cons s r =>
        obtain ⟨q, h1, h2⟩ := spS_some (o1 s List.mem_cons_self)
        obtain ⟨_, c, hc, _⟩ := (hS q).mp ⟨h1, s, List.mem_cons_self, h2⟩
        rw [e2] at hc
        cases hc
    have n1 : ss.isEmpty = false := by cases ss with
      | nil => exact absurd rfl e1
      | cons _ _ => rfl
    have n2 : cs.isEmpty = false := by cases cs with
      | nil => exact absurd rfl e2
      | cons _ _ => rfl
    obtain ⟨⟨s, hs, es⟩, ls⟩ := loOf_mem e1
    obtain ⟨n, en⟩ := (ev s hs).1
    have hn : loOf ss = 2 * n := by rw [← es]; exact en
    have L1 := low_spans (n := n) o1 ⟨s, hs, en⟩ fun t ht => by rw [← hn]; exact ls t ht
    obtain ⟨m1, m2⟩ := loC_mem e2
    have L2 := low_cells o2 m1 m2
    obtain ⟨u1, u2⟩ := low_uniq hS L1 L2
    have hu : (ss.any fun s => s.hi.isNone) = (cs.any fun c => c.b.isNone) := by
      rw [Bool.eq_iff_iff, List.any_eq_true, List.any_eq_true]
      have a := unb_spans o1
      have b := unb_cells o2
      have c : Unb (SpS ss) ↔ Unb (CeS cs) := by
        unfold Unb
        constructor
        · intro h m; obtain ⟨r, x, y⟩ := h m; exact ⟨r, (hS r).mp x, y⟩
        · intro h m; obtain ⟨r, x, y⟩ := h m; exact ⟨r, (hS r).mpr x, y⟩
      simp only [Option.isNone_iff_eq_none]
      rw [← a, ← b, c]
    unfold progB lawB
    rw [n1, n2, hu]
    simp only [Bool.false_eq_true, if_false, Option.map_some, dbl2]
    rw [hn, u1]
    rw [u1] at u2
    rw [u2]
    cases hb : (cs.any fun c => c.b.isNone) with
    | true => simp
    | false =>
      have sb : ∀ c ∈ cs, c.b ≠ none := fun c hc z => by
        have := List.any_eq_false.mp hb c hc
        rw [z] at this
        exact this rfl
      have ss' : ∀ t ∈ ss, t.hi = some (t.hi.getD 0) := fun t ht => by
        rw [hb] at hu
        have := List.any_eq_false.mp hu t ht
        cases z : t.hi with
        | none => rw [z] at this; exact absurd rfl this
        | some _ => rfl
      obtain ⟨⟨s, hs, es⟩, ls⟩ := hiOf_mem e1
      obtain ⟨n', en⟩ := (ev s hs).2 _ (ss' s hs)
      have hn' : hiOf ss = 2 * n' := by rw [← es]; exact en
      have H1 := high_spans (n := n') o1 ⟨s, hs, by rw [ss' s hs, en]⟩ fun t ht => ⟨_, ss' t ht, by rw [← hn']; exact ls t ht⟩
      obtain ⟨m1, m2⟩ := hiC_mem e2
      have H2 := high_cells o2 sb m1 m2
      obtain ⟨v1, v2⟩ := high_uniq hS H1 H2
      rw [v1] at v2
      simp only [Bool.false_eq_true, if_false, Option.map_some]
      rw [hn', v1, v2]
/-! ### bounds that are told by even numbers -/
def evB (b : Box) : Prop := evS b.w ∧ evS b.t ∧ evS b.h
theorem ev_cut {s : Span} (h : evS s) (l : Int) : evS (upTo s (2 * l)) ∧ evS (over s (2 * l)) ∧ evS (fromOn s (2 * l)) ∧ evS (under s (2 * l)) := by
  obtain ⟨lo, b, hi, c⟩ := s
  obtain ⟨h1, h2⟩ := h
  simp only at h1 h2
  refine ⟨?_, ?_, ?_, ?_⟩
  · unfold upTo
    cases hi with
    | none => exact ⟨h1, fun x e => by cases e; exact ⟨l, rfl⟩⟩
    | some x => simp only; split <;> first | exact ⟨h1, h2⟩ | exact ⟨h1, fun x e => by cases e; exact ⟨l, rfl⟩⟩
  · unfold over; split <;> first | exact ⟨h1, h2⟩ | exact ⟨⟨l, rfl⟩, h2⟩
  · unfold fromOn; split <;> first | exact ⟨h1, h2⟩ | exact ⟨⟨l, rfl⟩, h2⟩
  · unfold under
    cases hi with
    | none => exact ⟨h1, fun x e => by cases e; exact ⟨l, rfl⟩⟩
    | some x => simp only; split <;> first | exact ⟨h1, h2⟩ | exact ⟨h1, fun x e => by cases e; exact ⟨l, rfl⟩⟩
theorem split_ev {s : Stp} {b b1 : Box} {m : Bool} (hb : evB b) (h : (splitB s b m).1 = some b1 ∨ (splitB s b m).2 = some b1) : evB b1 := by
  have goS : ∀ (k : Kd) (sp : Span), evS sp → some1 b k sp = some b1 → evB b1 := fun k sp q h => by
    unfold some1 at h
    split at h
    · cases h
      cases k
      · exact ⟨q, hb.2.1, hb.2.2⟩
      · exact ⟨hb.1, q, hb.2.2⟩
      · exact ⟨hb.1, hb.2.1, q⟩
    · cases h
  cases s with
  | mag p => cases m <;> simp [splitB] at h <;> (subst h; exact hb)
  | cut k l p =>
    cases k
    · rcases h with h | h
      · exact goS _ _ (ev_cut hb.1 l).1 h
      · exact goS _ _ (ev_cut hb.1 l).2.1 h
    · rcases h with h | h
      · exact goS _ _ (ev_cut hb.2.1 l).1 h
      · exact goS _ _ (ev_cut hb.2.1 l).2.1 h
    · rcases h with h | h
      · exact goS _ _ (ev_cut hb.2.2 l).2.2.1 h
      · exact goS _ _ (ev_cut hb.2.2 l).2.2.2 h
theorem pieces_ev : ∀ (ms : List Stp) (b : Box) (m : Bool) (n : Nat) (p : Piece), evB b → p ∈ pieces ms b m n → evB p.box
  | [], b, m, n, p, hb, hp => by
    simp only [pieces, List.mem_singleton] at hp
    subst hp; exact hb
  | s :: r, b, m, n, p, hb, hp => by
    simp only [pieces, List.mem_append] at hp
    rcases hp with hp | hp
    · cases e : (splitB s b m).1 with
      | none => rw [e] at hp; cases hp
      | some b1 => rw [e] at hp; rw [List.mem_singleton.mp hp]; exact split_ev hb (.inl e)
    · cases e : (splitB s b m).2 with
      | none => rw [e] at hp; cases hp
      | some b2 => rw [e] at hp; exact pieces_ev r b2 m (n + 1) p (split_ev hb (.inr e)) hp
theorem boxOf_ev {k : Knd} (h : k.ok) : evB (boxOf k 0) := by
  have one : ∀ r : Int × Int, okBd r → evS (spanOf r 0) := fun r h => by
    rw [spanOf0 h.1]
    exact ⟨⟨r.1, rfl⟩, fun x e => by cases e; exact ⟨r.2, rfl⟩⟩
  exact ⟨one _ h.1, one _ h.2.1, one _ h.2.2.1⟩
theorem allB_ev : evB allB := by
  have : evS allS := ⟨⟨0, rfl⟩, fun x e => by cases e⟩
  exact ⟨this, this, this⟩
theorem bounds_at {A : List Piece} {R : List Row} {ms : List Stp} {dom : Coin → Prop} (hA : Tells A ms dom) (hR : RowsTell R ms dom) (ev : ∀ p ∈ A, evB p.box) (goal : Int) (kd : Kd) : progB (spansAt A goal kd) = (lawB (cellsAt R ms goal kd)).map dbl2 := by
  refine bounds_same (fun r => by rw [← at_spans hA, ← at_cells hR]) (fun s hs => ?_) (fun s hs => ?_) fun c hc => ?_
  · obtain ⟨p, hp, rfl⟩ := List.mem_map.mp hs
    obtain ⟨o1, o2, o3⟩ := (hA.fine p (List.mem_filter.mp hp).1).1
    cases kd
    · exact o1
    · exact o2
    · exact o3
  · obtain ⟨p, hp, rfl⟩ := List.mem_map.mp hs
    obtain ⟨o1, o2, o3⟩ := ev p (List.mem_filter.mp hp).1
    cases kd
    · exact o1
    · exact o2
    · exact o3
  · obtain ⟨r, hr, rfl⟩ := List.mem_map.mp hc
    obtain ⟨o1, o2, o3⟩ := hR.fine r (List.mem_filter.mp hr).1
    cases kd
    · exact o1
    · exact o2
    · exact o3
/-! ### as data -/
def encB1 (x : Int × Bool) : D := .tuple [encR (low x.1 2), .bool x.2]
def encL1 (x : Int × Bool) : D := .tuple [.tuple [.int x.1, .int 1], .bool x.2]
def encPB : Option BR → D
  | none => .none
  | some x => .tuple [encB1 x.1, match x.2 with
    | none => .none
    | some y => encB1 y]
def encLB : Option BR → D
  | none => .none
  | some x => .tuple [encL1 x.1, match x.2 with
    | none => .none
    | some y => encL1 y]
theorem low_dbl (n : Int) : low (2 * n) 2 = (n, 1) := by
  have g : Int.gcd (2 * n) 2 = 2 := by
    rw [Int.gcd_comm]
    exact Int.ofNat.inj (Int.gcd_eq_left (a := 2) (b := 2 * n) (by decide) ⟨n, rfl⟩)
  unfold low
  rw [g]
  show (2 * n / 2, (2 : Int) / 2) = (n, 1)
  rw [Int.mul_ediv_cancel_left _ (by decide)]
  rfl
theorem enc_dbl (o : Option BR) : encPB (o.map dbl2) = encLB o := by
  cases o with
  | none => rfl
  | some x =>
    obtain ⟨⟨n, t⟩, h⟩ := x
    cases h with
    | none => simp [encPB, encLB, dbl2, encB1, encL1, low_dbl, encR]
    | some y => simp [encPB, encLB, dbl2, encB1, encL1, low_dbl, encR]
end CC

namespace CC
open PySem PySem.Spec PyProof.Rows L2
def mword : Kd → Str
  | .hole => "width"
  | .gap => "thick"
  | .scale => "weight"
def sp58 : Spec
  | [.dat v], Q => isPl v = true ∧ Q .none
  | _, _ => False
theorem sem58 {Φ : Nat → Spec} (h6 : Φ 6 = sp6) : DefSem (b58.sem Φ) 1 1 sp58 := by
  intro as Q q
  unfold sp58 at q
  split at q <;> try exact q.elim
  obtain ⟨hm, q⟩ := q
  refine ⟨rfl, ?_⟩
  simp [b58, initE, h6, hm]
  exact q
def sp90 : Spec
  | [.dat v], Q => (∃ kd, v = .str (mword kd)) ∧ Q .none
  | _, _ => False
theorem sem90 {Φ : Nat → Spec} : DefSem (b90.sem Φ) 1 1 sp90 := by
  intro as Q q
  unfold sp90 at q
  split at q <;> try exact q.elim
  obtain ⟨⟨kd, rfl⟩, q⟩ := q
  refine ⟨rfl, ?_⟩
  cases kd <;> simpa [b90, initE, mword, flatD] using q
theorem pl_ok {g : Int} (h : okP g) : isPl (.int g) = true := isPl_ok h
def sp92 : Spec
  | [.dat l], Q => ∃ ss : List Span, l = .list (ss.map Span.enc) ∧ ss ≠ [] ∧ Q (encPB (progB ss))
  | _, _ => False
theorem min_I {x : Int} {xs : List Int} {R : D → Prop} (h : R (.int (bestOf ltI x xs))) : biD .minI [.list ((x :: xs).map .int)] R := by
  refine ⟨⟨⟨alikeI (x :: xs), depthI (x :: xs)⟩, ndlA_map (fun _ => rfl) (x :: xs)⟩, ?_⟩
  rw [minD_typ PyData.int ltI dataLt_I]
  exact h
theorem max_I {x : Int} {xs : List Int} {R : D → Prop} (h : R (.int (bestOf (fun a b => ltI b a) x xs))) : biD .maxI [.list ((x :: xs).map .int)] R := by
  refine ⟨⟨⟨alikeI (x :: xs), depthI (x :: xs)⟩, ndlA_map (fun _ => rfl) (x :: xs)⟩, ?_⟩
  rw [maxD_typ PyData.int ltI dataLt_I]
  exact h
theorem min_P {x : Int × Int} {xs : List (Int × Int)} {R : D → Prop} (h : R (encPr (bestOf ltP x xs))) : biD .minI [.list ((x :: xs).map encPr)] R := by
  refine ⟨⟨⟨alikeP (x :: xs), depthP (x :: xs)⟩, ndlA_map (fun _ => rfl) (x :: xs)⟩, ?_⟩
  rw [minD_typ encPr ltP dataLt_P]
  exact h
theorem max_P {x : Int × Int} {xs : List (Int × Int)} {R : D → Prop} (h : R (encPr (bestOf (fun a b => ltP b a) x xs))) : biD .maxI [.list ((x :: xs).map encPr)] R := by
  refine ⟨⟨⟨alikeP (x :: xs), depthP (x :: xs)⟩, ndlA_map (fun _ => rfl) (x :: xs)⟩, ?_⟩
  rw [maxD_typ encPr ltP dataLt_P]
  exact h
theorem lo_go {ss : List Span} (hs : ss ≠ []) {R : D → Prop} (h : R (.int (loOf ss))) : biD .minI [.list ((ss.map (·.lo)).map .int)] R := by
  cases ss with
  | nil => exact absurd rfl hs
  | cons s r => exact min_I h
theorem hi_go {ss : List Span} (hs : ss ≠ []) {R : D → Prop} (h : R (.int (hiOf ss))) : biD .maxI [.list ((ss.map fun s => s.hi.getD 0).map .int)] R := by
  cases ss with
  | nil => exact absurd rfl hs
  | cons s r => exact max_I h
theorem compL_boolA {α : Type} (enc : α → D) {f : D → (List D → Prop) → Prop} (p : α → Bool) {xs : List α} {R : D → Prop} (h : ∀ x ∈ xs, ∀ k : List D → Prop, k [.bool (p x)] → f (enc x) k) (q : R (.bool (xs.any p))) : compL f (xs.map enc) [] fun es => biD .any [.list es] R := by
  refine compL_typ enc (fun x => [.bool (p x)]) h ?_
  rw [List.nil_append, ← List.map_eq_flatMap]
  refine ⟨xs.map p, by rw [List.map_map]; rfl, ?_⟩
  rw [List.any_map]
  exact q
theorem sem92 {Φ : Nat → Spec} (h3 : Φ 3 = sp3) : DefSem (b92.sem Φ) 5 1 sp92 := by
  intro as Q q
  unfold sp92 at q
  split at q <;> try exact q.elim
  obtain ⟨ss, rfl, hs, q⟩ := q
  refine ⟨rfl, ?_⟩
  have e1 : ss.isEmpty = false := by cases ss with
    | nil => exact absurd rfl hs
    | cons _ _ => rfl
  unfold progB at q
  rw [e1] at q
  simp only [Bool.false_eq_true, if_false] at q
  simp [b92, initE, -biD_any]
  refine compL_typ Span.enc (fun s => [.int s.lo]) (fun s _ K hK => by simpa [Span.enc] using hK) ?_
  rw [List.nil_append, ← List.map_eq_flatMap]
  have f1 : ss.map (fun s => PyData.int s.lo) = (ss.map (·.lo)).map .int := by rw [List.map_map]; rfl
  rw [f1]
  refine lo_go hs ?_
  refine compL_boolA Span.enc (fun s => decide (s.lo = loOf ss) && s.hl) (fun s _ K hK => ?_) ?_
  · by_cases h : s.lo = loOf ss <;> simpa [Span.enc, h] using hK
  · refine compL_boolA Span.enc (fun s => s.hi.isNone) (fun s _ K hK => ?_) ?_
    · obtain ⟨lo, l, hi, hh⟩ := s
      cases hi <;> simpa [Span.enc] using hK
    · generalize loOf ss = L at *
      generalize (ss.any fun s => decide (s.lo = L) && s.hl) = t at *
      cases hn : (ss.any fun s => s.hi.isNone) with
      | true =>
        rw [hn] at q
        simp [-biD_any]
        refine go h3 ⟨⟨by decide, by decide⟩, ?_⟩
        simpa [encPB, encB1] using q
      | false =>
        rw [hn] at q
        have sm : ∀ s ∈ ss, s.hi = some (s.hi.getD 0) := fun t ht => by
          have := List.any_eq_false.mp hn t ht
          cases z : t.hi with
          | none => rw [z] at this; exact absurd rfl this
          | some _ => rfl
        simp [-biD_any]
        refine compL_typ Span.enc (fun s => [.int (s.hi.getD 0)]) (fun s hm K hK => ?_) ?_
        · obtain ⟨lo, l, hi, hh⟩ := s
          cases hi with
          | none => have := sm _ hm; cases this
          | some x => simpa [Span.enc] using hK
        · rw [List.nil_append, ← List.map_eq_flatMap]
          have f2 : ss.map (fun s => PyData.int (s.hi.getD 0)) = (ss.map fun s => s.hi.getD 0).map .int := by rw [List.map_map]; rfl
          rw [f2]
          refine hi_go hs ?_
          refine go h3 ⟨⟨by decide, by decide⟩, ?_⟩
          refine go h3 ⟨⟨by decide, by decide⟩, ?_⟩
          refine compL_boolA Span.enc (fun s => decide (s.hi = some (hiOf ss)) && s.hh) (fun s hm K hK => ?_) ?_
          · obtain ⟨lo, l, hi, hh⟩ := s
            cases hi with
            | none => have := sm _ hm; cases this
            | some x => by_cases h : x = hiOf ss <;> simpa [Span.enc, h] using hK
          · simpa [encPB, encB1] using q
theorem kix_go {kd : Kd} {R : D → Prop} (h : R (.int (kdIx kd))) : kixD [.str "width", .str "thick", .str "weight"] (.str (mword kd)) R := by
  refine ⟨["width", "thick", "weight"], (kdIx kd).toNat, rfl, ?_, ?_, ?_⟩
  · cases kd <;> rfl
  · intro m hm
    cases kd
    · exact absurd hm (Nat.not_lt_zero m)
    · have : m = 0 := by have : m < 1 := hm; omega
      subst this; decide
    · have : m = 0 ∨ m = 1 := by have : m < 2 := hm; omega
      rcases this with rfl | rfl <;> decide
  · cases kd <;> exact h
theorem box_at (b : Box) (kd : Kd) : atI [b.w.enc, b.t.enc, b.h.enc] (kdIx kd) = some (b.get kd).enc := by cases kd <;> simp [kdIx, Box.get]
def sp93 : Spec
  | [.dat l, .dat (.int g), .dat v], Q => ∃ (A : List Piece) (kd : Kd), l = encPs A ∧ v = .str (mword kd) ∧ Q (encPB (progB (spansAt A g kd)))
  | _, _ => False
theorem lay_span (s : Span) : PyData.canLay0 s.enc = true ∧ PyData.depth s.enc ≤ 1 := by
  obtain ⟨lo, l, hi, hh⟩ := s
  cases hi <;> simp [Span.enc, PyData.canLay0, PyData.canLayAll0, PyData.depth, PyData.depthAll]
theorem sem93 {Φ : Nat → Spec} (h92 : Φ 92 = sp92) : DefSem (b93.sem Φ) 8 3 sp93 := by
  intro as Q q
  unfold sp93 at q
  split at q <;> try exact q.elim
  rename_i l g v
  obtain ⟨A, kd, rfl, rfl, q⟩ := q
  refine ⟨rfl, ?_⟩
  simp [b93, initE, encPs]
  refine compL_typ Piece.enc (fun p => if decide (p.pl = g) = true then [(p.box.get kd).enc] else []) (fun p _ K hK => ?_) ?_
  · by_cases h : p.pl = g
    · simp [Piece.enc, h, Box.enc]
      obtain ⟨ys, j, e1, e2, e3, e4⟩ := kix_go (kd := kd) (R := fun d => d = .int (kdIx kd)) rfl
      have e5 : (j : Int) = kdIx kd := by simpa using e4
      refine ⟨ys, e1, j, e2, e3, ?_⟩
      rw [e5]
      simp [h] at hK
      simpa [box_at] using hK
    · simpa [Piece.enc, h] using hK
  · rw [List.nil_append, flatMap_if (fun p : Piece => decide (p.pl = g)) (fun p => (p.box.get kd).enc)]
    have e : (A.filter fun p => decide (p.pl = g)).map (fun p => (p.box.get kd).enc) = (spansAt A g kd).map Span.enc := by unfold spansAt; rw [List.map_map]; rfl
    rw [e]
    generalize spansAt A g kd = ss at *
    refine ⟨.inr ⟨shaped_lst (n := 1) (by omega) fun d hd => ?_, by decide +kernel⟩, ?_⟩
    · obtain ⟨s, _, rfl⟩ := List.mem_map.mp hd
      exact lay_span s
    · rw [eqvA_nil, List.isEmpty_map]
      cases ss with
      | nil => simpa [progB, encPB] using q
      | cons s r =>
        simp
        exact go h92 ⟨s :: r, rfl, by simp, q⟩
def sp94 : Spec
  | [.dat a, .dat (.int g)], Q => ∃ p : Plan, a = p.enc ∧ p.ok ∧ okP g ∧ Q (encN ((p.ks.zipIdx.filter fun x => (endsP p.ms (boxOf x.1 0) x.1.m).any fun z => z == g).map (·.2)))
  | _, _ => False
theorem flat_I (l : List Int) : (l.map PyData.int).all flatD = true := by simp [flatD]
theorem anyD_I (l : List Int) (g : Int) : ((l.map PyData.int).any fun z => PyData.eqv z (.int g)) = l.any fun z => z == g := by
  rw [List.any_map]
  congr 1
theorem sem94 {Φ : Nat → Spec} (h13 : Φ 13 = sp13) (h58 : Φ 58 = sp58) (h71 : Φ 71 = sp71) : DefSem (b94.sem Φ) 4 2 sp94 := by
  intro as Q q
  unfold sp94 at q
  split at q <;> try exact q.elim
  rename_i a g
  obtain ⟨p, rfl, hp, hg, q⟩ := q
  refine ⟨rfl, ?_⟩
  simp [b94, initE]
  refine need_P h13 hp (go h58 ⟨pl_ok hg, ?_⟩)
  simp [Plan.enc, encKs]
  rw [zipIdx_enum]
  refine compL_typ _ (fun x => if ((endsP p.ms (boxOf x.1 0) x.1.m).any fun z => z == g) = true then [.int (x.2 : Int)] else []) (fun x hx k hk => ?_) ?_
  · obtain ⟨c, i⟩ := x
    simp
    refine go h71 ⟨p.ms, c, rfl, rfl, hp.2, ?_⟩
    simp only [encI, cmpD_isin_l]
    refine ⟨⟨rfl, flat_I _⟩, ?_⟩
    rw [anyD_I]
    cases e : ((endsP p.ms (boxOf c 0) c.m).any fun z => z == g) with
    | true => rw [e] at hk; simpa using hk
    | false => rw [e] at hk; simpa using hk
  · rw [List.nil_append, flatMap_if (fun x : Knd × Nat => (endsP p.ms (boxOf x.1 0) x.1.m).any fun z => z == g) (fun x => PyData.int (x.2 : Int))]
    simpa [encN, Function.comp_def] using q
def sp95 : Spec
  | [.dat a, .dat (.int i), .dat (.int g), .dat v], Q => ∃ (p : Plan) (k : Knd) (kd : Kd), a = p.enc ∧ p.ok ∧ 0 ≤ i ∧ p.ks[i.toNat]? = some k ∧ okP g ∧ v = .str (mword kd) ∧ Q (encPB (progB (spansAt (pieces p.ms (boxOf k 0) k.m 0) g kd)))
  | _, _ => False
theorem sem95 {Φ : Nat → Spec} (h13 : Φ 13 = sp13) (h15 : Φ 15 = sp15) (h58 : Φ 58 = sp58) (h68 : Φ 68 = sp68) (h90 : Φ 90 = sp90) (h93 : Φ 93 = sp93) : DefSem (b95.sem Φ) 4 4 sp95 := by
  intro as Q q
  unfold sp95 at q
  split at q <;> try exact q.elim
  rename_i a i g v
  obtain ⟨p, k, kd, rfl, hp, hi, ek, hg, rfl, q⟩ := q
  refine ⟨rfl, ?_⟩
  have li := lt_of_get ek
  simp [b95, initE]
  refine need_P h13 hp (go h15 ⟨p, rfl, ⟨hi, by omega⟩, go h58 ⟨pl_ok hg, go h90 ⟨⟨kd, rfl⟩, ?_⟩⟩⟩)
  simp [Plan.enc, encKs, atI_get Knd.enc hi ek]
  exact go h68 ⟨p.ms, k, rfl, rfl, hp.2.l, go h93 ⟨_, kd, rfl, rfl, q⟩⟩
def sp96 : Spec
  | [.dat a, .dat (.int g), .dat v], Q => ∃ (ms : List Stp) (kd : Kd), a = encM ms ∧ okM ms ∧ okP g ∧ v = .str (mword kd) ∧ Q (encPB (progB (spansAt (allPs ms) g kd)))
  | _, _ => False
theorem sem96 {Φ : Nat → Spec} (h46 : Φ 46 = sp46) (h58 : Φ 58 = sp58) (h90 : Φ 90 = sp90) (h91 : Φ 91 = sp91) (h93 : Φ 93 = sp93) : DefSem (b96.sem Φ) 3 3 sp96 := by
  intro as Q q
  unfold sp96 at q
  split at q <;> try exact q.elim
  rename_i a g v
  obtain ⟨ms, kd, rfl, hm, hg, rfl, q⟩ := q
  refine ⟨rfl, ?_⟩
  simp [b96, initE]
  exact need_M h46 hm (go h58 ⟨pl_ok hg, go h90 ⟨⟨kd, rfl⟩, go h91 ⟨ms, rfl, hm.l, go h93 ⟨_, kd, rfl, rfl, q⟩⟩⟩⟩)
end CC

namespace CC
open PySem PySem.Spec PyProof.Rows L2
open Classical
/-! ### sums -/
def sumF {α : Type} (f : α → Int) (xs : List α) : Int := (xs.map f).sum
section
variable {α β : Type}
@[simp] theorem sumF_nil (f : α → Int) : sumF f [] = 0 := rfl
@[simp] theorem sumF_cons (f : α → Int) (x : α) (r : List α) : sumF f (x :: r) = f x + sumF f r := rfl
theorem sumF_app (f : α → Int) : ∀ xs ys : List α, sumF f (xs ++ ys) = sumF f xs + sumF f ys
  | [], ys => by simp
  | x :: r, ys => by simp [sumF_app f r ys]; omega
theorem sumF_congr {f g : α → Int} : ∀ {xs : List α}, (∀ x ∈ xs, f x = g x) → sumF f xs = sumF g xs
  | [], _ => rfl
  | x :: r, h => by rw [sumF_cons, sumF_cons, h x List.mem_cons_self, sumF_congr fun y hy => h y (List.mem_cons_of_mem _ hy)]
theorem sumF_zero {f : α → Int} : ∀ {xs : List α}, (∀ x ∈ xs, f x = 0) → sumF f xs = 0
  | [], _ => rfl
  | x :: r, h => by rw [sumF_cons, h x List.mem_cons_self, sumF_zero fun y hy => h y (List.mem_cons_of_mem _ hy)]; rfl
theorem sumF_add (f g : α → Int) : ∀ xs : List α, sumF (fun x => f x + g x) xs = sumF f xs + sumF g xs
  | [] => rfl
  | x :: r => by rw [sumF_cons, sumF_cons, sumF_cons, sumF_add f g r]; omega
theorem sumF_mulR (f : α → Int) (k : Int) : ∀ xs : List α, sumF (fun x => f x * k) xs = sumF f xs * k
  | [] => by simp
  | x :: r => by rw [sumF_cons, sumF_cons, sumF_mulR f k r, Int.add_mul]
theorem sumF_mulL (f : α → Int) (k : Int) : ∀ xs : List α, sumF (fun x => k * f x) xs = k * sumF f xs
  | [] => by simp
  | x :: r => by rw [sumF_cons, sumF_cons, sumF_mulL f k r, Int.mul_add]
theorem sumF_map (f : β → Int) (g : α → β) (xs : List α) : sumF f (xs.map g) = sumF (fun x => f (g x)) xs := by
  unfold sumF; rw [List.map_map]; rfl
theorem sumF_flat (f : β → Int) (g : α → List β) : ∀ xs : List α, sumF f (xs.flatMap g) = sumF (fun x => sumF f (g x)) xs
  | [] => rfl
  | x :: r => by rw [List.flatMap_cons, sumF_app, sumF_cons, sumF_flat f g r]
end
/-! ### one measure -/
def degB (r : Int × Int) : Bool := decide (r.1 = r.2)
def szC (r : Int × Int) (c : Cell) : Int := if degB r = true then 1 else c.b.getD 0 - c.a
def szS (r : Int × Int) (s : Span) : Int := if r.1 < r.2 then s.hi.getD 0 - s.lo else 1
def facD (r : Int × Int) : Int := if r.1 < r.2 then 2 else 1
def clampI (A B x : Int) : Int := if x < A then A else if B < x then B else x
theorem segs_sum {A B : Int} (hAB : A ≤ B) (s : Span) (e1 : s.lo = 2 * A) (e2 : s.hi = some (2 * B)) : ∀ (a : Int) (r : List Int) (z : Int), (a :: r).Pairwise (· < ·) → (a :: r).getLast? = some z → (A ≤ a ∨ A ∈ a :: r) → (B ≤ a ∨ B ∈ a :: r) →
    sumF (fun c : Cell => if inS s c.s then c.b.getD 0 - c.a else 0) (segs (a :: r)) = clampI A B z - clampI A B a
  | a, [], z, _, hz, _, _ => by
    have : a = z := Option.some.inj hz
    subst this
    simp [segs]
  | a, b :: r, z, hp, hz, hA, hB => by
    have hab : a < b := (List.pairwise_cons.mp hp).1 b List.mem_cons_self
    have hp2 := (List.pairwise_cons.mp hp).2
    have hb : ∀ l ∈ b :: r, b ≤ l := fun l hl => by
      rcases List.mem_cons.mp hl with rfl | hl
      · omega
      · have := (List.pairwise_cons.mp hp2).1 l hl
        omega
    have nA : A ≤ a ∨ b ≤ A := hA.elim .inl fun m => by
      rcases List.mem_cons.mp m with rfl | m
      · exact .inl (Int.le_refl _)
      · exact .inr (hb A m)
    have nB : B ≤ a ∨ b ≤ B := hB.elim .inl fun m => by
      rcases List.mem_cons.mp m with rfl | m
      · exact .inl (Int.le_refl _)
      · exact .inr (hb B m)
    have hA2 : A ≤ b ∨ A ∈ b :: r := hA.elim (fun h => .inl (by omega)) fun m => by
      rcases List.mem_cons.mp m with rfl | m
      · exact .inl (by omega)
      · exact .inr m
    have hB2 : B ≤ b ∨ B ∈ b :: r := hB.elim (fun h => .inl (by omega)) fun m => by
      rcases List.mem_cons.mp m with rfl | m
      · exact .inl (by omega)
      · exact .inr m
    have ih := segs_sum hAB s e1 e2 b r z hp2 (by rw [← hz, List.getLast?_cons_cons]) hA2 hB2
    rw [segs, sumF_cons, sumF_cons, ih]
    have pt : (if inS s (b, 1) then (some b).getD 0 - b else 0) = (0 : Int) := by
      have : (some b).getD 0 - b = 0 := by show b - b = 0; omega
      split
      · exact this
      · rfl
    have hm := low_mul (a + b) (b := 2) (by decide)
    have g := gcd_pos (a := a + b) (b := 2) (by decide)
    have hp2' := low_pos (a + b) (b := 2) (by decide)
    have mid : (if inS s (low (a + b) 2) then (some b).getD 0 - a else 0) = if A ≤ a ∧ b ≤ B then b - a else (0 : Int) := by
      have hf := mid_fits hab
      obtain ⟨f1, f2⟩ : a * (low (a + b) 2).2 < (low (a + b) 2).1 ∧ (low (a + b) 2).1 < b * (low (a + b) 2).2 := by
        have : if a = b then _ else _ := hf
        rwa [if_neg (by omega)] at this
      generalize low (a + b) 2 = q at f1 f2 hp2'
      have iff : inS s q ↔ A ≤ a ∧ b ≤ B := by
        have dA : 2 * A * q.2 = 2 * (A * q.2) := Int.mul_assoc 2 A q.2
        have dB : 2 * B * q.2 = 2 * (B * q.2) := Int.mul_assoc 2 B q.2
        unfold inS geLo leHi
        rw [e1, e2]
        simp only
        rw [dA, dB]
        constructor
        · rintro ⟨h1, h2⟩
          have h1' : A * q.2 ≤ q.1 := by split at h1 <;> omega
          have h2' : q.1 ≤ B * q.2 := by split at h2 <;> omega
          refine ⟨?_, ?_⟩
          · rcases nA with h | h
            · exact h
            · have := mul_le' h hp2'; omega
          · rcases nB with h | h
            · have := mul_le' h hp2'; omega
            · exact h
        · rintro ⟨h1, h2⟩
          have h1' := mul_le' h1 hp2'
          have h2' := mul_le' h2 hp2'
          exact ⟨by split <;> omega, by split <;> omega⟩
      by_cases h : A ≤ a ∧ b ≤ B
      · rw [if_pos (iff.mpr h), if_pos h]; rfl
      · rw [if_neg fun z => h (iff.mp z), if_neg h]
    show (if inS s (low (a + b) 2) then (some b).getD 0 - a else 0) + ((if inS s (b, 1) then (some b).getD 0 - b else 0) + (clampI A B z - clampI A B b)) = clampI A B z - clampI A B a
    rw [pt, mid]
    have key : (if A ≤ a ∧ b ≤ B then b - a else (0 : Int)) = clampI A B b - clampI A B a := by
      unfold clampI
      (repeat' split) <;> omega
    omega
/-- a span whose bounds are among the edges -/
structure OnE (r : Int × Int) (ls : List Int) (s : Span) : Prop where
  lo : ∃ A, s.lo = 2 * A ∧ r.1 ≤ A ∧ A ≤ r.2 ∧ (A = r.1 ∨ A = r.2 ∨ A ∈ ls)
  hi : ∃ B, s.hi = some (2 * B) ∧ r.1 ≤ B ∧ B ≤ r.2 ∧ (B = r.1 ∨ B = r.2 ∨ B ∈ ls)
theorem edge_mem {r : Int × Int} {ls : List Int} {A : Int} (h1 : r.1 ≤ A) (h2 : A ≤ r.2) (h3 : A = r.1 ∨ A = r.2 ∨ A ∈ ls) : A ∈ edges r.1 (some r.2) (innerOf ⟨r.1, some r.2⟩ ls) := by
  unfold edges
  by_cases e : A = r.1
  · rw [e]; exact List.mem_cons_self
  · refine List.mem_cons_of_mem _ (List.mem_append.mpr ?_)
    by_cases e2 : A = r.2
    · refine .inr ?_
      have : ¬ r.2 = r.1 := fun z => e (by omega)
      show A ∈ (if r.2 = r.1 then [] else [r.2])
      rw [if_neg this, e2]
      exact List.mem_singleton.mpr rfl
    · refine .inl ((sset_mem A _).mpr (List.mem_filter.mpr ⟨(h3.resolve_left e).resolve_left e2, ?_⟩))
      exact btwB_iff.mpr ⟨by show r.1 < A; omega, by show A < r.2; omega⟩
theorem cells_sum {r : Int × Int} (h1 : 1 ≤ r.1) (h2 : r.1 ≤ r.2) {ls : List Int} {s : Span} (hs : isSome s = true) (ho : OnE r ls s) :
    facD r * sumF (fun c : Cell => if inS s c.s then szC r c else 0) (cellsOf ⟨r.1, some r.2⟩ ls) = szS r s := by
  have w := well_of (b := ⟨r.1, some r.2⟩) (⟨by show 0 ≤ r.1; omega, fun h e => by cases e; exact ⟨h2, by show 0 < r.2; omega⟩⟩ : Bnd.ok _) ls
  obtain ⟨A, a1, a2, a3, a4⟩ := ho.lo
  obtain ⟨B, b1, b2, b3, b4⟩ := ho.hi
  have hAB : A ≤ B := by
    unfold isSome at hs
    rw [b1] at hs
    simp at hs
    omega
  have n0 : ¬ r.1 = 0 := by omega
  unfold cellsOf cells
  rw [sumF_app, sumF_app]
  simp only [n0, if_false, sumF_cons, sumF_nil]
  by_cases d : r.1 = r.2
  · -- one point only
    have hA : A = r.1 := by omega
    have hB : B = r.1 := by omega
    have in1 : inS s (r.1, 1) := by
      unfold isSome at hs
      rw [b1, a1, hA, hB] at hs
      simp at hs
      unfold inS geLo leHi
      rw [b1, a1, hA, hB, hs.1, hs.2]
      exact ⟨by show 2 * r.1 * 1 ≤ 2 * r.1; omega, by show 2 * r.1 ≤ 2 * r.1 * 1; omega⟩
    have e0 : edges r.1 (some r.2) (innerOf ⟨r.1, some r.2⟩ ls) = [r.1] := by
      have hi : innerOf ⟨r.1, some r.2⟩ ls = [] := by
        cases q : innerOf ⟨r.1, some r.2⟩ ls with
        | nil => rfl
        | cons x t =>
          have := w.bt x (by show x ∈ innerOf _ _; rw [q]; exact List.mem_cons_self)
          obtain ⟨t1, t2⟩ := this
          have t1 : r.1 < x := t1
          have t2 : x < r.2 := t2
          omega
      rw [hi]
      unfold edges
      show r.1 :: ([] ++ (if r.2 = r.1 then [] else [r.2])) = [r.1]
      rw [if_pos d.symm]; rfl
    rw [show edges (⟨r.1, some r.2⟩ : Bnd).lo (⟨r.1, some r.2⟩ : Bnd).hi (innerOf ⟨r.1, some r.2⟩ ls) = [r.1] from e0]
    have sg : segs [r.1] = [] := rfl
    rw [sg]
    rw [if_pos in1]
    unfold szC degB facD szS
    simp [d]
  · have lt : r.1 < r.2 := by omega
    have hsz : ∀ c : Cell, szC r c = c.b.getD 0 - c.a := fun c => by unfold szC degB; simp [d]
    have fd : facD r = 2 := by unfold facD; rw [if_pos lt]
    have ss : szS r s = 2 * B - 2 * A := by unfold szS; rw [if_pos lt, a1, b1]; rfl
    rw [fd, ss]
    simp only [hsz]
    have sg := segs_sum hAB s a1 b1 r.1 _ r.2 (edges_sort w) (edges_last w r.2 rfl) (.inr (edge_mem a2 a3 a4)) (.inr (edge_mem b2 b3 b4))
    have sg : sumF (fun c : Cell => if inS s c.s then c.b.getD 0 - c.a else 0) (segs (edges (⟨r.1, some r.2⟩ : Bnd).lo (⟨r.1, some r.2⟩ : Bnd).hi (innerOf ⟨r.1, some r.2⟩ ls))) = clampI A B r.2 - clampI A B r.1 := sg
    rw [sg]
    have p0 : (if inS s (r.1, 1) then (some r.1).getD 0 - r.1 else 0) = (0 : Int) := by
      have : (some r.1).getD 0 - r.1 = 0 := by show r.1 - r.1 = 0; omega
      split
      · exact this
      · rfl
    have p0 : (if inS s (r.1, 1) then (some (⟨r.1, some r.2⟩ : Bnd).lo).getD 0 - (⟨r.1, some r.2⟩ : Bnd).lo else 0) = (0 : Int) := p0
    rw [p0]
    have c1 : clampI A B r.2 = B := by unfold clampI; split <;> (try split) <;> omega
    have c2 : clampI A B r.1 = A := by unfold clampI; split <;> (try split) <;> omega
    rw [c1, c2]
    omega
end CC

namespace CC
open PySem PySem.Spec PyProof.Rows L2
open Classical
/-! ### three measures -/
def wtR (k : Knd) (r : Row) : Int := szC k.w r.x * szC k.t r.y * szC k.h r.z
def szB3 (k : Knd) (b : Box) : Int := szS k.w b.w * szS k.t b.t * szS k.h b.h
def facK (k : Knd) : Int := facD k.w * facD k.t * facD k.h
structure OnB (ms : List Stp) (k : Knd) (b : Box) : Prop where
  w : OnE k.w (limitsOf [ms] .hole) b.w
  t : OnE k.t (limitsOf [ms] .gap) b.t
  h : OnE k.h (limitsOf [ms] .scale) b.h
theorem prod_ite {I P Q R : Prop} (h : I ↔ P ∧ Q ∧ R) (a b c : Int) : (if I then a * b * c else 0) = (if P then a else 0) * ((if Q then b else 0) * (if R then c else 0)) := by
  by_cases p : P <;> by_cases q : Q <;> by_cases r : R <;> simp [h, p, q, r, Int.mul_assoc]
theorem grid_sum {ms : List Stp} {k : Knd} (hk : k.ok) {b : Box} (hb : okB b) (ho : OnB ms k b) (g : Bool) : facK k * sumF (fun r : Row => if inB b r.coin then wtR k r else 0) (grid [ms] (bndsOf k) g) = szB3 k b := by
  have e : sumF (fun r : Row => if inB b r.coin then wtR k r else 0) (grid [ms] (bndsOf k) g) = sumF (fun c : Cell => if inS b.w c.s then szC k.w c else 0) (cellsOf (bndOf k.w) (limitsOf [ms] .hole)) * (sumF (fun c : Cell => if inS b.t c.s then szC k.t c else 0) (cellsOf (bndOf k.t) (limitsOf [ms] .gap)) * sumF (fun c : Cell => if inS b.h c.s then szC k.h c else 0) (cellsOf (bndOf k.h) (limitsOf [ms] .scale))) := by
    unfold grid
    rw [sumF_flat, ← sumF_mulR]
    refine sumF_congr fun x _ => ?_
    rw [sumF_flat, ← sumF_mulR, ← sumF_mulL]
    refine sumF_congr fun y _ => ?_
    rw [sumF_map, ← sumF_mulL, ← sumF_mulL]
    refine sumF_congr fun z _ => ?_
    exact prod_ite Iff.rfl _ _ _
  have c1 := cells_sum hk.1.1 hk.1.2.1 hb.1 ho.w
  have c2 := cells_sum hk.2.1.1 hk.2.1.2.1 hb.2.1 ho.t
  have c3 := cells_sum hk.2.2.1.1 hk.2.2.1.2.1 hb.2.2 ho.h
  rw [e]
  unfold szB3 facK
  rw [← c1, ← c2, ← c3]
  show facD k.w * facD k.t * facD k.h * (sumF _ (cellsOf ⟨k.w.1, some k.w.2⟩ _) * (sumF _ (cellsOf ⟨k.t.1, some k.t.2⟩ _) * sumF _ (cellsOf ⟨k.h.1, some k.h.2⟩ _))) = _
  generalize sumF _ (cellsOf ⟨k.w.1, some k.w.2⟩ _) = X
  generalize sumF _ (cellsOf ⟨k.t.1, some k.t.2⟩ _) = Y
  generalize sumF _ (cellsOf ⟨k.h.1, some k.h.2⟩ _) = Z
  generalize facD k.w = a
  generalize facD k.t = b'
  generalize facD k.h = c
  ac_rfl
section
variable {r : Int × Int} {ls : List Int} {s : Span} {l : Int}
theorem on_upTo (ho : OnE r ls s) (hl : l ∈ ls) (hs : isSome (upTo s (2 * l)) = true) : OnE r ls (upTo s (2 * l)) := by
  obtain ⟨⟨A, a1, a2, a3, a4⟩, B, b1, b2, b3, b4⟩ := ho
  obtain ⟨lo, hl', hi, hh⟩ := s
  simp only at a1 b1
  subst a1; subst b1
  unfold upTo at hs ⊢
  simp only at hs ⊢
  split
  · rename_i h
    rw [if_pos h] at hs
    simp [isSome] at hs
    exact ⟨⟨A, rfl, a2, a3, a4⟩, l, rfl, by omega, by omega, .inr (.inr hl)⟩
  · exact ⟨⟨A, rfl, a2, a3, a4⟩, B, rfl, b2, b3, b4⟩
theorem on_over (ho : OnE r ls s) (hl : l ∈ ls) (hs : isSome (over s (2 * l)) = true) : OnE r ls (over s (2 * l)) := by
  obtain ⟨⟨A, a1, a2, a3, a4⟩, B, b1, b2, b3, b4⟩ := ho
  obtain ⟨lo, hl', hi, hh⟩ := s
  simp only at a1 b1
  subst a1; subst b1
  unfold over at hs ⊢
  simp only at hs ⊢
  split
  · rename_i h
    rw [if_pos h] at hs
    simp [isSome] at hs
    exact ⟨⟨l, rfl, by omega, by omega, .inr (.inr hl)⟩, B, rfl, b2, b3, b4⟩
  · exact ⟨⟨A, rfl, a2, a3, a4⟩, B, rfl, b2, b3, b4⟩
theorem on_fromOn (ho : OnE r ls s) (hl : l ∈ ls) (hs : isSome (fromOn s (2 * l)) = true) : OnE r ls (fromOn s (2 * l)) := by
  obtain ⟨⟨A, a1, a2, a3, a4⟩, B, b1, b2, b3, b4⟩ := ho
  obtain ⟨lo, hl', hi, hh⟩ := s
  simp only at a1 b1
  subst a1; subst b1
  unfold fromOn at hs ⊢
  simp only at hs ⊢
  split
  · rename_i h
    rw [if_pos h] at hs
    simp [isSome] at hs
    exact ⟨⟨l, rfl, by omega, by omega, .inr (.inr hl)⟩, B, rfl, b2, b3, b4⟩
  · exact ⟨⟨A, rfl, a2, a3, a4⟩, B, rfl, b2, b3, b4⟩
theorem on_under (ho : OnE r ls s) (hl : l ∈ ls) (hs : isSome (under s (2 * l)) = true) : OnE r ls (under s (2 * l)) := by
  obtain ⟨⟨A, a1, a2, a3, a4⟩, B, b1, b2, b3, b4⟩ := ho
  obtain ⟨lo, hl', hi, hh⟩ := s
  simp only at a1 b1
  subst a1; subst b1
  unfold under at hs ⊢
  simp only at hs ⊢
  split
  · rename_i h
    rw [if_pos h] at hs
    simp [isSome] at hs
    exact ⟨⟨A, rfl, a2, a3, a4⟩, l, rfl, by omega, by omega, .inr (.inr hl)⟩
  · exact ⟨⟨A, rfl, a2, a3, a4⟩, B, rfl, b2, b3, b4⟩
end
theorem split_on {ms : List Stp} {k : Knd} {b b1 : Box} {s : Stp} {m : Bool} (hm : s ∈ ms) (hb : OnB ms k b) (h : (splitB s b m).1 = some b1 ∨ (splitB s b m).2 = some b1) : OnB ms k b1 := by
  have goS : ∀ (kd : Kd) (sp : Span), (isSome sp = true → OnB ms k (b.put sp kd)) → some1 b kd sp = some b1 → OnB ms k b1 := fun kd sp q h => by
    unfold some1 at h
    split at h
    · rename_i z; cases h; exact q z
    · cases h
  cases s with
  | mag p => cases m <;> simp [splitB] at h <;> (subst h; exact hb)
  | cut kd l p =>
    have hl : l ∈ limitsOf [ms] kd := lim_mem (List.mem_singleton.mpr rfl) hm
    cases kd
    · rcases h with h | h
      · exact goS .hole _ (fun z => ⟨on_upTo hb.w hl z, hb.t, hb.h⟩) h
      · exact goS .hole _ (fun z => ⟨on_over hb.w hl z, hb.t, hb.h⟩) h
    · rcases h with h | h
      · exact goS .gap (upTo b.t (2 * l)) (fun z => ⟨hb.w, on_upTo hb.t hl z, hb.h⟩) h
      · exact goS .gap (over b.t (2 * l)) (fun z => ⟨hb.w, on_over hb.t hl z, hb.h⟩) h
    · rcases h with h | h
      · exact goS .scale (fromOn b.h (2 * l)) (fun z => ⟨hb.w, hb.t, on_fromOn hb.h hl z⟩) h
      · exact goS .scale (under b.h (2 * l)) (fun z => ⟨hb.w, hb.t, on_under hb.h hl z⟩) h
theorem split_okB {b b1 : Box} {s : Stp} {m : Bool} (hb : okB b) (h : (splitB s b m).1 = some b1 ∨ (splitB s b m).2 = some b1) : okB b1 := by
  have goS : ∀ (kd : Kd) (sp : Span), some1 b kd sp = some b1 → okB b1 := fun kd sp h => by
    unfold some1 at h
    split at h
    · rename_i z
      cases h
      cases kd
      · exact ⟨z, hb.2.1, hb.2.2⟩
      · exact ⟨hb.1, z, hb.2.2⟩
      · exact ⟨hb.1, hb.2.1, z⟩
    · cases h
  cases s with
  | mag p => cases m <;> simp [splitB] at h <;> (subst h; exact hb)
  | cut kd l p => cases kd <;> (rcases h with h | h <;> exact goS _ _ h)
theorem pieces_sum {ms0 : List Stp} {k : Knd} (hk : k.ok) {G : List Row} {g : Bool} (hG : G = grid [ms0] (bndsOf k) g) (hp : ∀ r ∈ G, r.coin.pos ∧ r.coin.m = g) (goal : Int) : ∀ (ms : List Stp) (b : Box) (n : Nat), (∀ s ∈ ms, s ∈ ms0) → okB b → OnB ms0 k b →
    facK k * sumF (fun r : Row => if inB b r.coin ∧ endOf ms r.coin = goal then wtR k r else 0) G = sumF (fun p : Piece => if p.pl = goal then szB3 k p.box else 0) (pieces ms b g n)
  | [], b, n, _, hb, ho => by
    have gs := grid_sum hk hb ho g
    rw [← hG] at gs
    simp only [pieces, sumF_cons, sumF_nil]
    by_cases e : (-1 : Int) = goal
    · rw [if_pos e]
      rw [← gs, Int.add_zero]
      congr 1
      refine sumF_congr fun r _ => ?_
      have : endOf [] r.coin = goal := e
      simp [this]
    · rw [if_neg e]
      rw [sumF_zero fun r _ => ?_]
      · simp
      · have : ¬ endOf [] r.coin = goal := e
        simp [this]
  | s :: t, b, n, hm, hb, ho => by
    have hs : s ∈ ms0 := hm s List.mem_cons_self
    have ht : ∀ s ∈ t, s ∈ ms0 := fun s h => hm s (List.mem_cons_of_mem _ h)
    let f1 : Row → Int := fun r => match (splitB s b g).1 with
      | some b1 => if inB b1 r.coin ∧ s.pl = goal then wtR k r else 0
      | none => 0
    let f2 : Row → Int := fun r => match (splitB s b g).2 with
      | some b2 => if inB b2 r.coin ∧ endOf t r.coin = goal then wtR k r else 0
      | none => 0
    have e : sumF (fun r : Row => if inB b r.coin ∧ endOf (s :: t) r.coin = goal then wtR k r else 0) G = sumF f1 G + sumF f2 G := by
      rw [← sumF_add]
      refine sumF_congr fun r hr => ?_
      obtain ⟨hpos, hmag⟩ := hp r hr
      have sp := split_in s b r.coin hpos
      rw [hmag] at sp
      rw [end_cons]
      show _ = (match (splitB s b g).1 with
        | some b1 => if inB b1 r.coin ∧ s.pl = goal then wtR k r else 0
        | none => 0) + (match (splitB s b g).2 with
        | some b2 => if inB b2 r.coin ∧ endOf t r.coin = goal then wtR k r else 0
        | none => 0)
      have g1 : (match (splitB s b g).1 with
        | some b1 => if inB b1 r.coin ∧ s.pl = goal then wtR k r else 0
        | none => 0) = if (inB b r.coin ∧ takes s r.coin = true) ∧ s.pl = goal then wtR k r else 0 := by
        cases q : (splitB s b g).1 with
        | none =>
          rw [q] at sp
          rw [if_neg]
          rintro ⟨z, _⟩
          obtain ⟨b1, z, _⟩ := sp.1.mpr z
          cases z
        | some b1 =>
          rw [q] at sp
          have iff : inB b1 r.coin ↔ inB b r.coin ∧ takes s r.coin = true := by
            rw [← sp.1]
            exact ⟨fun z => ⟨b1, rfl, z⟩, fun ⟨b', e, z⟩ => by cases e; exact z⟩
          simp only [iff]
      have g2 : (match (splitB s b g).2 with
        | some b2 => if inB b2 r.coin ∧ endOf t r.coin = goal then wtR k r else 0
        | none => 0) = if (inB b r.coin ∧ takes s r.coin = false) ∧ endOf t r.coin = goal then wtR k r else 0 := by
        cases q : (splitB s b g).2 with
        | none =>
          rw [q] at sp
          rw [if_neg]
          rintro ⟨z, _⟩
          obtain ⟨b1, z, _⟩ := sp.2.mpr z
          cases z
        | some b1 =>
          rw [q] at sp
          have iff : inB b1 r.coin ↔ inB b r.coin ∧ takes s r.coin = false := by
            rw [← sp.2]
            exact ⟨fun z => ⟨b1, rfl, z⟩, fun ⟨b', e, z⟩ => by cases e; exact z⟩
          simp only [iff]
      rw [g1, g2]
      cases takes s r.coin <;> by_cases i : inB b r.coin <;> simp [i]
    rw [e, Int.mul_add]
    simp only [pieces]
    rw [sumF_app]
    congr 1
    · cases q : (splitB s b g).1 with
      | none =>
        rw [sumF_zero fun r _ => by show f1 r = 0; simp only [f1, q]]
        simp
      | some b1 =>
        have gs := grid_sum hk (split_okB hb (.inl q)) (split_on hs ho (.inl q)) g
        rw [← hG] at gs
        have : sumF f1 G = sumF (fun r : Row => if inB b1 r.coin ∧ s.pl = goal then wtR k r else 0) G := sumF_congr fun r _ => by simp only [f1, q]
        rw [this]
        simp only [sumF_cons, sumF_nil]
        by_cases e : s.pl = goal
        · simp only [e, and_true, if_true]
          rw [gs]; simp
        · simp only [e, and_false, if_false]
          rw [sumF_zero fun _ _ => rfl]; simp
    · cases q : (splitB s b g).2 with
      | none =>
        rw [sumF_zero fun r _ => by show f2 r = 0; simp only [f2, q]]
        simp
      | some b2 =>
        have : sumF f2 G = sumF (fun r : Row => if inB b2 r.coin ∧ endOf t r.coin = goal then wtR k r else 0) G := sumF_congr fun r _ => by simp only [f2, q]
        rw [this]
        exact pieces_sum hk hG hp goal t b2 (n + 1) ht (split_okB hb (.inr q)) (split_on hs ho (.inr q))
/-- the share's numbers, by both -/
theorem shares_same {ms : List Stp} {k : Knd} (hk : k.ok) (goal : Int) : facK k * sumF (fun r : Row => if endOf ms r.coin = goal then wtR k r else 0) (grid [ms] (bndsOf k) k.m) = sumF (fun p : Piece => if p.pl = goal then szB3 k p.box else 0) (pieces ms (boxOf k 0) k.m 0) := by
  have rt := rows_tell (ms := ms) (bndsOf_ok hk) k.m
  have pos : ∀ r ∈ grid [ms] (bndsOf k) k.m, r.coin.pos ∧ r.coin.m = k.m ∧ inB (boxOf k 0) r.coin := fun r hr => by
    obtain ⟨f1, f2, f3⟩ := rt.fine r hr
    have hpos : r.coin.pos := ⟨f1.2, f2.2, f3.2⟩
    obtain ⟨⟨d1, d2⟩, _⟩ := rt.sound r hr r.coin hpos rfl ⟨f1.1, f2.1, f3.1⟩
    exact ⟨hpos, d1, (box_dom hk _).mpr d2⟩
  have on1 : ∀ (r : Int × Int) (ls : List Int), okBd r → OnE r ls (spanOf r 0) := fun r ls h => by
    rw [spanOf0 h.1]
    exact ⟨⟨r.1, rfl, Int.le_refl _, h.2.1, .inl rfl⟩, r.2, rfl, h.2.1, Int.le_refl _, .inr (.inl rfl)⟩
  rw [← pieces_sum hk rfl (fun r hr => ⟨(pos r hr).1, (pos r hr).2.1⟩) goal ms (boxOf k 0) 0 (fun _ h => h) (boxOf_ok hk (Int.le_refl _)) ⟨on1 _ _ hk.1, on1 _ _ hk.2.1, on1 _ _ hk.2.2.1⟩]
  congr 1
  refine sumF_congr fun r hr => ?_
  have := (pos r hr).2.2
  simp [this]
/-! ### low -/
theorem low_scale (a b : Int) {k : Int} (hk : 0 < k) : low (k * a) (k * b) = low a b := by
  unfold low
  have e : (Int.gcd (k * a) (k * b) : Int) = k * (Int.gcd a b : Int) := by
    rw [Int.gcd_mul_left]
    have : (k.natAbs : Int) = k := by omega
    rw [Int.natCast_mul, this]
  rw [e, Int.mul_ediv_mul_of_pos _ _ hk, Int.mul_ediv_mul_of_pos _ _ hk]
theorem low_ratio {a b c d : Int} (hb : 0 < b) (hd : 0 < d) (h : a * d = c * b) : low a b = low c d := by
  rw [← low_scale a b hd, ← low_scale c d hb, Int.mul_comm d a, h, Int.mul_comm c b, Int.mul_comm d b]
end CC

namespace CC
open PySem PySem.Spec PyProof.Rows L2
/-! ### sizes -/
def tStep (t : Int) (s : Span) (r : Int × Int) : Int := if r.1 < r.2 then t * (s.hi.getD 0 - s.lo) else t
def bStep (b : Int) (r : Int × Int) : Int := if r.1 < r.2 then b * 2 * (r.2 - r.1) else b
def shB (k : Knd) : Int := bStep (bStep (bStep 1 k.w) k.t) k.h
def shT (k : Knd) (b : Box) : Int := tStep (tStep (tStep 1 b.w k.w) b.t k.t) b.h k.h
def wStep (w : Int) (r : Int × Int) : Int := w * (if r.2 - r.1 > 1 then r.2 - r.1 else 1)
def whole (k : Knd) : Int := wStep (wStep (wStep 1 k.w) k.t) k.h
theorem shT_eq (k : Knd) (b : Box) : shT k b = szB3 k b := by
  unfold shT szB3 tStep szS
  by_cases h1 : k.w.1 < k.w.2 <;> by_cases h2 : k.t.1 < k.t.2 <;> by_cases h3 : k.h.1 < k.h.2 <;> simp [h1, h2, h3]
theorem one_step {r : Int × Int} (h : r.1 ≤ r.2) (b f w : Int) (e : b = f * w) : bStep b r = (f * facD r) * wStep w r := by
  unfold bStep facD wStep
  by_cases q : r.1 < r.2
  · rw [if_pos q, if_pos q, e]
    by_cases q2 : r.2 - r.1 > 1
    · rw [if_pos q2]; ac_rfl
    · rw [if_neg q2]
      have : r.2 - r.1 = 1 := by omega
      rw [this]; ac_rfl
  · rw [if_neg q, if_neg q, if_neg (by omega), e]
    simp
theorem shB_eq {k : Knd} (hk : k.ok) : shB k = facK k * whole k := by
  have e1 := one_step hk.1.2.1 1 1 1 rfl
  have e2 := one_step hk.2.1.2.1 _ _ _ e1
  have e3 := one_step hk.2.2.1.2.1 _ _ _ e2
  unfold shB facK whole
  rw [e3]
  simp
theorem bStep_bd {b n : Int} {r : Int × Int} (h : okBd r) (hb : 0 < b ∧ b ≤ n) : 0 < bStep b r ∧ bStep b r ≤ n * 80 := by
  obtain ⟨h1, h2, h3⟩ := h
  unfold bStep
  split
  · rename_i q
    have p1 : 0 < b * 2 * (r.2 - r.1) := Int.mul_pos (by omega) (by omega)
    have p2 : b * 2 * (r.2 - r.1) ≤ (n * 2) * 40 := Int.mul_le_mul (by omega) (by omega) (by omega) (by omega)
    exact ⟨p1, by omega⟩
  · exact ⟨hb.1, by omega⟩
theorem shB_bd {k : Knd} (hk : k.ok) : 0 < shB k ∧ shB k ≤ 512000 := by
  have b1 := bStep_bd hk.1 (b := 1) (n := 1) ⟨by decide, by decide⟩
  have b2 := bStep_bd hk.2.1 b1
  have b3 := bStep_bd hk.2.2.1 b2
  exact ⟨b3.1, by have := b3.2; unfold shB; omega⟩
theorem pieces_on {ms0 : List Stp} {k : Knd} : ∀ (ms : List Stp) (b : Box) (m : Bool) (n : Nat) (p : Piece), (∀ s ∈ ms, s ∈ ms0) → OnB ms0 k b → p ∈ pieces ms b m n → OnB ms0 k p.box
  | [], b, m, n, p, _, hb, hp => by
    simp only [pieces, List.mem_singleton] at hp
    subst hp; exact hb
  | s :: r, b, m, n, p, hm, hb, hp => by
    simp only [pieces, List.mem_append] at hp
    rcases hp with hp | hp
    · cases e : (splitB s b m).1 with
      | none => rw [e] at hp; cases hp
      | some b1 => rw [e] at hp; rw [List.mem_singleton.mp hp]; exact split_on (hm s List.mem_cons_self) hb (.inl e)
    · cases e : (splitB s b m).2 with
      | none => rw [e] at hp; cases hp
      | some b2 => rw [e] at hp; exact pieces_on r b2 m (n + 1) p (fun s h => hm s (List.mem_cons_of_mem _ h)) (split_on (hm s List.mem_cons_self) hb (.inr e)) hp
theorem boxOf_on {k : Knd} (hk : k.ok) (ms : List Stp) : OnB ms k (boxOf k 0) := by
  have on1 : ∀ (r : Int × Int) (ls : List Int), okBd r → OnE r ls (spanOf r 0) := fun r ls h => by
    rw [spanOf0 h.1]
    exact ⟨⟨r.1, rfl, Int.le_refl _, h.2.1, .inl rfl⟩, r.2, rfl, h.2.1, Int.le_refl _, .inr (.inl rfl)⟩
  exact ⟨on1 _ _ hk.1, on1 _ _ hk.2.1, on1 _ _ hk.2.2.1⟩
/-- a span of a few numbers -/
def okZ (s : Span) : Prop := ∃ A B : Int, s.lo = A ∧ s.hi = some B ∧ 0 ≤ B - A ∧ B - A ≤ 80
def okZB (b : Box) : Prop := okZ b.w ∧ okZ b.t ∧ okZ b.h
theorem okZ_of {r : Int × Int} {ls : List Int} {s : Span} (h : okBd r) (hs : isSome s = true) (ho : OnE r ls s) : okZ s := by
  obtain ⟨⟨A, a1, a2, a3, a4⟩, B, b1, b2, b3, b4⟩ := ho
  obtain ⟨h1, h2, h3⟩ := h
  unfold isSome at hs
  rw [b1, a1] at hs
  simp at hs
  exact ⟨2 * A, 2 * B, a1, b1, by omega, by omega⟩
theorem pieces_z {ms : List Stp} {k : Knd} (hm : ∀ s ∈ ms, s.ok) (hk : k.ok) : ∀ p ∈ pieces ms (boxOf k 0) k.m 0, okZB p.box := fun p hp => by
  have h1 := pieces_on ms _ _ _ p (fun _ h => h) (boxOf_on hk ms) hp
  have h2 := ((tells_kind hm hk).fine p hp).1
  exact ⟨okZ_of hk.1 h2.1 h1.w, okZ_of hk.2.1 h2.2.1 h1.t, okZ_of hk.2.2.1 h2.2.2 h1.h⟩
def sp72 : Spec
  | [.dat a, .dat c], Q => ∃ (b : Box) (k : Knd), a = b.enc ∧ c = Knd.enc k ∧ okZB b ∧ k.ok ∧ Q (.tuple [.int (shT k b), .int (shB k)])
  | _, _ => False
theorem sem72 {Φ : Nat → Spec} : DefSem (b72.sem Φ) 6 2 sp72 := by
  intro as Q q
  unfold sp72 at q
  split at q <;> try exact q.elim
  obtain ⟨⟨⟨lo1, l1, hi1, h1⟩, ⟨lo2, l2, hi2, h2⟩, ⟨lo3, l3, hi3, h3⟩⟩, k, rfl, rfl, ⟨⟨A1, B1, a1, b1, c1, d1⟩, ⟨A2, B2, a2, b2, c2, d2⟩, ⟨A3, B3, a3, b3, c3, d3⟩⟩, hk, q⟩ := q
  simp only at a1 b1 a2 b2 a3 b3
  subst a1; subst b1; subst a2; subst b2; subst a3; subst b3
  refine ⟨rfl, ?_⟩
  obtain ⟨⟨w1, w2, w3⟩, ⟨t1, t2, t3⟩, ⟨z1, z2, z3⟩, _⟩ := hk
  have m1 : ∀ x, CMul x (B1 - lo1) := fun x => .inr ⟨by omega, by omega⟩
  have m2 : ∀ x, CMul x (B2 - lo2) := fun x => .inr ⟨by omega, by omega⟩
  have m3 : ∀ x, CMul x (B3 - lo3) := fun x => .inr ⟨by omega, by omega⟩
  have n1 : ∀ x, CMul x (k.w.2 - k.w.1) := fun x => .inr ⟨by omega, by omega⟩
  have n2 : ∀ x, CMul x (k.t.2 - k.t.1) := fun x => .inr ⟨by omega, by omega⟩
  have n3 : ∀ x, CMul x (k.h.2 - k.h.1) := fun x => .inr ⟨by omega, by omega⟩
  have n0 : ∀ x, CMul x 2 := fun x => .inr ⟨by decide, by decide⟩
  unfold shT shB tStep bStep at q
  simp [b72, initE, Box.enc, Knd.enc, Span.enc, Span.enc.encO', encR, cut_to]
  by_cases g1 : k.w.1 < k.w.2 <;> by_cases g2 : k.t.1 < k.t.2 <;> by_cases g3 : k.h.1 < k.h.2 <;> simp [g1, g2, g3, m1, m2, m3, n0, n1, n2, n3] at q ⊢ <;> exact q
end CC

namespace CC
open PySem PySem.Spec PyProof.Rows L2
/-! ### shares -/
open Classical in
noncomputable def shS (ms : List Stp) (k : Knd) (g : Int) : Int := sumF (fun p : Piece => if p.pl = g then szB3 k p.box else 0) (pieces ms (boxOf k 0) k.m 0)
def sp73 : Spec
  | [.dat a, .dat c, .dat (.int g)], Q => ∃ (ms : List Stp) (k : Knd), a = encM ms ∧ c = Knd.enc k ∧ okM ms ∧ k.ok ∧ Q (encR (low (shS ms k g) (shB k)))
  | _, _ => False
theorem pow_bd {B : Int} (h0 : 0 < B) (h1 : B ≤ 512000) : ∀ n : Nat, 0 < B ^ n ∧ B ^ n < 2 ^ (20 * n + 1)
  | 0 => by simp
  | n + 1 => by
    obtain ⟨p1, p2⟩ := pow_bd h0 h1 n
    rw [Int.pow_succ]
    refine ⟨Int.mul_pos p1 h0, ?_⟩
    have : B ^ n * B ≤ B ^ n * 2 ^ 20 := Int.mul_le_mul_of_nonneg_left (by omega) (by omega)
    have e : (2 : Int) ^ (20 * (n + 1) + 1) = 2 ^ (20 * n + 1) * 2 ^ 20 := by rw [← Int.pow_add]; congr 1
    rw [e]
    have : B ^ n * 2 ^ 20 < 2 ^ (20 * n + 1) * 2 ^ 20 := Int.mul_lt_mul_of_pos_right p2 (by decide)
    omega
theorem log_pow {B : Int} (h0 : 0 < B) (h1 : B ≤ 512000) {n : Nat} (hn : n ≤ 20) : 0 < B ^ n ∧ (B ^ n).natAbs.log2 < 9000 := by
  obtain ⟨p1, p2⟩ := pow_bd h0 h1 n
  refine ⟨p1, ?_⟩
  have h2 : (B ^ n).natAbs < 2 ^ (20 * n + 1) := by
    have e : ((2 : Int) ^ (20 * n + 1)) = ((2 ^ (20 * n + 1) : Nat) : Int) := by simp
    rw [e] at p2
    omega
  have := (Nat.log2_lt (by omega)).mpr h2
  omega
theorem shT_bd {k : Knd} {b : Box} (hk : k.ok) (hz : okZB b) : -(2 ^ 64) < shT k b ∧ shT k b < 2 ^ 64 := by
  have st : ∀ (t n : Int) (s : Span) (r : Int × Int), 0 ≤ t ∧ t ≤ n → okZ s → 0 ≤ tStep t s r ∧ tStep t s r ≤ n * 80 := fun t n s r ht ⟨A, B, a, b, c, d⟩ => by
    unfold tStep
    split
    · rw [a, b]
      show 0 ≤ t * (B - A) ∧ t * (B - A) ≤ n * 80
      exact ⟨Int.mul_nonneg ht.1 c, Int.mul_le_mul ht.2 d c (by omega)⟩
    · omega
  have b1 := st 1 1 b.w k.w ⟨by decide, by decide⟩ hz.1
  have b2 := st _ _ b.t k.t b1 hz.2.1
  have b3 := st _ _ b.h k.h b2 hz.2.2
  unfold shT
  omega
open Classical in
theorem sem73 {Φ : Nat → Spec} (h3 : Φ 3 = sp3) (h68 : Φ 68 = sp68) (h72 : Φ 72 = sp72) : DefSem (b73.sem Φ) 11 3 sp73 := by
  intro as Q q
  unfold sp73 at q
  split at q <;> try exact q.elim
  rename_i a c g
  obtain ⟨ms, k, rfl, rfl, hm, hk, q⟩ := q
  refine ⟨rfl, ?_⟩
  have hz := pieces_z hm.2 hk
  have hl := pieces_len ms (boxOf k 0) k.m 0
  have hl8 := hm.1
  obtain ⟨B0, B1⟩ := shB_bd hk
  simp only [b73, Sms.sem, Sm.sem]
  simp [initE]
  refine go h68 ⟨ms, k, rfl, rfl, hm.l, ?_⟩
  simp [encPs]
  refine forL_inv Piece.enc (fun rs ρ => ∃ (t S : Int) (n : Nat) (u5 u6 u7 u8 u9 u10 : Sl), ρ = [.dat (encM ms), .dat k.enc, .dat (.int g), .dat (.int t), .dat (.int (shB k ^ n)), u5, u6, u7, u8, u9, u10] ∧ n + rs.length ≤ 9 ∧ t * shB k = S * shB k ^ n ∧ shS ms k g = S + sumF (fun p : Piece => if p.pl = g then szB3 k p.box else 0) rs ∧ ∀ p ∈ rs, okZB p.box) (fun p rs ρ hI K hK => ?_) (fun ρ hI => ?_) _ _ ⟨0, 0, 0, _, _, _, _, _, _, by rw [Int.pow_zero], by omega, by simp, by unfold shS; omega, hz⟩
  · obtain ⟨t, S, n, u5, u6, u7, u8, u9, u10, rfl, hn, e, es, hz⟩ := hI
    have hz1 := hz p List.mem_cons_self
    have hz2 : ∀ p ∈ rs, okZB p.box := fun p h => hz p (List.mem_cons_of_mem _ h)
    rw [sumF_cons] at es
    rw [List.length_cons] at hn
    simp [Piece.enc]
    by_cases hg : p.pl = g
    · rw [if_pos hg] at es
      simp [hg]
      refine go h72 ⟨p.box, k, rfl, rfl, hz1, hk, ?_⟩
      obtain ⟨s1, s2⟩ := shT_bd hk hz1
      have c1 : ∀ x, CMul x (shB k) := fun x => .inr ⟨by omega, by omega⟩
      have c2 : ∀ x, CMul (shT k p.box) x := fun x => .inl ⟨s1, s2⟩
      simp [c1, c2]
      rw [← Int.pow_succ]
      refine hK _ ⟨t * shB k + shT k p.box * shB k ^ n, S + szB3 k p.box, n + 1, _, _, _, _, _, _, rfl, by omega, ?_, by omega, hz2⟩
      rw [Int.add_mul, Int.add_mul, ← shT_eq, Int.pow_succ, ← Int.mul_assoc, ← Int.mul_assoc, ← e, Int.mul_assoc]
    · rw [if_neg hg] at es
      simp [hg]
      exact hK _ ⟨t, S, n, _, _, _, _, _, _, rfl, by omega, e, by omega, hz2⟩
  · obtain ⟨t, S, n, u5, u6, u7, u8, u9, u10, rfl, hn, e, es, hz⟩ := hI
    have hn : n ≤ 20 := by simp at hn; omega
    obtain ⟨p0, p1⟩ := log_pow B0 B1 hn
    simp
    refine go h3 ⟨⟨p0, p1⟩, ?_⟩
    rw [low_ratio p0 B0 (c := shS ms k g) (by rw [e, es]; simp)]
    exact q
def sp74 : Spec
  | [.dat a, .dat (.int i)], Q => ∃ (p : Plan) (k : Knd), a = p.enc ∧ p.ok ∧ 0 ≤ i ∧ p.ks[i.toNat]? = some k ∧ Q (encI (endsP p.ms (boxOf k 0) k.m))
  | _, _ => False
theorem sem74 {Φ : Nat → Spec} (h13 : Φ 13 = sp13) (h15 : Φ 15 = sp15) (h71 : Φ 71 = sp71) : DefSem (b74.sem Φ) 2 2 sp74 := by
  intro as Q q
  unfold sp74 at q
  split at q <;> try exact q.elim
  rename_i a i
  obtain ⟨p, k, rfl, hp, hi, ek, q⟩ := q
  refine ⟨rfl, ?_⟩
  have li := lt_of_get ek
  simp [b74, initE]
  refine need_P h13 hp (go h15 ⟨p, rfl, ⟨hi, by omega⟩, ?_⟩)
  simp [Plan.enc, encKs, atI_get Knd.enc hi ek]
  exact go h71 ⟨p.ms, k, rfl, rfl, hp.2, q⟩
def toP (ms : List Stp) (k : Knd) (g : Int) : Option Coin := ((pieces ms (boxOf k 0) k.m 0).find? fun x => decide (x.pl = g)).map fun x => coinOf x.box x.m
def sp75 : Spec
  | [.dat a, .dat (.int i), .dat (.int g)], Q => ∃ (p : Plan) (k : Knd), a = p.enc ∧ p.ok ∧ 0 ≤ i ∧ p.ks[i.toNat]? = some k ∧ okP g ∧ Q (encOC (toP p.ms k g))
  | _, _ => False
theorem sem75 {Φ : Nat → Spec} (h13 : Φ 13 = sp13) (h15 : Φ 15 = sp15) (h58 : Φ 58 = sp58) (h68 : Φ 68 = sp68) (h70 : Φ 70 = sp70) : DefSem (b75.sem Φ) 7 3 sp75 := by
  intro as Q q
  unfold sp75 at q
  split at q <;> try exact q.elim
  rename_i a i g
  obtain ⟨p, k, rfl, hp, hi, ek, hg, q⟩ := q
  refine ⟨rfl, ?_⟩
  have li := lt_of_get ek
  simp only [b75, Sms.sem, Sm.sem]
  simp [initE]
  refine need_P h13 hp (go h15 ⟨p, rfl, ⟨hi, by omega⟩, go h58 ⟨pl_ok hg, ?_⟩⟩)
  simp [encKs, atI_get Knd.enc hi ek]
  refine go h68 ⟨p.ms, k, rfl, rfl, hp.2.l, ?_⟩
  simp [encPs]
  unfold toP at q
  refine forL_inv Piece.enc (fun rs ρ => ∃ u3 u4 u5 u6, ρ = [.dat p.enc, .dat (.int i), .dat (.int g), u3, u4, u5, u6] ∧ (pieces p.ms (boxOf k 0) k.m 0).find? (fun x => decide (x.pl = g)) = rs.find? fun x => decide (x.pl = g)) (fun x rs ρ hI K hK => ?_) (fun ρ hI => ?_) _ _ ⟨_, _, _, _, rfl, rfl⟩
  · obtain ⟨u3, u4, u5, u6, rfl, e⟩ := hI
    rw [List.find?_cons] at e
    simp [Piece.enc]
    by_cases h : x.pl = g
    · rw [decide_eq_true h] at e
      rw [e] at q
      simp [h]
      exact go h70 ⟨x.box, rfl, q⟩
    · rw [decide_eq_false h] at e
      simp [h]
      exact hK _ ⟨_, _, _, _, rfl, e⟩
  · obtain ⟨u3, u4, u5, u6, rfl, e⟩ := hI
    rw [e] at q
    simpa [encOC] using q
def sp76 : Spec
  | [.dat a, .dat (.int i), .dat (.int g)], Q => ∃ (p : Plan) (k : Knd), a = p.enc ∧ p.ok ∧ 0 ≤ i ∧ p.ks[i.toNat]? = some k ∧ okP g ∧ Q (encR (low (shS p.ms k g) (shB k)))
  | _, _ => False
theorem sem76 {Φ : Nat → Spec} (h13 : Φ 13 = sp13) (h15 : Φ 15 = sp15) (h58 : Φ 58 = sp58) (h73 : Φ 73 = sp73) : DefSem (b76.sem Φ) 3 3 sp76 := by
  intro as Q q
  unfold sp76 at q
  split at q <;> try exact q.elim
  rename_i a i g
  obtain ⟨p, k, rfl, hp, hi, ek, hg, q⟩ := q
  refine ⟨rfl, ?_⟩
  have li := lt_of_get ek
  simp [b76, initE]
  refine need_P h13 hp (go h15 ⟨p, rfl, ⟨hi, by omega⟩, go h58 ⟨pl_ok hg, ?_⟩⟩)
  simp [encKs, atI_get Knd.enc hi ek]
  exact go h73 ⟨p.ms, k, rfl, rfl, hp.2, hp.1.2 k (List.mem_of_getElem? ek), q⟩
/-! ### coins of a kind -/
def winB (m r : Int × Int) : Bool := decide (r.1 * m.2 ≤ m.1) && decide (m.1 ≤ r.2 * m.2)
def belB (k : Knd) (c : Coin) : Bool := (c.m == k.m) && (winB c.w k.w && (winB c.t k.t && winB c.h k.h))
def sp16 : Spec
  | [.dat a, .dat b], Q => ∃ m r : Int × Int, a = encR m ∧ b = encR r ∧ okBd r ∧ Q (.bool (winB m r))
  | _, _ => False
theorem sem16 {Φ : Nat → Spec} : DefSem (b16.sem Φ) 2 2 sp16 := by
  intro as Q q
  unfold sp16 at q
  split at q <;> try exact q.elim
  obtain ⟨m, r, rfl, rfl, ⟨r1, r2, r3⟩, q⟩ := q
  refine ⟨rfl, ?_⟩
  have c1 : ∀ x, CMul r.1 x := fun x => .inl ⟨by omega, by omega⟩
  have c2 : ∀ x, CMul r.2 x := fun x => .inl ⟨by omega, by omega⟩
  unfold winB at q
  simp [b16, initE, encR, c1, c2]
  by_cases h : r.1 * m.2 ≤ m.1 <;> simpa [h] using q
def sp17 : Spec
  | [.dat a, .dat b], Q => ∃ (k : Knd) (c : Coin), a = k.enc ∧ b = c.enc ∧ k.ok ∧ Q (.bool (belB k c))
  | _, _ => False
theorem sem17 {Φ : Nat → Spec} (h16 : Φ 16 = sp16) : DefSem (b17.sem Φ) 4 2 sp17 := by
  intro as Q q
  unfold sp17 at q
  split at q <;> try exact q.elim
  obtain ⟨k, c, rfl, rfl, ⟨kw, kt, kh, _⟩, q⟩ := q
  refine ⟨rfl, ?_⟩
  unfold belB at q
  simp [b17, initE, Knd.enc, Coin.enc, cut_to]
  by_cases h : c.m = k.m
  · simp [h] at q ⊢
    refine go h16 ⟨c.w, k.w, rfl, rfl, kw, go h16 ⟨c.t, k.t, rfl, rfl, kt, go h16 ⟨c.h, k.h, rfl, rfl, kh, ?_⟩⟩⟩
    refine ⟨[winB c.w k.w, winB c.t k.t, winB c.h k.h], rfl, ?_⟩
    simpa using q
  · have h' : (c.m == k.m) = false := by simpa using h
    rw [h'] at q
    simpa [h] using q
def sp21 : Spec
  | [.dat a, .dat (.int i), .dat b], Q => ∃ (p : Plan) (k : Knd) (c : Coin), a = p.enc ∧ p.ok ∧ 0 ≤ i ∧ p.ks[i.toNat]? = some k ∧ b = c.enc ∧ c.ok ∧ Q (.bool (belB k c))
  | _, _ => False
theorem sem21 {Φ : Nat → Spec} (h13 : Φ 13 = sp13) (h14 : Φ 14 = sp14) (h15 : Φ 15 = sp15) (h17 : Φ 17 = sp17) : DefSem (b21.sem Φ) 3 3 sp21 := by
  intro as Q q
  unfold sp21 at q
  split at q <;> try exact q.elim
  rename_i a i b
  obtain ⟨p, k, c, rfl, hp, hi, ek, rfl, hc, q⟩ := q
  refine ⟨rfl, ?_⟩
  have li := lt_of_get ek
  simp [b21, initE]
  refine need_P h13 hp (go h15 ⟨p, rfl, ⟨hi, by omega⟩, go h14 ⟨isCoin_ok hc, ?_⟩⟩)
  simp [encKs, atI_get Knd.enc hi ek]
  exact go h17 ⟨k, c, rfl, rfl, hp.1.2 k (List.mem_of_getElem? ek), q⟩
end CC

namespace CC
open PySem PySem.Spec PyProof.Rows L2
/-! ### a dict of sums -/
def getK (kvs : List (Int × Int)) (g : Int) : Int := ((kvs.find? fun p => decide (p.1 = g)).map (·.2)).getD 0
def hasI (kvs : List (Int × Int)) (g : Int) : Bool := kvs.any fun p => decide (p.1 = g)
theorem getK_d (kvs : List (Int × Int)) (g : Int) : (((dkD kvs).find? fun p => isI g p.1).map (·.2)).getD (.int 0) = .int (getK kvs g) := by
  rw [find_isI]
  unfold getK
  cases (kvs.find? fun p => decide (p.1 = g)) <;> rfl
theorem hasI_d (kvs : List (Int × Int)) (g : Int) : ((dkD kvs).any fun p => isI g p.1) = hasI kvs g := any_isI g kvs
def putF (g z : Int) (p : Int × Int) : Int × Int := if p.1 = g then (p.1, z) else p
theorem putF_1 (g z : Int) (p : Int × Int) : (putF g z p).1 = p.1 := by unfold putF; split <;> rfl
theorem find_putF (g z h : Int) : ∀ kvs : List (Int × Int), ((kvs.map (putF g z)).find? fun p => decide (p.1 = h)).map (·.2) = if h = g then (if hasI kvs g = true then some z else none) else (kvs.find? fun p => decide (p.1 = h)).map (·.2)
  | [] => by simp [hasI]
  | p :: r => by
    have ih := find_putF g z h r
    rw [List.map_cons, List.find?_cons, putF_1, List.find?_cons]
    by_cases e : p.1 = h
    · simp only [e, decide_true]
      by_cases e2 : h = g
      · subst e2
        have : hasI (p :: r) h = true := by simp [hasI, e]
        rw [if_pos rfl, if_pos this]
        simp [putF, e]
      · rw [if_neg e2]
        have : ¬ p.1 = g := by rw [e]; exact e2
        simp [putF, this]
    · simp only [e, decide_false]
      rw [ih]
      by_cases e2 : h = g
      · subst e2
        have : hasI (p :: r) h = hasI r h := by simp [hasI, e]
        rw [this]
      · rw [if_neg e2, if_neg e2]
theorem hasI_false {kvs : List (Int × Int)} {g : Int} (h : ¬ hasI kvs g = true) : (kvs.find? fun p => decide (p.1 = g)) = none := by
  rw [List.find?_eq_none]
  intro p hp e
  exact h (List.any_eq_true.mpr ⟨p, hp, e⟩)
theorem getK_put (kvs : List (Int × Int)) (g z h : Int) : getK (putI kvs g z) h = if h = g then z else getK kvs h := by
  unfold putI
  by_cases q : hasI kvs g = true
  · have q' : (kvs.any fun p => decide (p.1 = g)) = true := q
    rw [if_pos q']
    show (((kvs.map (putF g z)).find? fun p => decide (p.1 = h)).map (·.2)).getD 0 = _
    rw [find_putF, if_pos q]
    by_cases e : h = g
    · rw [if_pos e, if_pos e]; rfl
    · rw [if_neg e, if_neg e]; rfl
  · have q' : ¬ (kvs.any fun p => decide (p.1 = g)) = true := q
    rw [if_neg q']
    unfold getK
    rw [List.find?_append]
    by_cases e : h = g
    · subst e
      rw [if_pos rfl, hasI_false q]
      simp
    · rw [if_neg e]
      have e' : ¬ g = h := fun z => e z.symm
      cases hf : (kvs.find? fun p => decide (p.1 = h)) with
      | none => simp [e']
      | some p => simp
theorem keys_put (kvs : List (Int × Int)) (g z : Int) : (putI kvs g z).map (·.1) = if hasI kvs g = true then kvs.map (·.1) else kvs.map (·.1) ++ [g] := by
  unfold putI
  by_cases q : hasI kvs g = true
  · have q' : (kvs.any fun p => decide (p.1 = g)) = true := q
    rw [if_pos q', if_pos q, List.map_map]
    refine List.map_congr_left fun p _ => ?_
    exact putF_1 g z p
  · have q' : ¬ (kvs.any fun p => decide (p.1 = g)) = true := q
    rw [if_neg q', if_neg q, List.map_append]; rfl
theorem hasI_iff {kvs : List (Int × Int)} {g : Int} : hasI kvs g = true ↔ g ∈ kvs.map (·.1) := by
  unfold hasI
  rw [List.any_eq_true, List.mem_map]
  constructor
  · rintro ⟨p, hp, e⟩; exact ⟨p, hp, of_decide_eq_true e⟩
  · rintro ⟨p, hp, e⟩; exact ⟨p, hp, decide_eq_true e⟩
open Classical in
structure DictInv (f w : Row → Int) (pre : List Row) (kvs : List (Int × Int)) : Prop where
  get : ∀ g, getK kvs g = sumF (fun r => if f r = g then w r else 0) pre
  has : ∀ g, g ∈ kvs.map (·.1) ↔ g ∈ pre.map f
  nd : (kvs.map (·.1)).Nodup
  len : kvs.length ≤ pre.length
theorem DictInv.nil (f w : Row → Int) : DictInv f w [] [] := ⟨fun _ => rfl, fun _ => by simp, List.nodup_nil, Nat.le_refl _⟩
theorem DictInv.put {f w : Row → Int} {pre : List Row} {kvs : List (Int × Int)} (h : DictInv f w pre kvs) (r : Row) : DictInv f w (pre ++ [r]) (putI kvs (f r) (getK kvs (f r) + w r)) where
  get := fun g => by
    rw [getK_put, sumF_app, sumF_cons, sumF_nil]
    by_cases e : g = f r
    · subst e
      rw [if_pos rfl, if_pos rfl, h.get]; omega
    · rw [if_neg e, if_neg fun z => e z.symm, h.get]; omega
  has := fun g => by
    rw [keys_put, List.map_append, List.mem_append, ← h.has]
    by_cases q : hasI kvs (f r) = true
    · rw [if_pos q]
      constructor
      · exact .inl
      · rintro (m | m)
        · exact m
        · rw [List.mem_singleton.mp m]; exact hasI_iff.mp q
    · rw [if_neg q, List.mem_append]; rfl
  nd := by
    rw [keys_put]
    by_cases q : hasI kvs (f r) = true
    · rw [if_pos q]; exact h.nd
    · rw [if_neg q]
      refine List.nodup_append.mpr ⟨h.nd, by simp, fun a ha b hb e => ?_⟩
      rw [List.mem_singleton.mp hb] at e
      rw [e] at ha
      exact q (hasI_iff.mpr ha)
  len := by
    have h1 := congrArg List.length (keys_put kvs (f r) (getK kvs (f r) + w r))
    have h2 := h.len
    rw [List.length_append]
    split at h1 <;> simp at h1 ⊢ <;> omega
/-! ### rows of a kind -/
theorem segs_bd {lo h : Int} : ∀ es : List Int, es.Pairwise (· < ·) → (∀ y ∈ es, lo ≤ y ∧ y ≤ h) → ∀ c ∈ segs es, ∃ y, c.b = some y ∧ 0 ≤ y - c.a ∧ y - c.a ≤ h - lo
  | [], _, _, c, hc => by cases hc
  | [_], _, _, c, hc => by cases hc
  | a :: b :: r, hp, hb, c, hc => by
    have ha := hb a List.mem_cons_self
    have hb1 := hb b (List.mem_cons_of_mem _ List.mem_cons_self)
    have hab : a < b := (List.pairwise_cons.mp hp).1 b List.mem_cons_self
    rcases List.mem_cons.mp hc with rfl | hc
    · exact ⟨b, rfl, by show 0 ≤ b - a; omega, by show b - a ≤ h - lo; omega⟩
    · rcases List.mem_cons.mp hc with rfl | hc
      · exact ⟨b, rfl, by show 0 ≤ b - b; omega, by show b - b ≤ h - lo; omega⟩
      · exact segs_bd (b :: r) (List.pairwise_cons.mp hp).2 (fun y hy => hb y (List.mem_cons_of_mem _ hy)) c hc
theorem cells_bd {r : Int × Int} (h : okBd r) (ls : List Int) : ∀ c ∈ cellsOf (bndOf r) ls, ∃ y, c.b = some y ∧ 0 ≤ y - c.a ∧ y - c.a ≤ 40 := fun c hc => by
  obtain ⟨h1, h2, h3⟩ := h
  have w := well_of (b := bndOf r) (bndOf_ok ⟨h1, h2⟩) ls
  unfold cellsOf cells at hc
  rcases List.mem_append.mp hc with hc | hc
  · have n0 : ¬ (bndOf r).lo = 0 := by show ¬ r.1 = 0; omega
    rw [if_neg n0] at hc
    rw [List.mem_singleton.mp hc]
    exact ⟨_, rfl, by show 0 ≤ r.1 - r.1; omega, by show r.1 - r.1 ≤ 40; omega⟩
  · rcases List.mem_append.mp hc with hc | hc
    · obtain ⟨y, e1, e2, e3⟩ := segs_bd (lo := r.1) (h := r.2) _ (edges_sort w) (fun y hy => ⟨(edges_hi w y hy).1, (edges_hi w y hy).2 r.2 rfl⟩) c hc
      exact ⟨y, e1, e2, by omega⟩
    · cases hc
theorem grid_bd {ms : List Stp} {k : Knd} (hk : k.ok) {g : Bool} : ∀ r ∈ grid [ms] (bndsOf k) g, (∃ y, r.x.b = some y ∧ 0 ≤ y - r.x.a ∧ y - r.x.a ≤ 40) ∧ (∃ y, r.y.b = some y ∧ 0 ≤ y - r.y.a ∧ y - r.y.a ≤ 40) ∧ ∃ y, r.z.b = some y ∧ 0 ≤ y - r.z.a ∧ y - r.z.a ≤ 40 := fun r hr => by
  obtain ⟨x, hx, hr⟩ := List.mem_flatMap.mp hr
  obtain ⟨y, hy, hr⟩ := List.mem_flatMap.mp hr
  obtain ⟨z, hz, rfl⟩ := List.mem_map.mp hr
  exact ⟨cells_bd hk.1 _ x hx, cells_bd hk.2.1 _ y hy, cells_bd hk.2.2.1 _ z hz⟩
/-! ### told coins -/
theorem ends_mem {ms : List Stp} {k : Knd} (hk : k.ok) (g : Int) : (∃ p ∈ pieces ms (boxOf k 0) k.m 0, p.pl = g) ↔ g ∈ (grid [ms] (bndsOf k) k.m).map fun r => endOf ms r.coin := by
  have e := ends_kind (ms := ms) hk
  have h1 : g ∈ endsP ms (boxOf k 0) k.m ↔ ∃ p ∈ pieces ms (boxOf k 0) k.m 0, p.pl = g := by
    unfold endsP
    rw [sset_mem, List.mem_map]
  rw [← h1, e, sset_mem]; rfl
theorem toP_none {ms : List Stp} {k : Knd} (hk : k.ok) (g : Int) : (toP ms k g).isNone = true ↔ ¬ g ∈ (grid [ms] (bndsOf k) k.m).map fun r => endOf ms r.coin := by
  rw [← ends_mem hk]
  unfold toP
  rw [Option.isNone_map, Option.isNone_iff_eq_none, List.find?_eq_none]
  constructor
  · rintro h ⟨p, hp, e⟩; exact h p hp (decide_eq_true e)
  · intro h p hp e; exact h ⟨p, hp, of_decide_eq_true e⟩
theorem toP_some {ms : List Stp} {k : Knd} (hm : ∀ s ∈ ms, s.ok) (hk : k.ok) {g : Int} {c : Coin} (h : toP ms k g = some c) : c.ok ∧ belB k c = true ∧ endOf ms c = g := by
  unfold toP at h
  obtain ⟨p, hf, rfl⟩ := Option.map_eq_some_iff.mp h
  have hp := List.mem_of_find?_eq_some hf
  have hg : p.pl = g := by simpa using List.find?_some hf
  have T := tells_kind hm hk
  obtain ⟨f1, f2⟩ := T.fine p hp
  obtain ⟨i1, i2⟩ := coinOf_in (m := p.m) f1
  obtain ⟨⟨d1, d2, d3, d4⟩, e, _⟩ := T.sound p hp _ i2 rfl i1
  refine ⟨coinOf_ok f1 f2, ?_, by rw [← e]; exact hg⟩
  have dom : ∀ (r m : Int × Int), okBd r → Dom r.1 (some r.2) m → winB m r = true := fun r m h d => by
    obtain ⟨h1, h2⟩ := d
    rw [if_neg (by have := h.1; omega)] at h1
    unfold winB
    rw [decide_eq_true h1, decide_eq_true (show m.1 ≤ r.2 * m.2 from h2)]; rfl
  unfold belB
  rw [d1, dom _ _ hk.1 d2, dom _ _ hk.2.1 d3, dom _ _ hk.2.2.1 d4]
  simp
end CC

namespace CC
open PySem PySem.Spec PyProof.Rows L2
def sp80 : Spec
  | [.dat a, .dat c], Q => ∃ (ms : List Stp) (k : Knd), a = encM ms ∧ c = Knd.enc k ∧ okM ms ∧ k.ok ∧ ∀ kvs, DictInv (fun r => endOf ms r.coin) (wtR k) (grid [ms] (bndsOf k) k.m) kvs → Q (.tuple [.dict (dkD kvs), .int (whole k)])
  | _, _ => False
def encT (x : Cell × (Int × Int)) : D := .tuple [x.1.enc, encR x.2]
def encRs (rs : List (Int × Int)) : D := .tuple (rs.map encR)
def prodW : Int → List (Cell × (Int × Int)) → Int
  | v, [] => v
  | v, x :: r => prodW (v * szC x.2 x.1) r
def wholeF : Int → List (Int × Int) → Int
  | v, [] => v
  | v, r :: t => wholeF (wStep v r) t
def kRs (k : Knd) : List (Int × Int) := [k.w, k.t, k.h]
def itsT (k : Knd) (r : Row) : List (Cell × (Int × Int)) := [(r.x, k.w), (r.y, k.t), (r.z, k.h)]
theorem slD1_go {s : Option Sl} {d : D} {Q : D → Prop} (h : s = some (.dat d)) (q : Q d) : slD1 s Q := by rw [h]; exact q
theorem tup_go {ds : List D} {Q : List D → Prop} (q : Q ds) : tupD (.tuple ds) Q := q
theorem setL_go {i j : Nat} {x y : D} {ρ : SEnv} {Q : SEnv → Prop} (q : Q ((ρ.set i (.dat x)).set j (.dat y))) : setL [i, j] [x, y] ρ Q := q
theorem sl_go {k : Knd} {R : D → Prop} (q : R (.tuple ((kRs k).map encR))) : slD k.enc none (some 3) R := by
  have e : slD k.enc none (some 3) R = R (.tuple ((kRs k).map encR)) := by simp [Knd.enc, cut_to, kRs]
  rw [e]; exact q
theorem sl_knd (k : Knd) (R : D → Prop) : slD k.enc none (some 3) R = R (.tuple ((kRs k).map encR)) := by simp [Knd.enc, cut_to, kRs]
theorem zip_its (k : Knd) (r : Row) : zipL [r.x.enc, r.y.enc, r.z.enc] (List.map encR (kRs k)) = (itsT k r).map encT := by simp [kRs, itsT, encT]
theorem wt_its (k : Knd) (r : Row) : wtR k r = prodW 1 (itsT k r) := by simp [itsT, prodW, wtR]
theorem sem80 {Φ : Nat → Spec} (h56 : Φ 56 = sp56) (h79 : Φ 79 = sp79) : DefSem (b80.sem Φ) 13 2 sp80 := by
  intro as Q q
  unfold sp80 at q
  split at q <;> try exact q.elim
  obtain ⟨ms, k, rfl, rfl, hm, hk, q⟩ := q
  refine ⟨rfl, ?_⟩
  have hsl := sl_knd k
  have hix : ∀ R : D → Prop, ixD k.enc (.int 3) R = R (.bool k.m) := fun R => ixD_k3 k R
  have hb := grid_bd (ms := ms) hk (g := k.m)
  have hsm := grid_small hm.1 (bndsOf k) k.m
  have c1 : ∀ x, CMul x 1 := fun x => .inr ⟨by decide, by decide⟩
  have okk : ∀ r ∈ kRs k, okBd r := fun r hr => by
    simp [kRs] at hr
    rcases hr with rfl | rfl | rfl
    · exact hk.1
    · exact hk.2.1
    · exact hk.2.2.1
  have wk : whole k = wholeF 1 (kRs k) := rfl
  simp only [b80, Sms.sem, Sm.sem]
  simp only [initE]
  intro p
  simp [hsl]
  refine forL_inv encR (fun rs ρ => ∃ (w : Int) (u4 u5 : Sl), ρ = [.dat (encM ms), .dat k.enc, .cell p (.dk []), .dat (.int w), u4, u5, .un, .un, .un, .un, .un, .un, .un] ∧ whole k = wholeF w rs ∧ ∀ r ∈ rs, okBd r) (fun r rs ρ hI K hK => ?_) (fun ρ hI => ?_) _ _ ⟨_, _, _, rfl, wk, okk⟩
  · obtain ⟨w, u4, u5, rfl, e, ho⟩ := hI
    obtain ⟨h1, h2, h3⟩ := ho r List.mem_cons_self
    have c : ∀ x, CMul x (if 1 < r.2 - r.1 then r.2 - r.1 else 1) := fun x => .inr (by split <;> omega)
    simp [encR, c]
    exact hK _ ⟨w * (if 1 < r.2 - r.1 then r.2 - r.1 else 1), _, _, rfl, e, fun r h => ho r (List.mem_cons_of_mem _ h)⟩
  · obtain ⟨w, u4, u5, rfl, e, ho⟩ := hI
    have e : w = whole k := e.symm
    subst e
    simp [hsl, hix]
    refine go h79 ⟨[ms], bndsOf k, rfl, .inl rfl, sum1 hm, ?_⟩
    simp
    refine forL_inv Row.enc (fun rs ρ => ∃ (pre : List Row) (kvs : List (Int × Int)) (u4 u5 u6 u7 u8 u9 u10 u11 u12 : Sl), ρ = [.dat (encM ms), .dat k.enc, .cell p (.dk kvs), .dat (.int (whole k)), u4, u5, u6, u7, u8, u9, u10, u11, u12] ∧ grid [ms] (bndsOf k) k.m = pre ++ rs ∧ DictInv (fun r => endOf ms r.coin) (wtR k) pre kvs) (fun r rs ρ hI K hK => ?_) (fun ρ hI => ?_) _ _ ⟨[], [], _, _, _, _, _, _, _, _, _, rfl, rfl, DictInv.nil _ _⟩
    · obtain ⟨pre, kvs, u4, u5, u6, u7, u8, u9, u10, u11, u12, rfl, e, hd⟩ := hI
      have hr : r ∈ grid [ms] (bndsOf k) k.m := by rw [e]; simp
      have hits : ∀ x ∈ itsT k r, ∃ y, x.1.b = some y ∧ 0 ≤ y - x.1.a ∧ y - x.1.a ≤ 40 := fun x hx => by
        obtain ⟨b1, b2, b3⟩ := hb r hr
        simp [itsT] at hx
        rcases hx with rfl | rfl | rfl
        · exact b1
        · exact b2
        · exact b3
      have hw := wt_its k r
      have hl := hd.len
      have hl2 := congrArg List.length e
      rw [List.length_append, List.length_cons] at hl2
      have hsz : kvs.length < sizeLine := by rw [sizeLine_eq]; omega
      have nxt := hd.put r
      rw [Row.enc]
      refine tup_go (setL_go ?_)
      refine slD1_go (d := .tuple [r.x.enc, r.y.enc, r.z.enc]) rfl ?_
      refine slD1_go (d := k.enc) rfl (sl_go (tup_go (tup_go ?_)))
      rw [zip_its]
      refine forL_inv encT (fun xs ρ => ∃ (v : Int) (u4 u5 u9 u10 u11 : Sl), ρ = [.dat (encM ms), .dat k.enc, .cell p (.dk kvs), .dat (.int (whole k)), u4, u5, .dat (.tuple [r.x.enc, r.y.enc, r.z.enc]), .dat r.coin.enc, .dat (.int v), u9, u10, u11, u12] ∧ wtR k r = prodW v xs ∧ ∀ x ∈ xs, ∃ y, x.1.b = some y ∧ 0 ≤ y - x.1.a ∧ y - x.1.a ≤ 40) (fun x xs ρ hI K2 hK2 => ?_) (fun ρ hI => ?_) _ _ ⟨_, _, _, _, _, _, rfl, hw, hits⟩
      · obtain ⟨v, u4, u5, u9, u10, u11, rfl, ev, hx⟩ := hI
        obtain ⟨⟨a, b, s⟩, r1, r2⟩ := x
        obtain ⟨y, y1, y2, y3⟩ := hx _ List.mem_cons_self
        have hx2 := fun x h => hx x (List.mem_cons_of_mem _ h)
        simp only at y1 y2 y3
        subst y1
        have m1 : ∀ x, CMul x (y - a) := fun x => .inr ⟨by omega, by omega⟩
        simp [encT, Cell.enc, encR]
        by_cases g : r1 = r2
        · simp [g, c1]
          exact hK2 _ ⟨v, _, _, _, _, _, rfl, by rw [ev]; show prodW (v * szC (r1, r2) _) xs = prodW v xs; rw [show szC (r1, r2) ⟨a, some y, s⟩ = 1 by simp [szC, degB, g], Int.mul_one], hx2⟩
        · simp [g, m1]
          exact hK2 _ ⟨v * (y - a), _, _, _, _, _, rfl, by rw [ev]; show prodW (v * szC (r1, r2) _) xs = _; rw [show szC (r1, r2) ⟨a, some y, s⟩ = y - a by simp [szC, degB, g]], hx2⟩
      · obtain ⟨v, u4, u5, u9, u10, u11, rfl, ev, hx⟩ := hI
        have ev : v = wtR k r := ev.symm
        subst ev
        simp
        refine go h56 ⟨ms, r.coin, rfl, rfl, hm.l, ?_⟩
        simp [getK_d]
        exact ⟨hsz, hK _ ⟨pre ++ [r], _, _, _, _, _, _, _, _, _, _, rfl, by rw [e]; simp, nxt⟩⟩
    · obtain ⟨pre, kvs, u4, u5, u6, u7, u8, u9, u10, u11, u12, rfl, e, hd⟩ := hI
      rw [List.append_nil] at e
      subst e
      simpa using q kvs hd
end CC

namespace CC
open PySem PySem.Spec PyProof.Rows L2
theorem keys_sorted {ms : List Stp} {k : Knd} (hk : k.ok) {kvs : List (Int × Int)} {w : Row → Int} (hd : DictInv (fun r => endOf ms r.coin) w (grid [ms] (bndsOf k) k.m) kvs) {l : List Int} (hp : l.Perm (kvs.map (·.1))) (hs : l.Pairwise (· ≤ ·)) : l = endsP ms (boxOf k 0) k.m := by
  rw [ends_kind hk]
  refine sset_eq ?_ fun z => ?_
  · refine (List.Pairwise.and hs (hp.nodup_iff.mpr hd.nd)).imp fun {a b} h => ?_
    have := h.1
    have := h.2
    omega
  · rw [hp.mem_iff, hd.has]; rfl
open Classical in
theorem share_law {ms : List Stp} {k : Knd} (hk : k.ok) {kvs : List (Int × Int)} (hd : DictInv (fun r => endOf ms r.coin) (wtR k) (grid [ms] (bndsOf k) k.m) kvs) (g : Int) : low (shS ms k g) (shB k) = low (getK kvs g) (whole k) := by
  have h1 := shares_same (ms := ms) hk g
  have h2 := hd.get g
  have hB := (shB_bd hk).1
  have e := shB_eq hk
  have hw : 0 < whole k := by
    have f : ∀ r, 0 < facD r := fun r => by unfold facD; split <;> decide
    have hf : 0 < facK k := Int.mul_pos (Int.mul_pos (f _) (f _)) (f _)
    by_cases z : 0 < whole k
    · exact z
    · have := Int.mul_nonpos_of_nonneg_of_nonpos (a := facK k) (b := whole k) (by omega) (by omega)
      omega
  refine low_ratio hB hw ?_
  have hS : shS ms k g = facK k * getK kvs g := by
    rw [h2]
    exact h1.symm
  rw [hS, e]
  ac_rfl
theorem whole_bd {k : Knd} (hk : k.ok) : 0 < whole k ∧ whole k < 1073741824 := by
  have e := shB_eq hk
  obtain ⟨b1, b2⟩ := shB_bd hk
  have f : ∀ r, 0 < facD r := fun r => by unfold facD; split <;> decide
  have hf : 0 < facK k := Int.mul_pos (Int.mul_pos (f _) (f _)) (f _)
  have hw : 0 < whole k := by
    by_cases z : 0 < whole k
    · exact z
    · have := Int.mul_nonpos_of_nonneg_of_nonpos (a := facK k) (b := whole k) (by omega) (by omega)
      omega
  refine ⟨hw, ?_⟩
  have : whole k ≤ facK k * whole k := by
    have := Int.mul_le_mul_of_nonneg_right (show 1 ≤ facK k by omega) (show 0 ≤ whole k by omega)
    omega
  omega
mutual
theorem eqv_selfF : ∀ d : D, PyData.canLay0 d = true → PyData.eqv d d = true
  | .none, _ => by simp
  | .bool _, _ => by simp
  | .int _, _ => by simp
  | .str _, _ => by simp
  | .list ds, h => by rw [eqv_ll]; exact eqvA_selfF ds (by simpa [PyData.canLay0] using h)
  | .tuple ds, h => by rw [eqv_tt]; exact eqvA_selfF ds (by simpa [PyData.canLay0] using h)
  | .dict _, h => by simp [PyData.canLay0] at h
theorem eqvA_selfF : ∀ ds : List D, PyData.canLayAll0 ds = true → PyData.eqvAll ds ds = true
  | [], _ => by simp
  | d :: ds, h => by
    have h : PyData.canLay0 d = true ∧ PyData.canLayAll0 ds = true := by simpa [PyData.canLayAll0] using h
    rw [eqvA_cc, eqv_selfF d h.1, eqvA_selfF ds h.2]; rfl
end
/-- equal to itself -/
theorem sameF {d : D} (h : SeqAt.shaped d = true) : eqOk d d ∧ PyData.eqv d d = true := ⟨.inr ⟨h, h⟩, eqv_selfF d (SeqAt.canLay_of_shaped h)⟩
theorem encR_same (r : Int × Int) : eqOk (encR r) (encR r) ∧ PyData.eqv (encR r) (encR r) = true := sameF (shaped_tup (n := 0) (by omega) fun d hd => by
  simp at hd
  rcases hd with rfl | rfl <;> simp [PyData.canLay0, PyData.depth])
def fiveF : List Int := [-1, 0, 1, 2, 3]
theorem rngF : rngL (-1) 4 = fiveF.map PyData.int := rfl
theorem placeF {g : Int} (h : g ∈ fiveF) : okP g := by
  simp [fiveF] at h
  unfold okP
  omega
theorem toP_has {ms : List Stp} {k : Knd} (hk : k.ok) {kvs : List (Int × Int)} {w : Row → Int} (hd : DictInv (fun r => endOf ms r.coin) w (grid [ms] (bndsOf k) k.m) kvs) (g : Int) : (toP ms k g).isNone = !hasI kvs g := by
  have h1 := toP_none (ms := ms) hk g
  have h2 := hd.has g
  have h3 := hasI_iff (kvs := kvs) (g := g)
  rw [Bool.eq_iff_iff, h1, Bool.not_eq_true', ← Bool.not_eq_true, h3, h2]
theorem sem81 {Φ : Nat → Spec} (h21 : Φ 21 = sp21) (h23 : Φ 23 = sp23) (h28 : Φ 28 = sp28) (h29 : Φ 29 = sp29) (h51 : Φ 51 = sp51) (h74 : Φ 74 = sp74) (h75 : Φ 75 = sp75) (h76 : Φ 76 = sp76) (h80 : Φ 80 = sp80) : DefSem (b81.sem Φ) 9 1 lawS := by
  rintro as Q ⟨ns, rfl, hns, q⟩
  refine ⟨rfl, ?_⟩
  simp only [b81, Sms.sem, Sm.sem]
  simp [initE]
  generalize hM : (if (if (ns.length : Int) + 2 < 8 then (ns.length : Int) + 2 else 8) > 3 then (if (ns.length : Int) + 2 < 8 then (ns.length : Int) + 2 else 8) else 3) = M
  have hb : 0 ≤ M ∧ M ≤ 8 := by rw [← hM]; split <;> split <;> omega
  refine ⟨⟨by omega, by omega⟩, ?_⟩
  obtain ⟨N, rfl⟩ := Int.eq_ofNat_of_zero_le hb.1
  refine forL_range N (fun _ ρ => ∃ u1 u2 u3 u4 u5 u6 u7 u8, ρ = [.dat (.list (ns.map .int)), u1, u2, u3, u4, u5, u6, u7, u8]) (fun i ρ hi hI k hk => ?_) (fun ρ hI => ?_) _ ⟨_, _, _, _, _, _, _, _, rfl⟩
  · obtain ⟨u1, u2, u3, u4, u5, u6, u7, u8, rfl⟩ := hI
    simp
    refine go h23 ⟨ns, rfl, ⟨by omega, by omega⟩, fun x y hxy => ?_⟩
    simp
    refine ⟨hxy, fun a => ?_⟩
    refine go h28 ⟨⟨⟨by decide, by decide⟩, ⟨by decide, by decide⟩⟩, fun p hp _ hpm => ?_⟩
    have hpk := hp.1.1
    simp
    refine ⟨⟨by omega, by omega⟩, ?_⟩
    refine forL_range p.ks.length (fun _ ρ => ∃ u4 u5 u6 u7 u8, ρ = [.dat (.list (ns.map .int)), .dat (.int (i : Int)), .cell a .bag, .dat p.enc, u4, u5, u6, u7, u8]) (fun j ρ hj hI K hK => ?_) (fun ρ hI => ?_) _ ⟨_, _, _, _, _, rfl⟩
    · obtain ⟨u4, u5, u6, u7, u8, rfl⟩ := hI
      have ok := hp.1.2 p.ks[j] (List.getElem_mem hj)
      have en : p.ks[j]? = some p.ks[j] := List.getElem?_eq_getElem hj
      simp [ixD_ks hj]
      generalize p.ks[j] = c at *
      refine go h80 ⟨p.ms, c, rfl, rfl, hp.2, ok, fun kvs hd => ?_⟩
      simp
      have hlen : kvs.length ≤ sizeLine := by
        have := hd.len
        have := grid_small hp.2.1 (bndsOf c) c.m
        rw [sizeLine_eq]; omega
      refine go h74 ⟨p, c, rfl, hp, by omega, by simpa using en, ?_⟩
      refine ⟨by unfold dkD; rw [List.length_map]; exact hlen, kvs.map (·.1), dkD_keys kvs, fun l hl hs => ?_⟩
      rw [keys_sorted ok hd hl hs]
      rw [show PyData.list (List.map PyData.int (endsP p.ms (boxOf c 0) c.m)) = encI (endsP p.ms (boxOf c 0) c.m) from rfl]
      refine ⟨eqOk_I _ _, ?_⟩
      rw [eqv_encI, if_pos (by simp)]
      refine ⟨⟨⟨by decide, by decide⟩, ⟨by decide, by decide⟩⟩, ?_⟩
      rw [rngF]
      refine forL_inv PyData.int (fun r ρ => ∃ u7 u8, ρ = [.dat (.list (ns.map .int)), .dat (.int (i : Int)), .cell a .bag, .dat p.enc, .dat (.int (j : Int)), .dat (.dict (dkD kvs)), .dat (.int (whole c)), u7, u8] ∧ ∀ g ∈ r, okP g) (fun g r ρ hI K2 hK2 => ?_) (fun ρ hI => ?_) _ _ ⟨_, _, rfl, fun g hg => placeF hg⟩
      · obtain ⟨u7, u8, rfl, hg⟩ := hI
        have og := hg g List.mem_cons_self
        have hg' : ∀ g ∈ r, okP g := fun g h => hg g (List.mem_cons_of_mem _ h)
        have fin : ∀ u7 u8, K2 [.dat (.list (ns.map .int)), .dat (.int (i : Int)), .cell a .bag, .dat p.enc, .dat (.int (j : Int)), .dat (.dict (dkD kvs)), .dat (.int (whole c)), u7, u8] := fun u7 u8 => hK2 _ ⟨u7, u8, rfl, hg'⟩
        have hh := toP_has (ms := p.ms) ok hd g
        simp [getK_d]
        refine go h76 ⟨p, c, rfl, hp, by omega, by simpa using en, og, ?_⟩
        refine go h29 ⟨whole_bd ok, ?_⟩
        rw [share_law ok hd g]
        have sm := encR_same (low (getK kvs g) (whole c))
        refine ⟨sm.1, ?_⟩
        rw [if_pos sm.2]
        refine go h75 ⟨p, c, rfl, hp, by omega, by simpa using en, og, ?_⟩
        dsimp only
        rw [hasI_d, isNone_OC, if_pos hh]
        cases ec : toP p.ms c g with
        | none => simpa [encOC] using fin _ _
        | some d =>
          obtain ⟨c1, c2, c3⟩ := toP_some hp.2.2 ok ec
          simp [encOC]
          refine go h21 ⟨p, c, d, rfl, hp, by omega, by simpa using en, rfl, c1, ?_⟩
          rw [c2]
          simp
          refine go h51 ⟨p.ms, d, rfl, rfl, hp.2, c1, ?_⟩
          rw [c3]
          simp
          exact fin _ _
      · obtain ⟨u7, u8, rfl, _⟩ := hI
        exact hK _ ⟨_, _, _, _, _, rfl⟩
    · obtain ⟨u4, u5, u6, u7, u8, rfl⟩ := hI
      exact hk _ ⟨_, _, _, _, _, _, _, _, rfl⟩
  · obtain ⟨u1, u2, u3, u4, u5, u6, u7, u8, rfl⟩ := hI
    simpa using q
end CC

namespace CC.K03
open PySem PySem.Spec PyProof.Rows L2 CC
def top (i : Nat) : Stmt := PySem.Challenge.pw_coinchutes_k03_whole_places_and_shares_o.main.body.getD i (.Pass ⟨0, 0, 0, 0⟩)
def e0 : Ent := ⟨"is_from", 0, 18, ["value", "low", "high"], ["value", "low", "high"], [], [], [], none, false⟩
def e1 : Ent := ⟨"is_tuple_of", 1, 19, ["value", "many"], ["value", "many"], [], [], [], none, false⟩
def e2 : Ent := ⟨"common", 2, 20, ["one", "other"], ["one", "other"], [], [], [], none, false⟩
def e3 : Ent := ⟨"lowest", 3, 21, ["top", "below"], ["top", "below", "part"], [2], [], [], none, false⟩
def e4 : Ent := ⟨"is_measure_of", 4, 22, ["value"], ["value"], [0, 1, 2], [], [], none, false⟩
def e5 : Ent := ⟨"is_coin", 5, 23, ["value"], ["value", "part"], [1, 4], [], [], none, false⟩
def e6 : Ent := ⟨"is_place", 6, 24, ["value"], ["value"], [0], [], [], none, false⟩
def e7 : Ent := ⟨"is_step", 7, 25, ["value"], ["value"], [0, 6], [], [], none, false⟩
def e8 : Ent := ⟨"is_machine", 8, 26, ["value"], ["value", "step"], [7], [], [], none, false⟩
def e9 : Ent := ⟨"are_bounds", 9, 27, ["value"], ["value"], [0, 1], [], [], none, false⟩
def e10 : Ent := ⟨"is_kind", 10, 28, ["value"], ["value", "part"], [1, 6, 9], [], [], none, false⟩
def e11 : Ent := ⟨"are_kinds", 11, 29, ["value"], ["value", "kind"], [10], [], [], none, false⟩
def e12 : Ent := ⟨"is_plan", 12, 30, ["value"], ["value"], [1, 8, 11], [], [], none, false⟩
def e13 : Ent := ⟨"need_machine", 46, 31, ["value"], ["value"], [8], [], [], none, false⟩
def e14 : Ent := ⟨"need_plan", 13, 32, ["value"], ["value"], [12], [], [], none, false⟩
def e15 : Ent := ⟨"need_coin", 14, 33, ["value"], ["value"], [5], [], [], none, false⟩
def e16 : Ent := ⟨"need_kind", 15, 34, ["plan", "value"], ["plan", "value"], [0], [], [], none, false⟩
def e17 : Ent := ⟨"need_place", 58, 35, ["value"], ["value"], [6], [], [], none, false⟩
def e18 : Ent := ⟨"is_within", 16, 36, ["part", "bounds"], ["part", "bounds"], [], [], [], none, false⟩
def e19 : Ent := ⟨"belongs", 17, 37, ["kind", "coin"], ["kind", "coin", "part", "bounds"], [18], [], [], none, false⟩
def e20 : Ent := ⟨"is_of_kind", 21, 38, ["plan", "kind", "coin"], ["plan", "kind", "coin"], [14, 15, 16, 19], [], [], none, false⟩
def e21 : Ent := ⟨"is_some", 59, 40, ["span"], ["span", "low", "has_low", "high", "has_high"], [], [], [], none, false⟩
def e22 : Ent := ⟨"up_to", 60, 41, ["span", "limit"], ["span", "limit", "low", "has_low", "high", "has_high"], [], [], [], none, false⟩
def e23 : Ent := ⟨"over", 61, 42, ["span", "limit"], ["span", "limit", "low", "has_low", "high", "has_high"], [], [], [], none, false⟩
def e24 : Ent := ⟨"from_on", 62, 43, ["span", "limit"], ["span", "limit", "low", "has_low", "high", "has_high"], [], [], [], none, false⟩
def e25 : Ent := ⟨"under", 63, 44, ["span", "limit"], ["span", "limit", "low", "has_low", "high", "has_high"], [], [], [], none, false⟩
def e26 : Ent := ⟨"with_span", 64, 45, ["spans", "place", "span"], ["spans", "place", "span"], [], [], [], none, false⟩
def e27 : Ent := ⟨"split", 65, 46, ["step", "spans", "magnetic"], ["step", "spans", "magnetic", "place", "limit", "taken", "rest", "mine"], [21, 22, 23, 24, 25, 26], [], [], none, false⟩
def e28 : Ent := ⟨"pieces_of", 66, 47, ["machine", "spans", "magnetic"], ["machine", "spans", "magnetic", "found", "index", "step", "taken", "rest"], [27], [], [], none, false⟩
def e29 : Ent := ⟨"spans_of", 67, 48, ["kind", "wear"], ["kind", "wear", "found", "low", "high", "least"], [], [], [], none, false⟩
def e30 : Ent := ⟨"pieces_for", 68, 49, ["machine", "kind", "wear"], ["machine", "kind", "wear"], [28, 29], [], [], some (0), false⟩
def e31 : Ent := ⟨"number_in", 69, 50, ["span"], ["span", "low", "has_low", "high", "has_high"], [3], [], [], none, false⟩
def e32 : Ent := ⟨"coin_in", 70, 51, ["spans", "magnetic"], ["spans", "magnetic"], [31], [], [], none, false⟩
def e33 : Ent := ⟨"ends_of", 71, 53, ["machine", "kind", "wear"], ["machine", "kind", "wear", "spans", "magnetic", "index", "place"], [30], [], [], some (0), false⟩
def e34 : Ent := ⟨"size_of", 72, 54, ["spans", "kind"], ["spans", "kind", "top", "below", "span", "bounds"], [], [], [], none, false⟩
def e35 : Ent := ⟨"share_of", 73, 55, ["machine", "kind", "place"], ["machine", "kind", "place", "top", "below", "spans", "magnetic", "index", "there", "one", "other"], [3, 30, 34], [], [], none, false⟩
def e36 : Ent := ⟨"places", 74, 56, ["plan", "kind"], ["plan", "kind"], [14, 16, 33], [], [], none, false⟩
def e37 : Ent := ⟨"coin_to", 75, 57, ["plan", "kind", "place"], ["plan", "kind", "place", "spans", "magnetic", "index", "there"], [14, 16, 17, 30, 32], [], [], none, false⟩
def e38 : Ent := ⟨"share", 76, 58, ["plan", "kind", "place"], ["plan", "kind", "place"], [14, 16, 17, 35], [], [], none, false⟩
def e39 : Ent := ⟨"takes", 47, 60, ["step", "coin"], ["step", "coin"], [], [], [], none, false⟩
def e40 : Ent := ⟨"index_of", 48, 61, ["machine", "coin"], ["machine", "coin", "index", "step"], [39], [], [], none, false⟩
def e41 : Ent := ⟨"end_of", 49, 62, ["machine", "coin"], ["machine", "coin", "index"], [40], [], [], none, false⟩
def e42 : Ent := ⟨"need_both", 50, 63, ["machine", "coin"], ["machine", "coin"], [13, 15], [], [], none, false⟩
def e43 : Ent := ⟨"place_of", 51, 64, ["machine", "coin"], ["machine", "coin"], [41, 42], [], [], none, false⟩
def e44 : Ent := ⟨"_law_bag", 23, 66, ["script", "k"], ["script", "k", "cell"], [], [], [], none, true⟩
def e45 : Ent := ⟨"_law_take", 24, 67, ["bag", "many"], ["bag", "many", "found", "turned"], [], [], [0], none, false⟩
def e46 : Ent := ⟨"_law_of", 25, 68, ["bag", "some"], ["bag", "some"], [45], [], [0], none, false⟩
def e47 : Ent := ⟨"_law_kind", 26, 69, ["bag", "wide"], ["bag", "wide", "spans", "turn", "low"], [45, 46], [2], [0], none, false⟩
def e48 : Ent := ⟨"_law_step", 27, 70, ["bag", "wide"], ["bag", "wide", "word", "goal"], [45, 46], [], [0], none, false⟩
def e49 : Ent := ⟨"_law_plan", 28, 71, ["bag", "many", "most"], ["bag", "many", "most", "wide", "some", "turn", "found", "one", "fit"], [45, 46, 47, 48], [6], [0], none, false⟩
def e50 : Ent := ⟨"_law_lowest", 29, 72, ["top", "below"], ["top", "below", "one", "other"], [], [], [], none, false⟩
def e51 : Ent := ⟨"_law_index", 55, 73, ["machine", "coin"], ["machine", "coin", "at", "step", "spot", "taken", "far"], [], [], [], none, false⟩
def e52 : Ent := ⟨"_law_end", 56, 74, ["machine", "coin"], ["machine", "coin", "at"], [51], [], [], none, false⟩
def e53 : Ent := ⟨"_law_limits", 77, 75, ["machines", "spot"], ["machines", "spot", "word", "found", "machine", "step"], [], [], [], none, false⟩
def e54 : Ent := ⟨"_law_cells", 78, 76, ["bounds", "limits"], ["bounds", "limits", "low", "high", "inner", "limit", "edges", "found", "at"], [50], [7], [], none, false⟩
def e55 : Ent := ⟨"_law_grid", 79, 77, ["machines", "spans", "magnetic"], ["machines", "spans", "magnetic", "found", "one", "two", "three"], [53, 54], [3], [], none, false⟩
def e56 : Ent := ⟨"_law_shares", 80, 78, ["machine", "one"], ["machine", "one", "found", "whole", "low", "high", "cells", "coin", "size", "number", "least", "most", "goal"], [52, 55], [2], [], none, false⟩
def e57 : Ent := ⟨"law", 81, 79, ["script"], ["script", "k", "bag", "plan", "at", "sizes", "whole", "goal", "coin"], [20, 36, 37, 38, 43, 44, 49, 50, 56], [], [2], none, false⟩
def tab : List Ent := [e0, e1, e2, e3, e4, e5, e6, e7, e8, e9, e10, e11, e12, e13, e14, e15, e16, e17, e18, e19, e20, e21, e22, e23, e24, e25, e26, e27, e28, e29, e30, e31, e32, e33, e34, e35, e36, e37, e38, e39, e40, e41, e42, e43, e44, e45, e46, e47, e48, e49, e50, e51, e52, e53, e54, e55, e56, e57]
def co : List (Str × D) := [("HOLE", .str "hole"), ("GAP", .str "gap"), ("SCALE", .str "scale"), ("MAGNET", .str "magnet"), ("BACK", .int (-1)), ("MOST_PLACE", .int (3)), ("MOST_LIMIT", .int (80)), ("MOST_BOUND", .int (40)), ("MOST_STEPS", .int (8)), ("MOST_PART", .int (1000000))]
def dd (e : Ent) : He.DefD := ⟨(e.x, none), e.x, e.x, defArgs (top e.k), defBody (top e.k), defScope (top e.k), e.dfl, []⟩
def fn : List He.DefD := tab.map dd
def tx (K : PySem.W.Frag) : Bool := co.all (coT K)
def fa : List He.Fa := faAll2 tab co
def Φ : Nat → Spec
  | 0 => sp0
  | 1 => sp1
  | 2 => sp2
  | 3 => sp3
  | 4 => sp4
  | 5 => sp5
  | 6 => sp6
  | 7 => sp7
  | 8 => sp8
  | 9 => sp9
  | 10 => sp10
  | 11 => sp11
  | 12 => sp12
  | 46 => sp46
  | 13 => sp13
  | 14 => sp14
  | 15 => sp15
  | 58 => sp58
  | 16 => sp16
  | 17 => sp17
  | 21 => sp21
  | 59 => sp59
  | 60 => sp60
  | 61 => sp61
  | 62 => sp62
  | 63 => sp63
  | 64 => sp64
  | 65 => sp65
  | 66 => sp66
  | 67 => sp67
  | 68 => sp68
  | 69 => sp69
  | 70 => sp70
  | 71 => sp71
  | 72 => sp72
  | 73 => sp73
  | 74 => sp74
  | 75 => sp75
  | 76 => sp76
  | 47 => sp47
  | 48 => sp48
  | 49 => sp49
  | 50 => sp50
  | 51 => sp51
  | 23 => sp23
  | 24 => sp24
  | 25 => sp25
  | 26 => sp26
  | 27 => sp27
  | 28 => sp28
  | 29 => sp29
  | 55 => sp55
  | 56 => sp56
  | 77 => sp77
  | 78 => sp78
  | 79 => sp79
  | 80 => sp80
  | 81 => lawS
  | _ => fun _ _ => False
section
variable {P : Program} {w : World} {K : PySem.W.Frag} {mg : Str → Option Value} {base : Heap} {h : Heap}
theorem s0 (X : K.In h) (G : h.Ns mainGlobals mg) (c : SaysE fa fn tx K) (hb : Bef P w K mg base Φ tab 0) : ∀ e, tab[0]? = some e → OkAt P w K mg base Φ 0 e := fun e he => by
  cases he
  obtain ⟨fd, F⟩ := c.1.def_ 0 (d := dd e0) rfl
  exact step_ok (e := e0) (st := top 18) (b := b0) F rfl (glo_mem2 X G c.1 (List.mem_of_getElem? (i := 0) rfl)) (FunD.bindsN F fun _ _ _ _ _ _ us hl => match us, hl with | [_, _, _], _ => rfl) (fun _ z => nomatch z) (bl_ok2 X G c.1) (co_ok2 X G c.1 c.2) hb (by kernel_rfl) (by kernel_rfl) (sem0)
theorem s1 (X : K.In h) (G : h.Ns mainGlobals mg) (c : SaysE fa fn tx K) (hb : Bef P w K mg base Φ tab 1) : ∀ e, tab[1]? = some e → OkAt P w K mg base Φ 1 e := fun e he => by
  cases he
  obtain ⟨fd, F⟩ := c.1.def_ 1 (d := dd e1) rfl
  exact step_ok (e := e1) (st := top 19) (b := b1) F rfl (glo_mem2 X G c.1 (List.mem_of_getElem? (i := 1) rfl)) (FunD.bindsN F fun _ _ _ _ _ _ us hl => match us, hl with | [_, _], _ => rfl) (fun _ z => nomatch z) (bl_ok2 X G c.1) (co_ok2 X G c.1 c.2) hb (by kernel_rfl) (by kernel_rfl) (sem1)
theorem s2 (X : K.In h) (G : h.Ns mainGlobals mg) (c : SaysE fa fn tx K) (hb : Bef P w K mg base Φ tab 2) : ∀ e, tab[2]? = some e → OkAt P w K mg base Φ 2 e := fun e he => by
  cases he
  obtain ⟨fd, F⟩ := c.1.def_ 2 (d := dd e2) rfl
  exact step_ok (e := e2) (st := top 20) (b := b2) F rfl (glo_mem2 X G c.1 (List.mem_of_getElem? (i := 2) rfl)) (FunD.bindsN F fun _ _ _ _ _ _ us hl => match us, hl with | [_, _], _ => rfl) (fun _ z => nomatch z) (bl_ok2 X G c.1) (co_ok2 X G c.1 c.2) hb (by kernel_rfl) (by kernel_rfl) (sem2)
theorem s3 (X : K.In h) (G : h.Ns mainGlobals mg) (c : SaysE fa fn tx K) (hb : Bef P w K mg base Φ tab 3) : ∀ e, tab[3]? = some e → OkAt P w K mg base Φ 3 e := fun e he => by
  cases he
  obtain ⟨fd, F⟩ := c.1.def_ 3 (d := dd e3) rfl
  exact step_ok (e := e3) (st := top 21) (b := b3) F rfl (glo_mem2 X G c.1 (List.mem_of_getElem? (i := 3) rfl)) (FunD.bindsN F fun _ _ _ _ _ _ us hl => match us, hl with | [_, _], _ => rfl) (fun _ z => nomatch z) (bl_ok2 X G c.1) (co_ok2 X G c.1 c.2) hb (by kernel_rfl) (by kernel_rfl) (sem3 rfl)
theorem s4 (X : K.In h) (G : h.Ns mainGlobals mg) (c : SaysE fa fn tx K) (hb : Bef P w K mg base Φ tab 4) : ∀ e, tab[4]? = some e → OkAt P w K mg base Φ 4 e := fun e he => by
  cases he
  obtain ⟨fd, F⟩ := c.1.def_ 4 (d := dd e4) rfl
  exact step_ok (e := e4) (st := top 22) (b := b4) F rfl (glo_mem2 X G c.1 (List.mem_of_getElem? (i := 4) rfl)) (FunD.bindsN F fun _ _ _ _ _ _ us hl => match us, hl with | [_], _ => rfl) (fun _ z => nomatch z) (bl_ok2 X G c.1) (co_ok2 X G c.1 c.2) hb (by kernel_rfl) (by kernel_rfl) (sem4 rfl rfl rfl)
theorem s5 (X : K.In h) (G : h.Ns mainGlobals mg) (c : SaysE fa fn tx K) (hb : Bef P w K mg base Φ tab 5) : ∀ e, tab[5]? = some e → OkAt P w K mg base Φ 5 e := fun e he => by
  cases he
  obtain ⟨fd, F⟩ := c.1.def_ 5 (d := dd e5) rfl
  exact step_ok (e := e5) (st := top 23) (b := b5) F rfl (glo_mem2 X G c.1 (List.mem_of_getElem? (i := 5) rfl)) (FunD.bindsN F fun _ _ _ _ _ _ us hl => match us, hl with | [_], _ => rfl) (fun _ z => nomatch z) (bl_ok2 X G c.1) (co_ok2 X G c.1 c.2) hb (by kernel_rfl) (by kernel_rfl) (sem5 rfl rfl)
theorem s6 (X : K.In h) (G : h.Ns mainGlobals mg) (c : SaysE fa fn tx K) (hb : Bef P w K mg base Φ tab 6) : ∀ e, tab[6]? = some e → OkAt P w K mg base Φ 6 e := fun e he => by
  cases he
  obtain ⟨fd, F⟩ := c.1.def_ 6 (d := dd e6) rfl
  exact step_ok (e := e6) (st := top 24) (b := b6) F rfl (glo_mem2 X G c.1 (List.mem_of_getElem? (i := 6) rfl)) (FunD.bindsN F fun _ _ _ _ _ _ us hl => match us, hl with | [_], _ => rfl) (fun _ z => nomatch z) (bl_ok2 X G c.1) (co_ok2 X G c.1 c.2) hb (by kernel_rfl) (by kernel_rfl) (sem6 rfl)
theorem s7 (X : K.In h) (G : h.Ns mainGlobals mg) (c : SaysE fa fn tx K) (hb : Bef P w K mg base Φ tab 7) : ∀ e, tab[7]? = some e → OkAt P w K mg base Φ 7 e := fun e he => by
  cases he
  obtain ⟨fd, F⟩ := c.1.def_ 7 (d := dd e7) rfl
  exact step_ok (e := e7) (st := top 25) (b := b7) F rfl (glo_mem2 X G c.1 (List.mem_of_getElem? (i := 7) rfl)) (FunD.bindsN F fun _ _ _ _ _ _ us hl => match us, hl with | [_], _ => rfl) (fun _ z => nomatch z) (bl_ok2 X G c.1) (co_ok2 X G c.1 c.2) hb (by kernel_rfl) (by kernel_rfl) (sem7 rfl rfl)
theorem s8 (X : K.In h) (G : h.Ns mainGlobals mg) (c : SaysE fa fn tx K) (hb : Bef P w K mg base Φ tab 8) : ∀ e, tab[8]? = some e → OkAt P w K mg base Φ 8 e := fun e he => by
  cases he
  obtain ⟨fd, F⟩ := c.1.def_ 8 (d := dd e8) rfl
  exact step_ok (e := e8) (st := top 26) (b := b8) F rfl (glo_mem2 X G c.1 (List.mem_of_getElem? (i := 8) rfl)) (FunD.bindsN F fun _ _ _ _ _ _ us hl => match us, hl with | [_], _ => rfl) (fun _ z => nomatch z) (bl_ok2 X G c.1) (co_ok2 X G c.1 c.2) hb (by kernel_rfl) (by kernel_rfl) (sem8 rfl)
theorem s9 (X : K.In h) (G : h.Ns mainGlobals mg) (c : SaysE fa fn tx K) (hb : Bef P w K mg base Φ tab 9) : ∀ e, tab[9]? = some e → OkAt P w K mg base Φ 9 e := fun e he => by
  cases he
  obtain ⟨fd, F⟩ := c.1.def_ 9 (d := dd e9) rfl
  exact step_ok (e := e9) (st := top 27) (b := b9) F rfl (glo_mem2 X G c.1 (List.mem_of_getElem? (i := 9) rfl)) (FunD.bindsN F fun _ _ _ _ _ _ us hl => match us, hl with | [_], _ => rfl) (fun _ z => nomatch z) (bl_ok2 X G c.1) (co_ok2 X G c.1 c.2) hb (by kernel_rfl) (by kernel_rfl) (sem9 rfl rfl)
theorem s10 (X : K.In h) (G : h.Ns mainGlobals mg) (c : SaysE fa fn tx K) (hb : Bef P w K mg base Φ tab 10) : ∀ e, tab[10]? = some e → OkAt P w K mg base Φ 10 e := fun e he => by
  cases he
  obtain ⟨fd, F⟩ := c.1.def_ 10 (d := dd e10) rfl
  exact step_ok (e := e10) (st := top 28) (b := b10) F rfl (glo_mem2 X G c.1 (List.mem_of_getElem? (i := 10) rfl)) (FunD.bindsN F fun _ _ _ _ _ _ us hl => match us, hl with | [_], _ => rfl) (fun _ z => nomatch z) (bl_ok2 X G c.1) (co_ok2 X G c.1 c.2) hb (by kernel_rfl) (by kernel_rfl) (sem10 rfl rfl rfl)
theorem s11 (X : K.In h) (G : h.Ns mainGlobals mg) (c : SaysE fa fn tx K) (hb : Bef P w K mg base Φ tab 11) : ∀ e, tab[11]? = some e → OkAt P w K mg base Φ 11 e := fun e he => by
  cases he
  obtain ⟨fd, F⟩ := c.1.def_ 11 (d := dd e11) rfl
  exact step_ok (e := e11) (st := top 29) (b := b11) F rfl (glo_mem2 X G c.1 (List.mem_of_getElem? (i := 11) rfl)) (FunD.bindsN F fun _ _ _ _ _ _ us hl => match us, hl with | [_], _ => rfl) (fun _ z => nomatch z) (bl_ok2 X G c.1) (co_ok2 X G c.1 c.2) hb (by kernel_rfl) (by kernel_rfl) (sem11 rfl)
theorem s12 (X : K.In h) (G : h.Ns mainGlobals mg) (c : SaysE fa fn tx K) (hb : Bef P w K mg base Φ tab 12) : ∀ e, tab[12]? = some e → OkAt P w K mg base Φ 12 e := fun e he => by
  cases he
  obtain ⟨fd, F⟩ := c.1.def_ 12 (d := dd e12) rfl
  exact step_ok (e := e12) (st := top 30) (b := b12) F rfl (glo_mem2 X G c.1 (List.mem_of_getElem? (i := 12) rfl)) (FunD.bindsN F fun _ _ _ _ _ _ us hl => match us, hl with | [_], _ => rfl) (fun _ z => nomatch z) (bl_ok2 X G c.1) (co_ok2 X G c.1 c.2) hb (by kernel_rfl) (by kernel_rfl) (sem12 rfl rfl rfl)
theorem s13 (X : K.In h) (G : h.Ns mainGlobals mg) (c : SaysE fa fn tx K) (hb : Bef P w K mg base Φ tab 13) : ∀ e, tab[13]? = some e → OkAt P w K mg base Φ 13 e := fun e he => by
  cases he
  obtain ⟨fd, F⟩ := c.1.def_ 13 (d := dd e13) rfl
  exact step_ok (e := e13) (st := top 31) (b := b46) F rfl (glo_mem2 X G c.1 (List.mem_of_getElem? (i := 13) rfl)) (FunD.bindsN F fun _ _ _ _ _ _ us hl => match us, hl with | [_], _ => rfl) (fun _ z => nomatch z) (bl_ok2 X G c.1) (co_ok2 X G c.1 c.2) hb (by kernel_rfl) (by kernel_rfl) (sem46 rfl)
theorem s14 (X : K.In h) (G : h.Ns mainGlobals mg) (c : SaysE fa fn tx K) (hb : Bef P w K mg base Φ tab 14) : ∀ e, tab[14]? = some e → OkAt P w K mg base Φ 14 e := fun e he => by
  cases he
  obtain ⟨fd, F⟩ := c.1.def_ 14 (d := dd e14) rfl
  exact step_ok (e := e14) (st := top 32) (b := b13) F rfl (glo_mem2 X G c.1 (List.mem_of_getElem? (i := 14) rfl)) (FunD.bindsN F fun _ _ _ _ _ _ us hl => match us, hl with | [_], _ => rfl) (fun _ z => nomatch z) (bl_ok2 X G c.1) (co_ok2 X G c.1 c.2) hb (by kernel_rfl) (by kernel_rfl) (sem13 rfl)
theorem s15 (X : K.In h) (G : h.Ns mainGlobals mg) (c : SaysE fa fn tx K) (hb : Bef P w K mg base Φ tab 15) : ∀ e, tab[15]? = some e → OkAt P w K mg base Φ 15 e := fun e he => by
  cases he
  obtain ⟨fd, F⟩ := c.1.def_ 15 (d := dd e15) rfl
  exact step_ok (e := e15) (st := top 33) (b := b14) F rfl (glo_mem2 X G c.1 (List.mem_of_getElem? (i := 15) rfl)) (FunD.bindsN F fun _ _ _ _ _ _ us hl => match us, hl with | [_], _ => rfl) (fun _ z => nomatch z) (bl_ok2 X G c.1) (co_ok2 X G c.1 c.2) hb (by kernel_rfl) (by kernel_rfl) (sem14 rfl)
theorem s16 (X : K.In h) (G : h.Ns mainGlobals mg) (c : SaysE fa fn tx K) (hb : Bef P w K mg base Φ tab 16) : ∀ e, tab[16]? = some e → OkAt P w K mg base Φ 16 e := fun e he => by
  cases he
  obtain ⟨fd, F⟩ := c.1.def_ 16 (d := dd e16) rfl
  exact step_ok (e := e16) (st := top 34) (b := b15) F rfl (glo_mem2 X G c.1 (List.mem_of_getElem? (i := 16) rfl)) (FunD.bindsN F fun _ _ _ _ _ _ us hl => match us, hl with | [_, _], _ => rfl) (fun _ z => nomatch z) (bl_ok2 X G c.1) (co_ok2 X G c.1 c.2) hb (by kernel_rfl) (by kernel_rfl) (sem15 rfl)
theorem s17 (X : K.In h) (G : h.Ns mainGlobals mg) (c : SaysE fa fn tx K) (hb : Bef P w K mg base Φ tab 17) : ∀ e, tab[17]? = some e → OkAt P w K mg base Φ 17 e := fun e he => by
  cases he
  obtain ⟨fd, F⟩ := c.1.def_ 17 (d := dd e17) rfl
  exact step_ok (e := e17) (st := top 35) (b := b58) F rfl (glo_mem2 X G c.1 (List.mem_of_getElem? (i := 17) rfl)) (FunD.bindsN F fun _ _ _ _ _ _ us hl => match us, hl with | [_], _ => rfl) (fun _ z => nomatch z) (bl_ok2 X G c.1) (co_ok2 X G c.1 c.2) hb (by kernel_rfl) (by kernel_rfl) (sem58 rfl)
theorem s18 (X : K.In h) (G : h.Ns mainGlobals mg) (c : SaysE fa fn tx K) (hb : Bef P w K mg base Φ tab 18) : ∀ e, tab[18]? = some e → OkAt P w K mg base Φ 18 e := fun e he => by
  cases he
  obtain ⟨fd, F⟩ := c.1.def_ 18 (d := dd e18) rfl
  exact step_ok (e := e18) (st := top 36) (b := b16) F rfl (glo_mem2 X G c.1 (List.mem_of_getElem? (i := 18) rfl)) (FunD.bindsN F fun _ _ _ _ _ _ us hl => match us, hl with | [_, _], _ => rfl) (fun _ z => nomatch z) (bl_ok2 X G c.1) (co_ok2 X G c.1 c.2) hb (by kernel_rfl) (by kernel_rfl) (sem16)
theorem s19 (X : K.In h) (G : h.Ns mainGlobals mg) (c : SaysE fa fn tx K) (hb : Bef P w K mg base Φ tab 19) : ∀ e, tab[19]? = some e → OkAt P w K mg base Φ 19 e := fun e he => by
  cases he
  obtain ⟨fd, F⟩ := c.1.def_ 19 (d := dd e19) rfl
  exact step_ok (e := e19) (st := top 37) (b := b17) F rfl (glo_mem2 X G c.1 (List.mem_of_getElem? (i := 19) rfl)) (FunD.bindsN F fun _ _ _ _ _ _ us hl => match us, hl with | [_, _], _ => rfl) (fun _ z => nomatch z) (bl_ok2 X G c.1) (co_ok2 X G c.1 c.2) hb (by kernel_rfl) (by kernel_rfl) (sem17 rfl)
theorem s20 (X : K.In h) (G : h.Ns mainGlobals mg) (c : SaysE fa fn tx K) (hb : Bef P w K mg base Φ tab 20) : ∀ e, tab[20]? = some e → OkAt P w K mg base Φ 20 e := fun e he => by
  cases he
  obtain ⟨fd, F⟩ := c.1.def_ 20 (d := dd e20) rfl
  exact step_ok (e := e20) (st := top 38) (b := b21) F rfl (glo_mem2 X G c.1 (List.mem_of_getElem? (i := 20) rfl)) (FunD.bindsN F fun _ _ _ _ _ _ us hl => match us, hl with | [_, _, _], _ => rfl) (fun _ z => nomatch z) (bl_ok2 X G c.1) (co_ok2 X G c.1 c.2) hb (by kernel_rfl) (by kernel_rfl) (sem21 rfl rfl rfl rfl)
theorem s21 (X : K.In h) (G : h.Ns mainGlobals mg) (c : SaysE fa fn tx K) (hb : Bef P w K mg base Φ tab 21) : ∀ e, tab[21]? = some e → OkAt P w K mg base Φ 21 e := fun e he => by
  cases he
  obtain ⟨fd, F⟩ := c.1.def_ 21 (d := dd e21) rfl
  exact step_ok (e := e21) (st := top 40) (b := b59) F rfl (glo_mem2 X G c.1 (List.mem_of_getElem? (i := 21) rfl)) (FunD.bindsN F fun _ _ _ _ _ _ us hl => match us, hl with | [_], _ => rfl) (fun _ z => nomatch z) (bl_ok2 X G c.1) (co_ok2 X G c.1 c.2) hb (by kernel_rfl) (by kernel_rfl) (sem59)
theorem s22 (X : K.In h) (G : h.Ns mainGlobals mg) (c : SaysE fa fn tx K) (hb : Bef P w K mg base Φ tab 22) : ∀ e, tab[22]? = some e → OkAt P w K mg base Φ 22 e := fun e he => by
  cases he
  obtain ⟨fd, F⟩ := c.1.def_ 22 (d := dd e22) rfl
  exact step_ok (e := e22) (st := top 41) (b := b60) F rfl (glo_mem2 X G c.1 (List.mem_of_getElem? (i := 22) rfl)) (FunD.bindsN F fun _ _ _ _ _ _ us hl => match us, hl with | [_, _], _ => rfl) (fun _ z => nomatch z) (bl_ok2 X G c.1) (co_ok2 X G c.1 c.2) hb (by kernel_rfl) (by kernel_rfl) (sem60)
theorem s23 (X : K.In h) (G : h.Ns mainGlobals mg) (c : SaysE fa fn tx K) (hb : Bef P w K mg base Φ tab 23) : ∀ e, tab[23]? = some e → OkAt P w K mg base Φ 23 e := fun e he => by
  cases he
  obtain ⟨fd, F⟩ := c.1.def_ 23 (d := dd e23) rfl
  exact step_ok (e := e23) (st := top 42) (b := b61) F rfl (glo_mem2 X G c.1 (List.mem_of_getElem? (i := 23) rfl)) (FunD.bindsN F fun _ _ _ _ _ _ us hl => match us, hl with | [_, _], _ => rfl) (fun _ z => nomatch z) (bl_ok2 X G c.1) (co_ok2 X G c.1 c.2) hb (by kernel_rfl) (by kernel_rfl) (sem61)
theorem s24 (X : K.In h) (G : h.Ns mainGlobals mg) (c : SaysE fa fn tx K) (hb : Bef P w K mg base Φ tab 24) : ∀ e, tab[24]? = some e → OkAt P w K mg base Φ 24 e := fun e he => by
  cases he
  obtain ⟨fd, F⟩ := c.1.def_ 24 (d := dd e24) rfl
  exact step_ok (e := e24) (st := top 43) (b := b62) F rfl (glo_mem2 X G c.1 (List.mem_of_getElem? (i := 24) rfl)) (FunD.bindsN F fun _ _ _ _ _ _ us hl => match us, hl with | [_, _], _ => rfl) (fun _ z => nomatch z) (bl_ok2 X G c.1) (co_ok2 X G c.1 c.2) hb (by kernel_rfl) (by kernel_rfl) (sem62)
theorem s25 (X : K.In h) (G : h.Ns mainGlobals mg) (c : SaysE fa fn tx K) (hb : Bef P w K mg base Φ tab 25) : ∀ e, tab[25]? = some e → OkAt P w K mg base Φ 25 e := fun e he => by
  cases he
  obtain ⟨fd, F⟩ := c.1.def_ 25 (d := dd e25) rfl
  exact step_ok (e := e25) (st := top 44) (b := b63) F rfl (glo_mem2 X G c.1 (List.mem_of_getElem? (i := 25) rfl)) (FunD.bindsN F fun _ _ _ _ _ _ us hl => match us, hl with | [_, _], _ => rfl) (fun _ z => nomatch z) (bl_ok2 X G c.1) (co_ok2 X G c.1 c.2) hb (by kernel_rfl) (by kernel_rfl) (sem63)
theorem s26 (X : K.In h) (G : h.Ns mainGlobals mg) (c : SaysE fa fn tx K) (hb : Bef P w K mg base Φ tab 26) : ∀ e, tab[26]? = some e → OkAt P w K mg base Φ 26 e := fun e he => by
  cases he
  obtain ⟨fd, F⟩ := c.1.def_ 26 (d := dd e26) rfl
  exact step_ok (e := e26) (st := top 45) (b := b64) F rfl (glo_mem2 X G c.1 (List.mem_of_getElem? (i := 26) rfl)) (FunD.bindsN F fun _ _ _ _ _ _ us hl => match us, hl with | [_, _, _], _ => rfl) (fun _ z => nomatch z) (bl_ok2 X G c.1) (co_ok2 X G c.1 c.2) hb (by kernel_rfl) (by kernel_rfl) (sem64)
theorem s27 (X : K.In h) (G : h.Ns mainGlobals mg) (c : SaysE fa fn tx K) (hb : Bef P w K mg base Φ tab 27) : ∀ e, tab[27]? = some e → OkAt P w K mg base Φ 27 e := fun e he => by
  cases he
  obtain ⟨fd, F⟩ := c.1.def_ 27 (d := dd e27) rfl
  exact step_ok (e := e27) (st := top 46) (b := b65) F rfl (glo_mem2 X G c.1 (List.mem_of_getElem? (i := 27) rfl)) (FunD.bindsN F fun _ _ _ _ _ _ us hl => match us, hl with | [_, _, _], _ => rfl) (fun _ z => nomatch z) (bl_ok2 X G c.1) (co_ok2 X G c.1 c.2) hb (by kernel_rfl) (by kernel_rfl) (sem65 rfl rfl rfl rfl rfl rfl)
theorem s28 (X : K.In h) (G : h.Ns mainGlobals mg) (c : SaysE fa fn tx K) (hb : Bef P w K mg base Φ tab 28) : ∀ e, tab[28]? = some e → OkAt P w K mg base Φ 28 e := fun e he => by
  cases he
  obtain ⟨fd, F⟩ := c.1.def_ 28 (d := dd e28) rfl
  exact step_ok (e := e28) (st := top 47) (b := b66) F rfl (glo_mem2 X G c.1 (List.mem_of_getElem? (i := 28) rfl)) (FunD.bindsN F fun _ _ _ _ _ _ us hl => match us, hl with | [_, _, _], _ => rfl) (fun _ z => nomatch z) (bl_ok2 X G c.1) (co_ok2 X G c.1 c.2) hb (by kernel_rfl) (by kernel_rfl) (sem66 rfl)
theorem s29 (X : K.In h) (G : h.Ns mainGlobals mg) (c : SaysE fa fn tx K) (hb : Bef P w K mg base Φ tab 29) : ∀ e, tab[29]? = some e → OkAt P w K mg base Φ 29 e := fun e he => by
  cases he
  obtain ⟨fd, F⟩ := c.1.def_ 29 (d := dd e29) rfl
  exact step_ok (e := e29) (st := top 48) (b := b67) F rfl (glo_mem2 X G c.1 (List.mem_of_getElem? (i := 29) rfl)) (FunD.bindsN F fun _ _ _ _ _ _ us hl => match us, hl with | [_, _], _ => rfl) (fun _ z => nomatch z) (bl_ok2 X G c.1) (co_ok2 X G c.1 c.2) hb (by kernel_rfl) (by kernel_rfl) (sem67)
theorem s30 (X : K.In h) (G : h.Ns mainGlobals mg) (c : SaysE fa fn tx K) (hb : Bef P w K mg base Φ tab 30) : ∀ e, tab[30]? = some e → OkAt P w K mg base Φ 30 e := fun e he => by
  cases he
  obtain ⟨fd, F⟩ := c.1.def_ 30 (d := dd e30) rfl
  obtain ⟨b1, b2⟩ := binds_df (ps := ["machine", "kind", "wear"]) F 2 rfl (fun _ _ _ _ _ _ _ us its hu hi => match us, its, hu, hi with | [_, _, _], [_], _, _ => ⟨_, rfl, rfl⟩) (fun _ _ _ _ _ _ _ us its hu hi => match us, its, hu, hi with | [_, _], [_], _, _ => ⟨_, rfl, rfl⟩)
  exact step_ok (e := e30) (st := top 49) (b := b68) F rfl (glo_mem2 X G c.1 (List.mem_of_getElem? (i := 30) rfl)) b1 b2 (bl_ok2 X G c.1) (co_ok2 X G c.1 c.2) hb (by kernel_rfl) (by kernel_rfl) (sem68 rfl rfl)
theorem s31 (X : K.In h) (G : h.Ns mainGlobals mg) (c : SaysE fa fn tx K) (hb : Bef P w K mg base Φ tab 31) : ∀ e, tab[31]? = some e → OkAt P w K mg base Φ 31 e := fun e he => by
  cases he
  obtain ⟨fd, F⟩ := c.1.def_ 31 (d := dd e31) rfl
  exact step_ok (e := e31) (st := top 50) (b := b69) F rfl (glo_mem2 X G c.1 (List.mem_of_getElem? (i := 31) rfl)) (FunD.bindsN F fun _ _ _ _ _ _ us hl => match us, hl with | [_], _ => rfl) (fun _ z => nomatch z) (bl_ok2 X G c.1) (co_ok2 X G c.1 c.2) hb (by kernel_rfl) (by kernel_rfl) (sem69 rfl)
theorem s32 (X : K.In h) (G : h.Ns mainGlobals mg) (c : SaysE fa fn tx K) (hb : Bef P w K mg base Φ tab 32) : ∀ e, tab[32]? = some e → OkAt P w K mg base Φ 32 e := fun e he => by
  cases he
  obtain ⟨fd, F⟩ := c.1.def_ 32 (d := dd e32) rfl
  exact step_ok (e := e32) (st := top 51) (b := b70) F rfl (glo_mem2 X G c.1 (List.mem_of_getElem? (i := 32) rfl)) (FunD.bindsN F fun _ _ _ _ _ _ us hl => match us, hl with | [_, _], _ => rfl) (fun _ z => nomatch z) (bl_ok2 X G c.1) (co_ok2 X G c.1 c.2) hb (by kernel_rfl) (by kernel_rfl) (sem70 rfl)
theorem s33 (X : K.In h) (G : h.Ns mainGlobals mg) (c : SaysE fa fn tx K) (hb : Bef P w K mg base Φ tab 33) : ∀ e, tab[33]? = some e → OkAt P w K mg base Φ 33 e := fun e he => by
  cases he
  obtain ⟨fd, F⟩ := c.1.def_ 33 (d := dd e33) rfl
  obtain ⟨b1, b2⟩ := binds_df (ps := ["machine", "kind", "wear"]) F 2 rfl (fun _ _ _ _ _ _ _ us its hu hi => match us, its, hu, hi with | [_, _, _], [_], _, _ => ⟨_, rfl, rfl⟩) (fun _ _ _ _ _ _ _ us its hu hi => match us, its, hu, hi with | [_, _], [_], _, _ => ⟨_, rfl, rfl⟩)
  exact step_ok (e := e33) (st := top 53) (b := b71) F rfl (glo_mem2 X G c.1 (List.mem_of_getElem? (i := 33) rfl)) b1 b2 (bl_ok2 X G c.1) (co_ok2 X G c.1 c.2) hb (by kernel_rfl) (by kernel_rfl) (sem71 rfl)
theorem s34 (X : K.In h) (G : h.Ns mainGlobals mg) (c : SaysE fa fn tx K) (hb : Bef P w K mg base Φ tab 34) : ∀ e, tab[34]? = some e → OkAt P w K mg base Φ 34 e := fun e he => by
  cases he
  obtain ⟨fd, F⟩ := c.1.def_ 34 (d := dd e34) rfl
  exact step_ok (e := e34) (st := top 54) (b := b72) F rfl (glo_mem2 X G c.1 (List.mem_of_getElem? (i := 34) rfl)) (FunD.bindsN F fun _ _ _ _ _ _ us hl => match us, hl with | [_, _], _ => rfl) (fun _ z => nomatch z) (bl_ok2 X G c.1) (co_ok2 X G c.1 c.2) hb (by kernel_rfl) (by kernel_rfl) (sem72)
theorem s35 (X : K.In h) (G : h.Ns mainGlobals mg) (c : SaysE fa fn tx K) (hb : Bef P w K mg base Φ tab 35) : ∀ e, tab[35]? = some e → OkAt P w K mg base Φ 35 e := fun e he => by
  cases he
  obtain ⟨fd, F⟩ := c.1.def_ 35 (d := dd e35) rfl
  exact step_ok (e := e35) (st := top 55) (b := b73) F rfl (glo_mem2 X G c.1 (List.mem_of_getElem? (i := 35) rfl)) (FunD.bindsN F fun _ _ _ _ _ _ us hl => match us, hl with | [_, _, _], _ => rfl) (fun _ z => nomatch z) (bl_ok2 X G c.1) (co_ok2 X G c.1 c.2) hb (by kernel_rfl) (by kernel_rfl) (sem73 rfl rfl rfl)
theorem s36 (X : K.In h) (G : h.Ns mainGlobals mg) (c : SaysE fa fn tx K) (hb : Bef P w K mg base Φ tab 36) : ∀ e, tab[36]? = some e → OkAt P w K mg base Φ 36 e := fun e he => by
  cases he
  obtain ⟨fd, F⟩ := c.1.def_ 36 (d := dd e36) rfl
  exact step_ok (e := e36) (st := top 56) (b := b74) F rfl (glo_mem2 X G c.1 (List.mem_of_getElem? (i := 36) rfl)) (FunD.bindsN F fun _ _ _ _ _ _ us hl => match us, hl with | [_, _], _ => rfl) (fun _ z => nomatch z) (bl_ok2 X G c.1) (co_ok2 X G c.1 c.2) hb (by kernel_rfl) (by kernel_rfl) (sem74 rfl rfl rfl)
theorem s37 (X : K.In h) (G : h.Ns mainGlobals mg) (c : SaysE fa fn tx K) (hb : Bef P w K mg base Φ tab 37) : ∀ e, tab[37]? = some e → OkAt P w K mg base Φ 37 e := fun e he => by
  cases he
  obtain ⟨fd, F⟩ := c.1.def_ 37 (d := dd e37) rfl
  exact step_ok (e := e37) (st := top 57) (b := b75) F rfl (glo_mem2 X G c.1 (List.mem_of_getElem? (i := 37) rfl)) (FunD.bindsN F fun _ _ _ _ _ _ us hl => match us, hl with | [_, _, _], _ => rfl) (fun _ z => nomatch z) (bl_ok2 X G c.1) (co_ok2 X G c.1 c.2) hb (by kernel_rfl) (by kernel_rfl) (sem75 rfl rfl rfl rfl rfl)
theorem s38 (X : K.In h) (G : h.Ns mainGlobals mg) (c : SaysE fa fn tx K) (hb : Bef P w K mg base Φ tab 38) : ∀ e, tab[38]? = some e → OkAt P w K mg base Φ 38 e := fun e he => by
  cases he
  obtain ⟨fd, F⟩ := c.1.def_ 38 (d := dd e38) rfl
  exact step_ok (e := e38) (st := top 58) (b := b76) F rfl (glo_mem2 X G c.1 (List.mem_of_getElem? (i := 38) rfl)) (FunD.bindsN F fun _ _ _ _ _ _ us hl => match us, hl with | [_, _, _], _ => rfl) (fun _ z => nomatch z) (bl_ok2 X G c.1) (co_ok2 X G c.1 c.2) hb (by kernel_rfl) (by kernel_rfl) (sem76 rfl rfl rfl rfl)
theorem s39 (X : K.In h) (G : h.Ns mainGlobals mg) (c : SaysE fa fn tx K) (hb : Bef P w K mg base Φ tab 39) : ∀ e, tab[39]? = some e → OkAt P w K mg base Φ 39 e := fun e he => by
  cases he
  obtain ⟨fd, F⟩ := c.1.def_ 39 (d := dd e39) rfl
  exact step_ok (e := e39) (st := top 60) (b := b47) F rfl (glo_mem2 X G c.1 (List.mem_of_getElem? (i := 39) rfl)) (FunD.bindsN F fun _ _ _ _ _ _ us hl => match us, hl with | [_, _], _ => rfl) (fun _ z => nomatch z) (bl_ok2 X G c.1) (co_ok2 X G c.1 c.2) hb (by kernel_rfl) (by kernel_rfl) (sem47)
theorem s40 (X : K.In h) (G : h.Ns mainGlobals mg) (c : SaysE fa fn tx K) (hb : Bef P w K mg base Φ tab 40) : ∀ e, tab[40]? = some e → OkAt P w K mg base Φ 40 e := fun e he => by
  cases he
  obtain ⟨fd, F⟩ := c.1.def_ 40 (d := dd e40) rfl
  exact step_ok (e := e40) (st := top 61) (b := b48) F rfl (glo_mem2 X G c.1 (List.mem_of_getElem? (i := 40) rfl)) (FunD.bindsN F fun _ _ _ _ _ _ us hl => match us, hl with | [_, _], _ => rfl) (fun _ z => nomatch z) (bl_ok2 X G c.1) (co_ok2 X G c.1 c.2) hb (by kernel_rfl) (by kernel_rfl) (sem48 rfl)
theorem s41 (X : K.In h) (G : h.Ns mainGlobals mg) (c : SaysE fa fn tx K) (hb : Bef P w K mg base Φ tab 41) : ∀ e, tab[41]? = some e → OkAt P w K mg base Φ 41 e := fun e he => by
  cases he
  obtain ⟨fd, F⟩ := c.1.def_ 41 (d := dd e41) rfl
  exact step_ok (e := e41) (st := top 62) (b := b49) F rfl (glo_mem2 X G c.1 (List.mem_of_getElem? (i := 41) rfl)) (FunD.bindsN F fun _ _ _ _ _ _ us hl => match us, hl with | [_, _], _ => rfl) (fun _ z => nomatch z) (bl_ok2 X G c.1) (co_ok2 X G c.1 c.2) hb (by kernel_rfl) (by kernel_rfl) (sem49 rfl)
theorem s42 (X : K.In h) (G : h.Ns mainGlobals mg) (c : SaysE fa fn tx K) (hb : Bef P w K mg base Φ tab 42) : ∀ e, tab[42]? = some e → OkAt P w K mg base Φ 42 e := fun e he => by
  cases he
  obtain ⟨fd, F⟩ := c.1.def_ 42 (d := dd e42) rfl
  exact step_ok (e := e42) (st := top 63) (b := b50) F rfl (glo_mem2 X G c.1 (List.mem_of_getElem? (i := 42) rfl)) (FunD.bindsN F fun _ _ _ _ _ _ us hl => match us, hl with | [_, _], _ => rfl) (fun _ z => nomatch z) (bl_ok2 X G c.1) (co_ok2 X G c.1 c.2) hb (by kernel_rfl) (by kernel_rfl) (sem50 rfl rfl)
theorem s43 (X : K.In h) (G : h.Ns mainGlobals mg) (c : SaysE fa fn tx K) (hb : Bef P w K mg base Φ tab 43) : ∀ e, tab[43]? = some e → OkAt P w K mg base Φ 43 e := fun e he => by
  cases he
  obtain ⟨fd, F⟩ := c.1.def_ 43 (d := dd e43) rfl
  exact step_ok (e := e43) (st := top 64) (b := b51) F rfl (glo_mem2 X G c.1 (List.mem_of_getElem? (i := 43) rfl)) (FunD.bindsN F fun _ _ _ _ _ _ us hl => match us, hl with | [_, _], _ => rfl) (fun _ z => nomatch z) (bl_ok2 X G c.1) (co_ok2 X G c.1 c.2) hb (by kernel_rfl) (by kernel_rfl) (sem51 rfl rfl)
theorem s44 (X : K.In h) (G : h.Ns mainGlobals mg) (c : SaysE fa fn tx K) (hb : Bef P w K mg base Φ tab 44) : ∀ e, tab[44]? = some e → OkAt P w K mg base Φ 44 e := fun e he => by
  cases he
  obtain ⟨fd, F⟩ := c.1.def_ 44 (d := dd e44) rfl
  exact step_okN (e := e44) (st := top 66) (b := b23s) (a := b23e) F rfl (glo_mem2 X G c.1 (List.mem_of_getElem? (i := 44) rfl)) (FunD.bindsN F fun _ _ _ _ _ _ us hl => match us, hl with | [_, _], _ => rfl) (fun _ z => nomatch z) (bl_ok2 X G c.1) (co_ok2 X G c.1 c.2) hb rfl (by kernel_rfl) (by kernel_rfl) (by kernel_rfl) (sem23)
theorem s45 (X : K.In h) (G : h.Ns mainGlobals mg) (c : SaysE fa fn tx K) (hb : Bef P w K mg base Φ tab 45) : ∀ e, tab[45]? = some e → OkAt P w K mg base Φ 45 e := fun e he => by
  cases he
  obtain ⟨fd, F⟩ := c.1.def_ 45 (d := dd e45) rfl
  exact step_ok (e := e45) (st := top 67) (b := b24) F rfl (glo_mem2 X G c.1 (List.mem_of_getElem? (i := 45) rfl)) (FunD.bindsN F fun _ _ _ _ _ _ us hl => match us, hl with | [_, _], _ => rfl) (fun _ z => nomatch z) (bl_ok2 X G c.1) (co_ok2 X G c.1 c.2) hb (by kernel_rfl) (by kernel_rfl) (sem24)
theorem s46 (X : K.In h) (G : h.Ns mainGlobals mg) (c : SaysE fa fn tx K) (hb : Bef P w K mg base Φ tab 46) : ∀ e, tab[46]? = some e → OkAt P w K mg base Φ 46 e := fun e he => by
  cases he
  obtain ⟨fd, F⟩ := c.1.def_ 46 (d := dd e46) rfl
  exact step_ok (e := e46) (st := top 68) (b := b25) F rfl (glo_mem2 X G c.1 (List.mem_of_getElem? (i := 46) rfl)) (FunD.bindsN F fun _ _ _ _ _ _ us hl => match us, hl with | [_, _], _ => rfl) (fun _ z => nomatch z) (bl_ok2 X G c.1) (co_ok2 X G c.1 c.2) hb (by kernel_rfl) (by kernel_rfl) (sem25 rfl)
theorem s47 (X : K.In h) (G : h.Ns mainGlobals mg) (c : SaysE fa fn tx K) (hb : Bef P w K mg base Φ tab 47) : ∀ e, tab[47]? = some e → OkAt P w K mg base Φ 47 e := fun e he => by
  cases he
  obtain ⟨fd, F⟩ := c.1.def_ 47 (d := dd e47) rfl
  exact step_ok (e := e47) (st := top 69) (b := b26) F rfl (glo_mem2 X G c.1 (List.mem_of_getElem? (i := 47) rfl)) (FunD.bindsN F fun _ _ _ _ _ _ us hl => match us, hl with | [_, _], _ => rfl) (fun _ z => nomatch z) (bl_ok2 X G c.1) (co_ok2 X G c.1 c.2) hb (by kernel_rfl) (by kernel_rfl) (sem26 rfl rfl)
theorem s48 (X : K.In h) (G : h.Ns mainGlobals mg) (c : SaysE fa fn tx K) (hb : Bef P w K mg base Φ tab 48) : ∀ e, tab[48]? = some e → OkAt P w K mg base Φ 48 e := fun e he => by
  cases he
  obtain ⟨fd, F⟩ := c.1.def_ 48 (d := dd e48) rfl
  exact step_ok (e := e48) (st := top 70) (b := b27) F rfl (glo_mem2 X G c.1 (List.mem_of_getElem? (i := 48) rfl)) (FunD.bindsN F fun _ _ _ _ _ _ us hl => match us, hl with | [_, _], _ => rfl) (fun _ z => nomatch z) (bl_ok2 X G c.1) (co_ok2 X G c.1 c.2) hb (by kernel_rfl) (by kernel_rfl) (sem27 rfl rfl)
theorem s49 (X : K.In h) (G : h.Ns mainGlobals mg) (c : SaysE fa fn tx K) (hb : Bef P w K mg base Φ tab 49) : ∀ e, tab[49]? = some e → OkAt P w K mg base Φ 49 e := fun e he => by
  cases he
  obtain ⟨fd, F⟩ := c.1.def_ 49 (d := dd e49) rfl
  exact step_ok (e := e49) (st := top 71) (b := b28) F rfl (glo_mem2 X G c.1 (List.mem_of_getElem? (i := 49) rfl)) (FunD.bindsN F fun _ _ _ _ _ _ us hl => match us, hl with | [_, _, _], _ => rfl) (fun _ z => nomatch z) (bl_ok2 X G c.1) (co_ok2 X G c.1 c.2) hb (by kernel_rfl) (by kernel_rfl) (sem28 rfl rfl rfl rfl)
theorem s50 (X : K.In h) (G : h.Ns mainGlobals mg) (c : SaysE fa fn tx K) (hb : Bef P w K mg base Φ tab 50) : ∀ e, tab[50]? = some e → OkAt P w K mg base Φ 50 e := fun e he => by
  cases he
  obtain ⟨fd, F⟩ := c.1.def_ 50 (d := dd e50) rfl
  exact step_ok (e := e50) (st := top 72) (b := b29) F rfl (glo_mem2 X G c.1 (List.mem_of_getElem? (i := 50) rfl)) (FunD.bindsN F fun _ _ _ _ _ _ us hl => match us, hl with | [_, _], _ => rfl) (fun _ z => nomatch z) (bl_ok2 X G c.1) (co_ok2 X G c.1 c.2) hb (by kernel_rfl) (by kernel_rfl) (sem29)
theorem s51 (X : K.In h) (G : h.Ns mainGlobals mg) (c : SaysE fa fn tx K) (hb : Bef P w K mg base Φ tab 51) : ∀ e, tab[51]? = some e → OkAt P w K mg base Φ 51 e := fun e he => by
  cases he
  obtain ⟨fd, F⟩ := c.1.def_ 51 (d := dd e51) rfl
  exact step_ok (e := e51) (st := top 73) (b := b55) F rfl (glo_mem2 X G c.1 (List.mem_of_getElem? (i := 51) rfl)) (FunD.bindsN F fun _ _ _ _ _ _ us hl => match us, hl with | [_, _], _ => rfl) (fun _ z => nomatch z) (bl_ok2 X G c.1) (co_ok2 X G c.1 c.2) hb (by kernel_rfl) (by kernel_rfl) (sem55)
theorem s52 (X : K.In h) (G : h.Ns mainGlobals mg) (c : SaysE fa fn tx K) (hb : Bef P w K mg base Φ tab 52) : ∀ e, tab[52]? = some e → OkAt P w K mg base Φ 52 e := fun e he => by
  cases he
  obtain ⟨fd, F⟩ := c.1.def_ 52 (d := dd e52) rfl
  exact step_ok (e := e52) (st := top 74) (b := b56) F rfl (glo_mem2 X G c.1 (List.mem_of_getElem? (i := 52) rfl)) (FunD.bindsN F fun _ _ _ _ _ _ us hl => match us, hl with | [_, _], _ => rfl) (fun _ z => nomatch z) (bl_ok2 X G c.1) (co_ok2 X G c.1 c.2) hb (by kernel_rfl) (by kernel_rfl) (sem56 rfl)
theorem s53 (X : K.In h) (G : h.Ns mainGlobals mg) (c : SaysE fa fn tx K) (hb : Bef P w K mg base Φ tab 53) : ∀ e, tab[53]? = some e → OkAt P w K mg base Φ 53 e := fun e he => by
  cases he
  obtain ⟨fd, F⟩ := c.1.def_ 53 (d := dd e53) rfl
  exact step_ok (e := e53) (st := top 75) (b := b77) F rfl (glo_mem2 X G c.1 (List.mem_of_getElem? (i := 53) rfl)) (FunD.bindsN F fun _ _ _ _ _ _ us hl => match us, hl with | [_, _], _ => rfl) (fun _ z => nomatch z) (bl_ok2 X G c.1) (co_ok2 X G c.1 c.2) hb (by kernel_rfl) (by kernel_rfl) (sem77)
theorem s54 (X : K.In h) (G : h.Ns mainGlobals mg) (c : SaysE fa fn tx K) (hb : Bef P w K mg base Φ tab 54) : ∀ e, tab[54]? = some e → OkAt P w K mg base Φ 54 e := fun e he => by
  cases he
  obtain ⟨fd, F⟩ := c.1.def_ 54 (d := dd e54) rfl
  exact step_ok (e := e54) (st := top 76) (b := b78) F rfl (glo_mem2 X G c.1 (List.mem_of_getElem? (i := 54) rfl)) (FunD.bindsN F fun _ _ _ _ _ _ us hl => match us, hl with | [_, _], _ => rfl) (fun _ z => nomatch z) (bl_ok2 X G c.1) (co_ok2 X G c.1 c.2) hb (by kernel_rfl) (by kernel_rfl) (sem78 rfl)
theorem s55 (X : K.In h) (G : h.Ns mainGlobals mg) (c : SaysE fa fn tx K) (hb : Bef P w K mg base Φ tab 55) : ∀ e, tab[55]? = some e → OkAt P w K mg base Φ 55 e := fun e he => by
  cases he
  obtain ⟨fd, F⟩ := c.1.def_ 55 (d := dd e55) rfl
  exact step_ok (e := e55) (st := top 77) (b := b79) F rfl (glo_mem2 X G c.1 (List.mem_of_getElem? (i := 55) rfl)) (FunD.bindsN F fun _ _ _ _ _ _ us hl => match us, hl with | [_, _, _], _ => rfl) (fun _ z => nomatch z) (bl_ok2 X G c.1) (co_ok2 X G c.1 c.2) hb (by kernel_rfl) (by kernel_rfl) (sem79 rfl rfl)
theorem s56 (X : K.In h) (G : h.Ns mainGlobals mg) (c : SaysE fa fn tx K) (hb : Bef P w K mg base Φ tab 56) : ∀ e, tab[56]? = some e → OkAt P w K mg base Φ 56 e := fun e he => by
  cases he
  obtain ⟨fd, F⟩ := c.1.def_ 56 (d := dd e56) rfl
  exact step_ok (e := e56) (st := top 78) (b := b80) F rfl (glo_mem2 X G c.1 (List.mem_of_getElem? (i := 56) rfl)) (FunD.bindsN F fun _ _ _ _ _ _ us hl => match us, hl with | [_, _], _ => rfl) (fun _ z => nomatch z) (bl_ok2 X G c.1) (co_ok2 X G c.1 c.2) hb (by kernel_rfl) (by kernel_rfl) (sem80 rfl rfl)
theorem all (X : K.In h) (G : h.Ns mainGlobals mg) (c : SaysE fa fn tx K) : Bef P w K mg base Φ tab 57 := by
  have b0 : Bef P w K mg base Φ tab 0 := Bef.zero
  have b1 := b0.succ (s0 X G c b0)
  have b2 := b1.succ (s1 X G c b1)
  have b3 := b2.succ (s2 X G c b2)
  have b4 := b3.succ (s3 X G c b3)
  have b5 := b4.succ (s4 X G c b4)
  have b6 := b5.succ (s5 X G c b5)
  have b7 := b6.succ (s6 X G c b6)
  have b8 := b7.succ (s7 X G c b7)
  have b9 := b8.succ (s8 X G c b8)
  have b10 := b9.succ (s9 X G c b9)
  have b11 := b10.succ (s10 X G c b10)
  have b12 := b11.succ (s11 X G c b11)
  have b13 := b12.succ (s12 X G c b12)
  have b14 := b13.succ (s13 X G c b13)
  have b15 := b14.succ (s14 X G c b14)
  have b16 := b15.succ (s15 X G c b15)
  have b17 := b16.succ (s16 X G c b16)
  have b18 := b17.succ (s17 X G c b17)
  have b19 := b18.succ (s18 X G c b18)
  have b20 := b19.succ (s19 X G c b19)
  have b21 := b20.succ (s20 X G c b20)
  have b22 := b21.succ (s21 X G c b21)
  have b23 := b22.succ (s22 X G c b22)
  have b24 := b23.succ (s23 X G c b23)
  have b25 := b24.succ (s24 X G c b24)
  have b26 := b25.succ (s25 X G c b25)
  have b27 := b26.succ (s26 X G c b26)
  have b28 := b27.succ (s27 X G c b27)
  have b29 := b28.succ (s28 X G c b28)
  have b30 := b29.succ (s29 X G c b29)
  have b31 := b30.succ (s30 X G c b30)
  have b32 := b31.succ (s31 X G c b31)
  have b33 := b32.succ (s32 X G c b32)
  have b34 := b33.succ (s33 X G c b33)
  have b35 := b34.succ (s34 X G c b34)
  have b36 := b35.succ (s35 X G c b35)
  have b37 := b36.succ (s36 X G c b36)
  have b38 := b37.succ (s37 X G c b37)
  have b39 := b38.succ (s38 X G c b38)
  have b40 := b39.succ (s39 X G c b39)
  have b41 := b40.succ (s40 X G c b40)
  have b42 := b41.succ (s41 X G c b41)
  have b43 := b42.succ (s42 X G c b42)
  have b44 := b43.succ (s43 X G c b43)
  have b45 := b44.succ (s44 X G c b44)
  have b46 := b45.succ (s45 X G c b45)
  have b47 := b46.succ (s46 X G c b46)
  have b48 := b47.succ (s47 X G c b47)
  have b49 := b48.succ (s48 X G c b48)
  have b50 := b49.succ (s49 X G c b49)
  have b51 := b50.succ (s50 X G c b50)
  have b52 := b51.succ (s51 X G c b51)
  have b53 := b52.succ (s52 X G c b52)
  have b54 := b53.succ (s53 X G c b53)
  have b55 := b54.succ (s54 X G c b54)
  have b56 := b55.succ (s55 X G c b55)
  have b57 := b56.succ (s56 X G c b56)
  exact b57
end
abbrev R : PySem.W.OpenRow := PySem.W.OpenLaw.row PySem.Challenge.rw_coinchutes_k03_whole_places_and_shares_o
abbrev hk : PySem.W.Hook := hookE 4 fa fn tx
def ob (s : PySem.W.SharedT) : AlE := obsEG 4 fa fn tx (HandSHeadRun.getT s)
theorem ob_eq (s : PySem.W.SharedT) : ob s = hk.obs s.abs := obsEG_eq (HandSHeadRun.getT_eq s)
def loose : List Str := ((PySem.Challenge.pw_coinchutes_k03_whole_places_and_shares_o.main.scope.names.map (·.1)).filter fun x => !(sEq x "law") && !(sEq x "__name__"))
theorem run (w : World) : HandSHeadRun.RunEq R (PySem.W.view R.prog [79]) hk ob 6000 loose w := by
  intro os
  kernel_rfl
theorem facts {P : Program} {w : World} {K : PySem.W.Frag} {h : Heap} {mg : Str → Option Value} {f : Addr} (X : K.In h) (G : h.Ns mainGlobals mg) (hfa : mg ("law" : Str) = some (.ref f)) (c : SaysE fa fn tx K) :
    ∃ fd : FuncData, (∀ (s : Shared) (v : Value), BindsTo s fd ⟨[v], []⟩ [("script", v)]) ∧ ∀ base : Heap, K.In base → base.Ns mainGlobals mg → FnOk P w K mg base CX0 58 f fd ["script"] (spD K lawS) := by
  obtain ⟨fd, F⟩ := c.1.def_ 57 (d := dd e57) rfl
  have b := FunD.bindsA (ps := ["script"]) F fun _ _ _ _ _ _ us hl => match us, hl with | [_], _ => rfl
  have e := hfa.symm.trans (glo_mem2 X G c.1 (e := e57) (List.mem_of_getElem? (i := 57) rfl))
  cases e
  refine ⟨fd, fun s v => b s [v] rfl, fun base _ _ => ?_⟩
  exact step_fn (e := e57) (st := top 79) (b := b81) F (bl_ok2 X G c.1) (co_ok2 X G c.1 c.2) (all X G c) (by kernel_rfl) (by kernel_rfl) (sem81 rfl rfl rfl rfl rfl rfl rfl rfl rfl)
end CC.K03
open PySem PySem.W PySem.Calls PyProof.Rows CC
theorem PySem.Challenge.cw_coinchutes_k03_whole_places_and_shares_o_holds : PySem.Challenge.rw_coinchutes_k03_whole_places_and_shares_o.Holds := by
  w_on; o_law
  refine HandSHeadRun.head_any (r := OpenLaw.row PySem.Challenge.rw_coinchutes_k03_whole_places_and_shares_o) (q := view (OpenLaw.row PySem.Challenge.rw_coinchutes_k03_whole_places_and_shares_o).prog [79]) (H := CC.K03.hk) (ob := CC.K03.ob) (M := 6000) (loose := CC.K03.loose) (d := HandSHeadRun.topDef (OpenLaw.row PySem.Challenge.rw_coinchutes_k03_whole_places_and_shares_o).prog 79) (kwd := []) CC.K03.ob_eq
    (by kernel_rfl) (fun s => by kernel_rfl) CC.K03.run (by kernel_rfl) (by kernel_rfl) (by kernel_rfl) (by rfl) (by first | assumption | decide +kernel) (by decide +kernel) ⟨rfl, rfl, rfl, rfl, rfl, by decide +kernel⟩ ?hw ?hc
  case hw => w_witness2
  case hc =>
    refine L2.walk_ofE (l := PySem.Challenge.rw_coinchutes_k03_whole_places_and_shares_o) (n := 63) (k := 58) (x := "script") (CX := L2.CX0) rfl (by decide) (by kernel_rfl) ⟨rfl, by decide, by decide⟩ ?F (fun _ _ _ _ z => z)
    intro w mg fa h Y G hmg0
    obtain ⟨K, KX, c⟩ := Y
    have hmg : mg ("law" : PySem.Str) = some (.ref fa) := by
      have e : (HandSHeadRun.topDef (OpenLaw.row PySem.Challenge.rw_coinchutes_k03_whole_places_and_shares_o).prog 79).name = ("law" : PySem.Str) := by kernel_rfl
      rw [← e]
      exact hmg0
    obtain ⟨fd, hb, hF⟩ := CC.K03.facts (P := (PySem.Challenge.rw_coinchutes_k03_whole_places_and_shares_o).prog) (w := w) KX G hmg c
    exact ⟨K, fd, spD K lawS, KX, hb, fun H a ns hl _ hS => law_start hl hS, hF⟩
