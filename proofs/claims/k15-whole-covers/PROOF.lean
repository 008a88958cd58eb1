import PyProof.Rows.All
import Wide.All
import OpenK.AllK
import Wide.FinOn
import HandS.ForExc
import HandS.Comp
import HandS.Dict
import HandS.Iter
import HandS.Walk
import HandS.More
import HandS.Star
import HandS.TupAny
import HandS.Conv
import HandS.IsInst
import HandS.Defaults
import HandS.Lambda
import HandS.TupLe
import HandS.Zip
import KE.GoesNew
import HandS.Codes
import KE.BitLaws
import HandS.NamedTupSort
import HandS.TupSets
import HandS.DictComp
import KE.KStateDown
import HandS.EndBits
import HandS.EndTab
import HandS.Head0
import HandS.Head1
import HandS.Head2
import HandS.HeadEnd
import HandS.HeadHook1
import HandS.HeadHook2
import HandS.HeadHook3
import HandS.HeadHook4
import HandS.HeadWalk
import KE.DataMinMax
import KE.SortData
import KE.KExcSuper
import KE.KSuper
import HandS.Exc
import HandS.ExcInit
import HandS.ExcOwn
import KE.KDictPairs
import KE.KDictSum
import KE.KDictKeyed
import HandS.ExcValue
import HandS.SetFor
import HandS.Strs
import HandS.Style
import PyProof.ReprRoads
import KE.KDictZip
import KE.KItemsList
import HandS.ExcField
import PySem.Challenge.RW_safeground_k15_whole_covers
set_option Elab.async false
set_option linter.all false
set_option maxRecDepth 100000
set_option maxHeartbeats 4000000
/-! data over the abstract heap; what evaluates to what -/
namespace SG
open PySem PySem.Spec PyProof.Rows L2

mutual
def Da (F : Hp) : PyData → V → Prop
  | .none, v => v = .non
  | .bool b, v => v = .bl b
  | .int i, v => v = .int i
  | .str x, v => v = .str x
  | .list ds, v => ∃ a xs, v = .ref a ∧ F a = some (.lst xs) ∧ DaL F ds xs
  | .tuple ds, v => ∃ a xs, v = .ref a ∧ F a = some (.tup xs) ∧ DaL F ds xs
  | .dict _, _ => False
def DaL (F : Hp) : List PyData → List V → Prop
  | [], xs => xs = []
  | d :: ds, xs => ∃ y ys, xs = y :: ys ∧ Da F d y ∧ DaL F ds ys
end

mutual
theorem Da.mono {F F' : Hp} (e : Same F F') : ∀ (d : PyData) (v : V), Da F d v → Da F' d v
  | .none, _, h => by simpa only [Da] using h
  | .bool _, _, h => by simpa only [Da] using h
  | .int _, _, h => by simpa only [Da] using h
  | .str _, _, h => by simpa only [Da] using h
  | .list ds, _, h => by
    simp only [Da] at h ⊢
    obtain ⟨a, xs, h1, h2, h3⟩ := h
    exact ⟨a, xs, h1, e _ _ h2, DaL.mono e ds xs h3⟩
  | .tuple ds, _, h => by
    simp only [Da] at h ⊢
    obtain ⟨a, xs, h1, h2, h3⟩ := h
    exact ⟨a, xs, h1, e _ _ h2, DaL.mono e ds xs h3⟩
  | .dict _, _, h => by simp only [Da] at h
theorem DaL.mono {F F' : Hp} (e : Same F F') : ∀ (ds : List PyData) (xs : List V), DaL F ds xs → DaL F' ds xs
  | [], _, h => by simpa only [DaL] using h
  | d :: ds, _, h => by
    simp only [DaL] at h ⊢
    obtain ⟨y, ys, h1, h2, h3⟩ := h
    exact ⟨y, ys, h1, Da.mono e d y h2, DaL.mono e ds ys h3⟩
end
mutual
theorem Da.dp {K : PySem.W.Frag} {F : Hp} : ∀ (d : PyData) (v : V), Da F d v → Dp K F v d
  | .none, _, h => by simp only [Da] at h; subst h; exact .non
  | .bool b, _, h => by simp only [Da] at h; subst h; exact .bl b
  | .int i, _, h => by simp only [Da] at h; subst h; exact .int i
  | .str x, _, h => by simp only [Da] at h; subst h; exact .str x
  | .list ds, _, h => by
    simp only [Da] at h
    obtain ⟨a, xs, h1, h2, h3⟩ := h
    subst h1
    exact .lst (SqL.of h2) (DaL.dp ds xs h3)
  | .tuple ds, _, h => by
    simp only [Da] at h
    obtain ⟨a, xs, h1, h2, h3⟩ := h
    subst h1
    exact .tup (SqT.of h2) (DaL.dp ds xs h3)
  | .dict _, _, h => by simp only [Da] at h
theorem DaL.dp {K : PySem.W.Frag} {F : Hp} : ∀ (ds : List PyData) (xs : List V), DaL F ds xs → DpAll K F xs ds
  | [], _, h => by simp only [DaL] at h; subst h; exact .nil
  | d :: ds, _, h => by
    simp only [DaL] at h
    obtain ⟨y, ys, h1, h2, h3⟩ := h
    subst h1
    exact .cons (Da.dp d y h2) (DaL.dp ds ys h3)
end
theorem DaL.nil {F : Hp} : DaL F [] [] := by simp only [DaL]
theorem DaL.cons {F : Hp} {d : PyData} {ds : List PyData} {y : V} {ys : List V} (h : Da F d y) (t : DaL F ds ys) : DaL F (d :: ds) (y :: ys) := by
  simp only [DaL]
  exact ⟨y, ys, rfl, h, t⟩
theorem DaL.length {F : Hp} : ∀ {ds : List PyData} {xs : List V}, DaL F ds xs → xs.length = ds.length
  | [], _, h => by simp only [DaL] at h; subst h; rfl
  | d :: ds, _, h => by
    simp only [DaL] at h
    obtain ⟨y, ys, h1, h2, h3⟩ := h
    subst h1
    rw [List.length_cons, List.length_cons, DaL.length h3]
theorem DaL.get {F : Hp} : ∀ {ds : List PyData} {xs : List V} {i : Nat} {d : PyData}, DaL F ds xs → ds[i]? = some d → ∃ y, xs[i]? = some y ∧ Da F d y
  | [], _, i, d, h, e => by simp at e
  | d' :: ds, _, 0, d, h, e => by
    simp only [DaL] at h
    obtain ⟨y, ys, h1, h2, h3⟩ := h
    subst h1
    simp at e; subst e
    exact ⟨y, rfl, h2⟩
  | d' :: ds, _, i + 1, d, h, e => by
    simp only [DaL] at h
    obtain ⟨y, ys, h1, h2, h3⟩ := h
    subst h1
    simp at e
    obtain ⟨z, a, b⟩ := DaL.get (i := i) h3 e
    exact ⟨z, by simpa using a, b⟩
theorem DaL.append {F : Hp} : ∀ {ds es : List PyData} {xs ys : List V}, DaL F ds xs → DaL F es ys → DaL F (ds ++ es) (xs ++ ys)
  | [], _, _, _, h, k => by simp only [DaL] at h; subst h; exact k
  | d :: ds, _, _, _, h, k => by
    simp only [DaL] at h
    obtain ⟨y, ys, h1, h2, h3⟩ := h
    subst h1
    exact DaL.cons h2 (DaL.append h3 k)
theorem DaL.take {F : Hp} : ∀ {ds : List PyData} {xs : List V} (n : Nat), DaL F ds xs → DaL F (ds.take n) (xs.take n)
  | _, _, 0, _ => by simp only [List.take_zero]; exact DaL.nil
  | [], _, n + 1, h => by simp only [DaL] at h; subst h; exact DaL.nil
  | d :: ds, _, n + 1, h => by
    simp only [DaL] at h
    obtain ⟨y, ys, h1, h2, h3⟩ := h
    subst h1
    exact DaL.cons h2 (DaL.take n h3)
theorem DaL.drop {F : Hp} : ∀ {ds : List PyData} {xs : List V} (n : Nat), DaL F ds xs → DaL F (ds.drop n) (xs.drop n)
  | _, _, 0, h => h
  | [], _, n + 1, h => by simp only [DaL] at h; subst h; exact DaL.nil
  | d :: ds, _, n + 1, h => by
    simp only [DaL] at h
    obtain ⟨y, ys, h1, h2, h3⟩ := h
    subst h1
    exact DaL.drop n h3
theorem DaL.ints {F : Hp} : ∀ {ns : List Int} {xs : List V}, DaL F (ns.map .int) xs → xs = ns.map V.int
  | [], _, h => by simp only [List.map_nil, DaL] at h; subst h; rfl
  | n :: ns, _, h => by
    simp only [List.map_cons, DaL, Da] at h
    obtain ⟨y, ys, h1, h2, h3⟩ := h
    subst h1 h2
    rw [List.map_cons, DaL.ints h3]
theorem DaL.ofInts {F : Hp} : ∀ {ns : List Int}, DaL F (ns.map .int) (ns.map V.int)
  | [] => DaL.nil
  | n :: ns => DaL.cons (by simp only [Da]) DaL.ofInts
theorem DaL.bools {F : Hp} : ∀ {bs : List Bool} {xs : List V}, DaL F (bs.map .bool) xs → xs = bs.map V.bl
  | [], _, h => by simp only [List.map_nil, DaL] at h; subst h; rfl
  | n :: ns, _, h => by
    simp only [List.map_cons, DaL, Da] at h
    obtain ⟨y, ys, h1, h2, h3⟩ := h
    subst h1 h2
    rw [List.map_cons, DaL.bools h3]
theorem DaL.strs {F : Hp} : ∀ {ws : List Str} {xs : List V}, DaL F (ws.map .str) xs → xs = ws.map V.str
  | [], _, h => by simp only [List.map_nil, DaL] at h; subst h; rfl
  | n :: ns, _, h => by
    simp only [List.map_cons, DaL, Da] at h
    obtain ⟨y, ys, h1, h2, h3⟩ := h
    subst h1 h2
    rw [List.map_cons, DaL.strs h3]

/-- what a slot holds, an expression gives: data, or a value as it is -/
inductive Sl where
  | d (x : PyData)
  | v (x : V)
  | dk (kvs : List (Key × PyData))
  | dt (kvs : List (List Nat × PyData))
def natK (l : List Nat) : List Key := l.map fun (n : Nat) => (Sum.inl (Int.ofNat n) : Key)
def KvR (F : Hp) : List (Key × PyData) → List (Key × V) → Prop := Paired fun p q => q.1 = p.1 ∧ Da F p.2 q.2
def TvR (F : Hp) : List (List Nat × PyData) → List (List Key × V) → Prop := Paired fun p q => q.1 = natK p.1 ∧ Da F p.2 q.2
def Rp (F : Hp) : Sl → V → Prop
  | .d x, u => Da F x u
  | .v w, u => u = w
  | .dk kvs, u => ∃ a ps, u = .ref a ∧ F a = some (.dK ps) ∧ KvR F kvs ps
  | .dt kvs, u => ∃ a ps, u = .ref a ∧ F a = some (.dT ps) ∧ TvR F kvs ps
def RpL (F : Hp) : List Sl → List V → Prop
  | [], xs => xs = []
  | s :: r, xs => ∃ y ys, xs = y :: ys ∧ Rp F s y ∧ RpL F r ys
theorem Rp.mono {F F' : Hp} (e : Same F F') {s : Sl} {v : V} (h : Rp F s v) : Rp F' s v := by
  cases s with
  | d x => exact Da.mono e x v h
  | v w => exact h
  | dk kvs =>
    obtain ⟨a, ps, h1, h2, h3⟩ := h
    exact ⟨a, ps, h1, e _ _ h2, Paired.mapP h3 fun p q z => ⟨z.1, Da.mono e _ _ z.2⟩⟩
  | dt kvs =>
    obtain ⟨a, ps, h1, h2, h3⟩ := h
    exact ⟨a, ps, h1, e _ _ h2, Paired.mapP h3 fun p q z => ⟨z.1, Da.mono e _ _ z.2⟩⟩
theorem RpL.mono {F F' : Hp} (e : Same F F') : ∀ {rs : List Sl} {vs : List V}, RpL F rs vs → RpL F' rs vs
  | [], _, h => h
  | s :: r, _, h => by
    obtain ⟨y, ys, h1, h2, h3⟩ := h
    exact ⟨y, ys, h1, h2.mono e, RpL.mono e h3⟩
theorem RpL.length {F : Hp} : ∀ {rs : List Sl} {vs : List V}, RpL F rs vs → vs.length = rs.length
  | [], _, h => by cases h; rfl
  | s :: r, _, h => by
    obtain ⟨y, ys, h1, h2, h3⟩ := h
    subst h1
    rw [List.length_cons, List.length_cons, RpL.length h3]
theorem RpL.get {F : Hp} : ∀ {rs : List Sl} {vs : List V} {i : Nat} {s : Sl}, RpL F rs vs → rs[i]? = some s → ∃ v, vs[i]? = some v ∧ Rp F s v
  | [], _, i, d, h, e => by simp at e
  | d' :: ds, _, 0, d, h, e => by
    obtain ⟨y, ys, h1, h2, h3⟩ := h
    subst h1
    simp at e; subst e
    exact ⟨y, rfl, h2⟩
  | d' :: ds, _, i + 1, d, h, e => by
    obtain ⟨y, ys, h1, h2, h3⟩ := h
    subst h1
    simp at e
    obtain ⟨z, a, b⟩ := RpL.get (i := i) h3 e
    exact ⟨z, by simpa using a, b⟩
theorem RpL.data {F : Hp} : ∀ {ds : List PyData} {vs : List V}, RpL F (ds.map .d) vs → DaL F ds vs
  | [], _, h => by cases h; exact DaL.nil
  | d :: ds, _, h => by
    obtain ⟨y, ys, h1, h2, h3⟩ := h
    subst h1
    exact DaL.cons h2 (RpL.data h3)

/-- an object that may change -/
inductive Ow where
  | raw (a : Addr) (o : HO)
  | lst (a : Addr) (ds : List PyData)
  | tab (a : Addr) (q : Str)
def Ow.addr : Ow → Addr
  | .raw a _ => a
  | .lst a _ => a
  | .tab a _ => a
abbrev RawOk (o : HO) : Prop := (∀ xs, o ≠ .tup xs) ∧ ∀ ps, o ≠ .tbl ps
def Ow.holds (F H : Hp) : Ow → Prop
  | .raw a o => H a = some o ∧ RawOk o
  | .lst a ds => ∃ vs, H a = some (.lst vs) ∧ DaL F ds vs
  | .tab a q => ∃ ps : Array Value, H a = some (.tbl ps) ∧ TriplesOk ps.toList ∧ ∀ (pos : Pos) (cv : Value), codeAmong pos ps.toList = some cv → ∃ c, cv = .ref c ∧ F c = some (LamX.CodeO c q)
def adrs (W : List Ow) : List Addr := W.map Ow.addr
def off (M : List Addr) (H : Hp) : Hp := fun a => if a ∈ M then none else H a
theorem off_in {M : List Addr} {H : Hp} {a : Addr} (h : a ∈ M) : off M H a = none := if_pos h
theorem off_out {M : List Addr} {H : Hp} {a : Addr} (h : a ∉ M) : off M H a = H a := if_neg h
theorem off_some {M : List Addr} {H : Hp} {a : Addr} {o : HO} (h : off M H a = some o) : a ∉ M ∧ H a = some o := by
  by_cases ha : a ∈ M
  · rw [off_in ha] at h; cases h
  · rw [off_out ha] at h; exact ⟨ha, h⟩
theorem off_same {M : List Addr} {H H' : Hp} (e : Same H H') : Same (off M H) (off M H') := fun a o h => by
  obtain ⟨h1, h2⟩ := off_some h
  rw [off_out h1]
  exact e a o h2
theorem off_sub {M : List Addr} {H : Hp} : Same (off M H) H := fun _ _ h => (off_some h).2
def Lv (M : List Addr) (H : Hp) : Prop := ∀ a ∈ M, H a ≠ none
theorem Ow.holds_mono {F F' H H' : Hp} (e : Same F F') (e2 : Same H H') {o : Ow} (h : o.holds F H) : o.holds F' H' := by
  cases o with
  | raw a x => exact ⟨e2 _ _ h.1, h.2⟩
  | lst a ds =>
    obtain ⟨vs, h1, h2⟩ := h
    exact ⟨vs, e2 _ _ h1, DaL.mono e ds vs h2⟩
  | tab a q =>
    obtain ⟨ps, h1, h2, h3⟩ := h
    refine ⟨ps, e2 _ _ h1, h2, fun pos cv hc => ?_⟩
    obtain ⟨c, q1, q2⟩ := h3 pos cv hc
    exact ⟨c, q1, e _ _ q2⟩
theorem Ow.holds_some {F H : Hp} {o : Ow} (h : o.holds F H) : ∃ x, H o.addr = some x := by
  cases o with
  | raw a x => exact ⟨x, h.1⟩
  | lst a ds => obtain ⟨vs, h1, h2⟩ := h; exact ⟨_, h1⟩
  | tab a q => obtain ⟨ps, h1, h2⟩ := h; exact ⟨_, h1⟩
structure Hd (W : List Ow) (H : Hp) : Prop where
  nd : (adrs W).Nodup
  hold : ∀ o ∈ W, o.holds (off (adrs W) H) H
theorem Hd.lv {W : List Ow} {H : Hp} (h : Hd W H) : Lv (adrs W) H := fun a ha => by
  obtain ⟨o, ho, e⟩ := List.mem_map.mp ha
  obtain ⟨x, hx⟩ := Ow.holds_some (h.hold o ho)
  rw [← e, hx]
  intro z; cases z
theorem Hd.same {W : List Ow} {H H' : Hp} (h : Hd W H) (e : Same H H') : Hd W H' := ⟨h.nd, fun o ho => Ow.holds_mono (off_same e) e (h.hold o ho)⟩
theorem Hd.nil {H : Hp} : Hd [] H := ⟨List.nodup_nil, fun o ho => nomatch ho⟩
abbrev Rho := List (Option Sl)
structure Cf (W : List Ow) (ρ : Rho) (σ : L2.St) (H : Hp) : Prop where
  len : σ.length = ρ.length
  hd : Hd W H
  env : ∀ (i : Nat) (s : Sl), ρ[i]? = some (some s) → ∃ v, σ[i]? = some (some v) ∧ Rp (off (adrs W) H) s v
structure Go (W W' : List Ow) (H H' : Hp) : Prop where
  kp : ∀ a o, a ∉ adrs W → H a = some o → H' a = some o
  fr : ∀ a ∈ adrs W', a ∈ adrs W ∨ H a = none
theorem Go.refl (W : List Ow) (H : Hp) : Go W W H H := ⟨fun _ _ _ h => h, fun _ h => .inl h⟩
theorem Go.same {W : List Ow} {H H' : Hp} (e : Same H H') : Go W W H H' := ⟨fun a o _ h => e a o h, fun _ h => .inl h⟩
theorem Go.trans {W W1 W2 : List Ow} {H H1 H2 : Hp} (a : Go W W1 H H1) (b : Go W1 W2 H1 H2) : Go W W2 H H2 := by
  refine ⟨fun x o n h => b.kp x o (fun m => ?_) (a.kp x o n h), fun x m => ?_⟩
  · rcases a.fr x m with z | z
    · exact n z
    · rw [z] at h; cases h
  · rcases b.fr x m with z | z
    · exact a.fr x z
    · by_cases hx : x ∈ adrs W
      · exact .inl hx
      · refine .inr ?_
        cases e : H x with
        | none => rfl
        | some o => rw [a.kp x o hx e] at z; cases z
theorem Go.off {W W' : List Ow} {H H' : Hp} (g : Go W W' H H') : Same (off (adrs W) H) (off (adrs W') H') := fun a o h => by
  obtain ⟨h1, h2⟩ := off_some h
  have h3 : a ∉ adrs W' := fun m => by
    rcases g.fr a m with z | z
    · exact h1 z
    · rw [z] at h2; cases h2
  rw [off_out h3]
  exact g.kp a o h1 h2
theorem Cf.go {W W' : List Ow} {ρ : Rho} {σ : L2.St} {H H' : Hp} (c : Cf W ρ σ H) (g : Go W W' H H') (h : Hd W' H') : Cf W' ρ σ H' :=
  ⟨c.len, h, fun i s e => by
    obtain ⟨v, h1, h2⟩ := c.env i s e
    exact ⟨v, h1, h2.mono g.off⟩⟩
theorem upd_ext {H : Hp} {p : Addr} {o : HO} (h : H p = none) : Same H (upd H p o) := fun a u e => by
  rw [upd_ne (ne_of_none e h)]
  exact e
theorem off_new {M : List Addr} {H : Hp} {p : Addr} {o : HO} (l : Lv M H) (h : H p = none) : off M (upd H p o) p = some o := by
  rw [off_out (fun m => l p m h), upd_same]

/-! ### readings -/
def tE (W : List Ow) (ρ : Rho) (r : Sl) (W' : List Ow) : TE := fun σ H Q => ∃ Z, Cf (Z ++ W) ρ σ H ∧ ∀ v H', Go (Z ++ W) (Z ++ W') H H' → Hd (Z ++ W') H' → Rp (off (adrs (Z ++ W')) H') r v → Q v H'
def tT (W : List Ow) (ρ : Rho) (b : Bool) (W' : List Ow) : TT := fun σ H Q => ∃ Z, Cf (Z ++ W) ρ σ H ∧ ∀ H', Go (Z ++ W) (Z ++ W') H H' → Hd (Z ++ W') H' → Q b H'
def tA (W : List Ow) (ρ : Rho) (rs : List Sl) (W' : List Ow) : TA := fun σ H Q => ∃ Z, Cf (Z ++ W) ρ σ H ∧ ∀ vs H', Go (Z ++ W) (Z ++ W') H H' → Hd (Z ++ W') H' → RpL (off (adrs (Z ++ W')) H') rs vs → Q vs H'
def tP (W : List Ow) (ρ : Rho) (o : Option Int) (W' : List Ow) : TO := fun σ H Q => ∃ Z, Cf (Z ++ W) ρ σ H ∧ ∀ H', Go (Z ++ W) (Z ++ W') H H' → Hd (Z ++ W') H' → Q o H'
inductive Oc where
  | nx (W : List Ow) (ρ : Rho)
  | rt (r : Sl) (W : List Ow)
def oS (W : List Ow) (ρ : Rho) : Oc → TS
  | .nx W' ρ' => fun D σ H => ∃ Z, Cf (Z ++ W) ρ σ H ∧ ∀ σ' H', Go (Z ++ W) (Z ++ W') H H' → Cf (Z ++ W') ρ' σ' H' → D.nx σ' H'
  | .rt r W' => fun D σ H => ∃ Z, Cf (Z ++ W) ρ σ H ∧ ∀ v H', Go (Z ++ W) (Z ++ W') H H' → Hd (Z ++ W') H' → Rp (off (adrs (Z ++ W')) H') r v → D.rt v H'

/-- a step that gives r and makes new objects at most -/
def Yd (t : VK → Prop) (M : List Addr) (H : Hp) (r : Sl) : Prop := ∀ Q : VK, (∀ v H', Same H H' → Rp (off M H') r v → Q v H') → t Q
theorem Yd.use {t : VK → Prop} {W : List Ow} {H : Hp} {r : Sl} {Q : VK} (h : Yd t (adrs W) H r) (hd : Hd W H) (k : ∀ v H', Go W W H H' → Hd W H' → Rp (off (adrs W) H') r v → Q v H') : t Q :=
  h Q fun v H' e q => k v H' (Go.same e) (hd.same e) q
section
variable {X : Cx} {e a b c : Expr} {es : List Expr} {pos : Pos} {W W1 W2 W3 : List Ow} {ρ : Rho} {r ra rb rc : Sl} {rs : List Sl}
theorem PEto {t t' : TE} (h : PE X e t) (i : ∀ σ H Q, t' σ H Q → t σ H Q) : PE X e t' := ⟨fun pins s σ H Q I q => h.run pins s σ H Q I (i σ H Q q)⟩
theorem PTto {t t' : TT} (h : PT X e t) (i : ∀ σ H Q, t' σ H Q → t σ H Q) : PT X e t' := ⟨fun pins s σ H Q I q => h.run pins s σ H Q I (i σ H Q q)⟩
theorem PWto {t t' : TT} (h : PW X e t) (i : ∀ σ H Q, t' σ H Q → t σ H Q) : PW X e t' := ⟨fun wh pins s σ H Q I q => h.run wh pins s σ H Q I (i σ H Q q)⟩
theorem PAto {t t' : TA} (h : PA X es t) (i : ∀ σ H Q, t' σ H Q → t σ H Q) : PA X es t' := ⟨fun p pins s σ H Q I q => h.run p pins s σ H Q I (i σ H Q q)⟩
theorem PSto {st : Stmt} {t t' : TS} (h : PS X st t) (i : ∀ D σ H, t' D σ H → t D σ H) : PS X st t' := ⟨fun pins s σ H D I q => h.run pins s σ H D I (i D σ H q)⟩
theorem PSsto {st : List Stmt} {t t' : TS} (h : PSs X st t) (i : ∀ D σ H, t' D σ H → t D σ H) : PSs X st t' := ⟨fun pins s σ H D I q => h.run pins s σ H D I (i D σ H q)⟩

theorem e_var (i : Nat) {x : Str} (hr : ρ[i]? = some (some r) := by rfl) (hN : X.N[i]? = some x := by rfl) (hv : Vis X.env.scope x := by first | exact Or.inl rfl | exact Or.inr (Or.inl rfl) | exact Or.inr (Or.inr rfl)) (hd : (x == ("__debug__" : Str)) = false := by decide)
    (hcd : (x == ("__classdict__" : Str)) = false := by decide) : PE X (.Name x pos) (tE W ρ r W) :=
  PEto (pe_var (i := i) hN hv hd hcd) fun σ H Q ⟨Z, c, k⟩ => by
    obtain ⟨v, h1, h2⟩ := c.env i r hr
    exact ⟨v, h1, k v H (Go.refl _ H) c.hd h2⟩
theorem e_c {v : V} (h : PE X e (tC v)) (hr : ∀ F, Rp F r v) : PE X e (tE W ρ r W) := PEto h fun σ H Q ⟨Z, c, k⟩ => k v H (Go.refl _ H) c.hd (hr _)
theorem e_int {i : Int} {j} : PE X (.Constant (.int i) j pos) (tE W ρ (.d (.int i)) W) := e_c pe_int fun F => by simp only [Rp, Da]
theorem e_bl {i : Bool} {j} : PE X (.Constant (.bool i) j pos) (tE W ρ (.d (.bool i)) W) := e_c pe_bl fun F => by simp only [Rp, Da]
theorem e_non {j} : PE X (.Constant .none j pos) (tE W ρ (.d .none) W) := e_c pe_non fun F => by simp only [Rp, Da]
theorem e_str {i : Str} {j} : PE X (.Constant (.str i) j pos) (tE W ρ (.d (.str i)) W) := e_c pe_str fun F => by simp only [Rp, Da]
theorem e_gint {x : Str} {i : Int} {t : Tok} (hm : X.mg x = some (.int i t)) (hg : Gl X x := by rfl) (hd : (x == ("__debug__" : Str)) = false := by decide) : PE X (.Name x pos) (tE W ρ (.d (.int i)) W) :=
  e_c (pe_glob (v := .int i) hg hm ⟨t, rfl⟩ hd) fun F => by simp only [Rp, Da]
theorem e_gstr {x z : Str} {t : Tok} (hm : X.mg x = some (.str z t)) (hg : Gl X x := by rfl) (hd : (x == ("__debug__" : Str)) = false := by decide) : PE X (.Name x pos) (tE W ρ (.d (.str z)) W) :=
  e_c (pe_glob (v := .str z) hg hm ⟨t, rfl⟩ hd) fun F => by simp only [Rp, Da]
theorem e_eq {r' : Sl} (h : PE X e (tE W ρ r W1)) (q : r = r') : PE X e (tE W ρ r' W1) := q ▸ h
def BinOk (X : Cx) (op : Operator) (ra rb r : Sl) : Prop := ∃ t : R2, OpR X (binaryOp op) t ∧ ∀ M H x y, Lv M H → Rp (off M H) ra x → Rp (off M H) rb y → Yd (t x y H) M H r
def CmpOk (X : Cx) (op : CmpOp) (ra rb : Sl) (k : Bool) : Prop := ∃ t : R2, OpR X (compareOp op) t ∧ ∀ M H x y, Lv M H → Rp (off M H) ra x → Rp (off M H) rb y → Yd (t x y H) M H (.d (.bool k))
def UnOk (X : Cx) (op : UnaryOp) (ra r : Sl) : Prop := ∃ t, UnR X (unaryOp op) t ∧ ∀ M H x, Lv M H → Rp (off M H) ra x → Yd (t x H) M H r
def CalOk (X : Cx) (f : Value) (rs : List Sl) (r : Sl) : Prop := ∃ t, CallR X f t ∧ ∀ M H vs, Lv M H → RpL (off M H) rs vs → Yd (t vs H) M H r
def IxOk (X : Cx) (ra rb r : Sl) : Prop := ∃ t : R2, IxR X t ∧ ∀ M H x y, Lv M H → Rp (off M H) ra x → Rp (off M H) rb y → Yd (t x y H) M H r
def SlOk (X : Cx) (ra : Sl) (lo hi : Option Int) (r : Sl) : Prop := ∃ t, SlR X t ∧ ∀ M H x, Lv M H → Rp (off M H) ra x → Yd (t x lo hi H) M H r

theorem e_bin {op : Operator} (h : BinOk X op ra rb r) (ha : PE X a (tE W ρ ra W1)) (hb : PE X b (tE W1 ρ rb W2)) : PE X (.BinOp a op b pos) (tE W ρ r W2) := by
  obtain ⟨t, ht, hy⟩ := h
  refine PEto (pe_op ht ha hb) fun σ H Q ⟨Z, c, k⟩ => ?_
  refine ⟨Z, c, fun x H1 g1 d1 q1 => ⟨Z, c.go g1 d1, fun y H2 g2 d2 q2 => ?_⟩⟩
  exact (hy (adrs (Z ++ W2)) H2 x y d2.lv (q1.mono g2.off) q2).use d2 fun v H3 g3 d3 q3 => k v H3 ((g1.trans g2).trans g3) d3 q3
theorem e_un {op : UnaryOp} (h : UnOk X op ra r) (ha : PE X a (tE W ρ ra W1)) : PE X (.UnaryOp op a pos) (tE W ρ r W1) := by
  obtain ⟨t, ht, hy⟩ := h
  refine PEto (pe_un ht ha) fun σ H Q ⟨Z, c, k⟩ => ?_
  refine ⟨Z, c, fun x H1 g1 d1 q1 => ?_⟩
  exact (hy (adrs (Z ++ W1)) H1 x d1.lv q1).use d1 fun v H3 g3 d3 q3 => k v H3 (g1.trans g3) d3 q3
theorem e_cmp {op : CmpOp} {k : Bool} (h : CmpOk X op ra rb k) (ha : PE X a (tE W ρ ra W1)) (hb : PE X b (tE W1 ρ rb W2)) (hm : behindInMarks op b = false := by first | exact nobehind _ (by decide) (by decide) | rfl | with_unfolding_all rfl) :
    PE X (.Compare a [op] [b] pos) (tE W ρ (.d (.bool k)) W2) := by
  obtain ⟨t, ht, hy⟩ := h
  refine PEto (pe_cmpR ht ha hb hm) fun σ H Q ⟨Z, c, k⟩ => ?_
  refine ⟨Z, c, fun x H1 g1 d1 q1 => ⟨Z, c.go g1 d1, fun y H2 g2 d2 q2 => ?_⟩⟩
  exact (hy (adrs (Z ++ W2)) H2 x y d2.lv (q1.mono g2.off) q2).use d2 fun v H3 g3 d3 q3 => k v H3 ((g1.trans g2).trans g3) d3 q3
theorem t_cmp {op : CmpOp} {k : Bool} (h : CmpOk X op ra rb k) (ha : PE X a (tE W ρ ra W1)) (hb : PE X b (tE W1 ρ rb W2)) (hm : behindInMarks op b = false := by first | exact nobehind _ (by decide) (by decide) | rfl | with_unfolding_all rfl) :
    PT X (.Compare a [op] [b] pos) (tT W ρ k W2) := by
  obtain ⟨t, ht, hy⟩ := h
  refine PTto (pt_cmpR ht ha hb hm) fun σ H Q ⟨Z, c, k⟩ => ?_
  refine ⟨Z, c, fun x H1 g1 d1 q1 => ⟨Z, c.go g1 d1, fun y H2 g2 d2 q2 => ?_⟩⟩
  refine (hy (adrs (Z ++ W2)) H2 x y d2.lv (q1.mono g2.off) q2).use d2 fun v H3 g3 d3 q3 => ?_
  simp only [Rp, Da] at q3
  exact ⟨_, q3, k H3 ((g1.trans g2).trans g3) d3⟩
theorem t_val {k : Bool} (h : PE X e (tE W ρ (.d (.bool k)) W1)) (he : ∀ whole, isTrue e X.env whole = (do let v ← whole; standAt e.pos; holding [v] (truthy v)) := by intro _; rfl) : PT X e (tT W ρ k W1) :=
  PTto (pt_val h he) fun σ H Q ⟨Z, c, q⟩ => ⟨Z, c, fun v H1 g1 d1 q1 => by
    simp only [Rp, Da] at q1
    exact ⟨_, q1, q H1 g1 d1⟩⟩
theorem t_eq {k k' : Bool} (h : PT X e (tT W ρ k W1)) (q : k = k') : PT X e (tT W ρ k' W1) := q ▸ h
theorem t_not {k : Bool} (h : PT X e (tT W ρ k W1)) : PT X (.UnaryOp .Not e pos) (tT W ρ (!k) W1) :=
  PTto (pt_not h) fun σ H Q ⟨Z, c, q⟩ => ⟨Z, c, fun H1 g1 d1 => q H1 g1 d1⟩
theorem w_and1 {k : Bool} (h : PT X a (tT W ρ k W1)) : PW X (.BoolOp .And [a] pos) (tT W ρ k W1) := pw_and1 h
theorem w_or1 {k : Bool} (h : PT X a (tT W ρ k W1)) : PW X (.BoolOp .Or [a] pos) (tT W ρ k W1) := pw_or1 h
theorem w_and {k z : Bool} (h : PT X a (tT W ρ k W1)) (h2 : k = true → PW X (.BoolOp .And (b :: es) pos) (tT W1 ρ z W2)) (h3 : k = false → z = false ∧ W2 = W1) : PW X (.BoolOp .And (a :: b :: es) pos) (tT W ρ z W2) := by
  refine ⟨fun wh pins s σ H Q I q => ?_⟩
  obtain ⟨Z, c, q⟩ := q
  refine isTrue_and (thn (h.run pins s σ H (fun k' H1 => k' = k ∧ Go (Z ++ W) (Z ++ W1) H H1 ∧ Hd (Z ++ W1) H1) I ⟨Z, c, fun H1 g1 d1 => ⟨rfl, g1, d1⟩⟩) fun k' s1 ⟨H1, I1, e, g1, d1⟩ => ?_)
  subst e
  cases k' with
  | true => exact (h2 rfl).run wh pins s1 σ H1 Q I1 ⟨Z, c.go g1 d1, fun H2 g2 d2 => q H2 (g1.trans g2) d2⟩
  | false =>
    obtain ⟨rfl, rfl⟩ := h3 rfl
    exact ⟨H1, I1, q H1 g1 d1⟩
theorem w_or {k z : Bool} (h : PT X a (tT W ρ k W1)) (h2 : k = false → PW X (.BoolOp .Or (b :: es) pos) (tT W1 ρ z W2)) (h3 : k = true → z = true ∧ W2 = W1) : PW X (.BoolOp .Or (a :: b :: es) pos) (tT W ρ z W2) := by
  refine ⟨fun wh pins s σ H Q I q => ?_⟩
  obtain ⟨Z, c, q⟩ := q
  refine isTrue_or (thn (h.run pins s σ H (fun k' H1 => k' = k ∧ Go (Z ++ W) (Z ++ W1) H H1 ∧ Hd (Z ++ W1) H1) I ⟨Z, c, fun H1 g1 d1 => ⟨rfl, g1, d1⟩⟩) fun k' s1 ⟨H1, I1, e, g1, d1⟩ => ?_)
  subst e
  cases k' with
  | false => exact (h2 rfl).run wh pins s1 σ H1 Q I1 ⟨Z, c.go g1 d1, fun H2 g2 d2 => q H2 (g1.trans g2) d2⟩
  | true =>
    obtain ⟨rfl, rfl⟩ := h3 rfl
    exact ⟨H1, I1, q H1 g1 d1⟩
/-- and, or as values: bools -/
theorem v_one {op} (h : PE X a (tE W ρ r W1)) : PE X (.BoolOp op [a] pos) (tE W ρ r W1) := pe_one h
theorem v_and {k z : Bool} (h : PE X a (tE W ρ (.d (.bool k)) W1)) (h2 : k = true → PE X (.BoolOp .And (b :: es) pos) (tE W1 ρ (.d (.bool z)) W2)) (h3 : k = false → z = false ∧ W2 = W1) :
    PE X (.BoolOp .And (a :: b :: es) pos) (tE W ρ (.d (.bool z)) W2) := by
  refine ⟨fun pins s σ H Q I q => ?_⟩
  obtain ⟨Z, c, q⟩ := q
  refine BoolOp_and (thn (h.run pins s σ H (fun v H1 => v = .bl k ∧ Go (Z ++ W) (Z ++ W1) H H1 ∧ Hd (Z ++ W1) H1) I ⟨Z, c, fun v H1 g1 d1 q1 => ⟨by simpa only [Rp, Da] using q1, g1, d1⟩⟩) fun u s1 ⟨v, H1, I1, rv, e, g1, d1⟩ => ?_)
  subst e
  cases rv
  refine wpAny_truthy_bool ?_
  cases k with
  | true => exact (h2 rfl).run pins s1 σ H1 Q I1 ⟨Z, c.go g1 d1, fun v H2 g2 d2 q2 => q v H2 (g1.trans g2) d2 q2⟩
  | false =>
    obtain ⟨rfl, rfl⟩ := h3 rfl
    exact ⟨.bl false, H1, I1, rfl, q (.bl false) H1 g1 d1 (by simp only [Rp, Da])⟩
theorem v_or {k z : Bool} (h : PE X a (tE W ρ (.d (.bool k)) W1)) (h2 : k = false → PE X (.BoolOp .Or (b :: es) pos) (tE W1 ρ (.d (.bool z)) W2)) (h3 : k = true → z = true ∧ W2 = W1) :
    PE X (.BoolOp .Or (a :: b :: es) pos) (tE W ρ (.d (.bool z)) W2) := by
  refine ⟨fun pins s σ H Q I q => ?_⟩
  obtain ⟨Z, c, q⟩ := q
  refine BoolOp_or (thn (h.run pins s σ H (fun v H1 => v = .bl k ∧ Go (Z ++ W) (Z ++ W1) H H1 ∧ Hd (Z ++ W1) H1) I ⟨Z, c, fun v H1 g1 d1 q1 => ⟨by simpa only [Rp, Da] using q1, g1, d1⟩⟩) fun u s1 ⟨v, H1, I1, rv, e, g1, d1⟩ => ?_)
  subst e
  cases rv
  refine wpAny_truthy_bool ?_
  cases k with
  | false => exact (h2 rfl).run pins s1 σ H1 Q I1 ⟨Z, c.go g1 d1, fun v H2 g2 d2 q2 => q v H2 (g1.trans g2) d2 q2⟩
  | true =>
    obtain ⟨rfl, rfl⟩ := h3 rfl
    exact ⟨.bl true, H1, I1, rfl, q (.bl true) H1 g1 d1 (by simp only [Rp, Da])⟩
theorem v_not {k : Bool} (h : PE X a (tE W ρ (.d (.bool k)) W1)) : PE X (.UnaryOp .Not a pos) (tE W ρ (.d (.bool (!k))) W1) :=
  PEto (pe_not h) fun σ H Q ⟨Z, c, q⟩ => ⟨Z, c, fun v H1 g1 d1 q1 => ⟨k, by simpa only [Rp, Da] using q1, q (.bl (!k)) H1 g1 d1 (by simp only [Rp, Da])⟩⟩
/-- a if c else b -/
theorem e_if {k : Bool} (hc : PT X c (tT W ρ k W1)) (h1 : k = true → PE X a (tE W1 ρ r W2)) (h2 : k = false → PE X b (tE W1 ρ r W2)) : PE X (.IfExp c a b pos) (tE W ρ r W2) := by
  refine ⟨fun pins s σ H Q I q => ?_⟩
  obtain ⟨Z, cf, q⟩ := q
  refine wpAny_IfExp (thn (hc.run pins s σ H (fun k' H1 => k' = k ∧ Go (Z ++ W) (Z ++ W1) H H1 ∧ Hd (Z ++ W1) H1) I ⟨Z, cf, fun H1 g1 d1 => ⟨rfl, g1, d1⟩⟩) fun k' s1 ⟨H1, I1, e, g1, d1⟩ => ?_)
  subst e
  cases k' with
  | true => exact (h1 rfl).run pins s1 σ H1 Q I1 ⟨Z, cf.go g1 d1, fun v H2 g2 d2 q2 => q v H2 (g1.trans g2) d2 q2⟩
  | false => exact (h2 rfl).run pins s1 σ H1 Q I1 ⟨Z, cf.go g1 d1, fun v H2 g2 d2 q2 => q v H2 (g1.trans g2) d2 q2⟩
/-- a op b op' c; z the answer, the third asked where the first holds -/
theorem e_chain {op op' : CmpOp} {k z : Bool} (h : CmpOk X op ra rb k) (h' : k = true → CmpOk X op' rb rc z) (h3 : k = false → z = false ∧ W3 = W2) (hop : ∃ t, OpR X (compareOp op') t) (ha : PE X a (tE W ρ ra W1)) (hb : PE X b (tE W1 ρ rb W2)) (hc : PE X c (tE W2 ρ rc W3))
    (hm : lastMarks [op, op'] [b, c] = false := by with_unfolding_all rfl) : PE X (.Compare a [op, op'] [b, c] pos) (tE W ρ (.d (.bool z)) W3) := by
  obtain ⟨t, ht, hy⟩ := h
  cases k with
  | true =>
    obtain ⟨t', ht', hy'⟩ := h' rfl
    refine PEto (pe_chain ht ht' ha hb hc hm) fun σ H Q ⟨Z, cf, q⟩ => ?_
    refine ⟨Z, cf, fun x H1 g1 d1 q1 => ⟨Z, cf.go g1 d1, fun y H2 g2 d2 q2 => ?_⟩⟩
    refine (hy (adrs (Z ++ W2)) H2 x y d2.lv (q1.mono g2.off) q2).use d2 fun v H3 g3 d3 q3 => ⟨true, by simpa only [Rp, Da] using q3, ?_⟩
    rw [if_pos rfl]
    refine ⟨Z, ((cf.go g1 d1).go g2 d2).go g3 d3, fun w' H4 g4 d4 q4 => ?_⟩
    exact (hy' (adrs (Z ++ W3)) H4 y w' d4.lv (q2.mono (g3.trans g4).off) q4).use d4 fun v H5 g5 d5 q5 => q v H5 ((((g1.trans g2).trans g3).trans g4).trans g5) d5 q5
  | false =>
    obtain ⟨rfl, rfl⟩ := h3 rfl
    obtain ⟨t', ht'⟩ := hop
    refine PEto (pe_chain ht ht' ha hb hc hm) fun σ H Q ⟨Z, cf, q⟩ => ?_
    refine ⟨Z, cf, fun x H1 g1 d1 q1 => ⟨Z, cf.go g1 d1, fun y H2 g2 d2 q2 => ?_⟩⟩
    refine (hy (adrs (Z ++ W3)) H2 x y d2.lv (q1.mono g2.off) q2).use d2 fun v H3 g3 d3 q3 => ⟨false, by simpa only [Rp, Da] using q3, ?_⟩
    rw [if_neg Bool.false_ne_true]
    exact q (.bl false) H3 ((g1.trans g2).trans g3) d3 (by simp only [Rp, Da])
/-! arguments, displays -/
theorem a_nil (c : True := trivial) : PA X [] (tA W ρ [] W) := PAto pa_nil fun σ H Q ⟨Z, c, k⟩ => k [] H (Go.refl _ H) c.hd rfl
theorem a_cons (ha : PE X e (tE W ρ r W1)) (hr : PA X es (tA W1 ρ rs W2)) (hs : starEach (e :: es) X.env = (false, eval e X.env) :: starEach es X.env := by rfl) : PA X (e :: es) (tA W ρ (r :: rs) W2) :=
  PAto (pa_cons ha hr hs) fun σ H Q ⟨Z, c, k⟩ => ⟨Z, c, fun x H1 g1 d1 q1 => ⟨Z, c.go g1 d1, fun vs H2 g2 d2 q2 => k (x :: vs) H2 (g1.trans g2) d2 ⟨x, vs, rfl, q1.mono g2.off, q2⟩⟩⟩
theorem rpl_data {F : Hp} {ds : List PyData} {vs : List V} (h : DaL F ds vs) : RpL F (ds.map .d) vs := by
  induction ds generalizing vs with
  | nil => simp only [DaL] at h; exact h
  | cons d ds ih =>
    simp only [DaL] at h
    obtain ⟨y, ys, h1, h2, h3⟩ := h
    exact ⟨y, ys, h1, h2, ih h3⟩
theorem rpl_append {F : Hp} {rs' : List Sl} {vs ws : List V} (h : RpL F rs vs) (k : RpL F rs' ws) : RpL F (rs ++ rs') (vs ++ ws) := by
  induction rs generalizing vs with
  | nil => cases h; exact k
  | cons d ds ih =>
    obtain ⟨y, ys, h1, h2, h3⟩ := h
    subst h1
    exact ⟨y, ys ++ ws, rfl, h2, ih h3⟩
theorem a_star {ds : List PyData} {p : Pos} (ha : PE X e (tE W ρ (.d (.tuple ds)) W1)) (hr : PA X es (tA W1 ρ rs W2)) (hs : starEach (.Starred e p :: es) X.env = (true, eval e X.env) :: starEach es X.env := by rfl) :
    PA X (.Starred e p :: es) (tA W ρ (ds.map .d ++ rs) W2) :=
  PAto (StX.pa_star ha hr hs) fun σ H Q ⟨Z, c, k⟩ => ⟨Z, c, fun x H1 g1 d1 q1 => by
    simp only [Rp, Da] at q1
    obtain ⟨p, xs, e1, e2, e3⟩ := q1
    exact ⟨p, xs, e1, .inl (SqT.of (off_sub _ _ e2)), Z, c.go g1 d1, fun vs H2 g2 d2 q2 => k (xs ++ vs) H2 (g1.trans g2) d2 (rpl_append (rpl_data (DaL.mono g2.off ds xs e3)) q2)⟩⟩
theorem yd_tup {M : List Addr} {H : Hp} {ds : List PyData} {vs : List V} {Q : VK} (l : Lv M H) (h : DaL (off M H) ds vs) (k : ∀ v H', Same H H' → Rp (off M H') (.d (.tuple ds)) v → Q v H') : ∀ p, H p = none → Q (.ref p) (upd H p (.tup vs)) := fun p hp =>
  k (.ref p) _ (upd_ext hp) (by
    simp only [Rp, Da]
    exact ⟨p, vs, rfl, off_new l hp, DaL.mono (off_same (upd_ext hp)) ds vs h⟩)
theorem yd_lst {M : List Addr} {H : Hp} {ds : List PyData} {vs : List V} {Q : VK} (l : Lv M H) (h : DaL (off M H) ds vs) (k : ∀ v H', Same H H' → Rp (off M H') (.d (.list ds)) v → Q v H') : ∀ p, H p = none → Q (.ref p) (upd H p (.lst vs)) := fun p hp =>
  k (.ref p) _ (upd_ext hp) (by
    simp only [Rp, Da]
    exact ⟨p, vs, rfl, off_new l hp, DaL.mono (off_same (upd_ext hp)) ds vs h⟩)
theorem e_tup {ds : List PyData} {k} (h : PA X es (tA W ρ rs W1)) (hd : rs = ds.map .d := by rfl) (hz : rs.length ≤ sizeLine := by first | decide | (simp; done)) : PE X (.Tuple es k pos) (tE W ρ (.d (.tuple ds)) W1) := by
  subst hd
  refine PEto (pe_tup h) fun σ H Q ⟨Z, c, k⟩ => ⟨Z, c, fun vs H1 g1 d1 q1 => ⟨by rw [q1.length]; exact hz, ?_⟩⟩
  exact yd_tup d1.lv q1.data fun v H' e q => k v H' (g1.trans (Go.same e)) (d1.same e) q
theorem e_lst {ds : List PyData} (h : PA X es (tA W ρ rs W1)) (hd : rs = ds.map .d := by rfl) (hz : rs.length ≤ sizeLine := by first | decide | (simp; done)) : PE X (.List es pos) (tE W ρ (.d (.list ds)) W1) := by
  subst hd
  refine PEto (pe_lst h) fun σ H Q ⟨Z, c, k⟩ => ⟨Z, c, fun vs H1 g1 d1 q1 => ⟨by rw [q1.length]; exact hz, ?_⟩⟩
  exact yd_lst d1.lv q1.data fun v H' e q => k v H' (g1.trans (Go.same e)) (d1.same e) q
/-! calls of built-ins, subscripts, slices -/
theorem e_calB {id : String} {x : Str} {p : Pos} (h : CalOk X (.builtin id) rs r) (hm : X.mg x = none) (hv : bootBuiltins x = some (.builtin id)) (ha : PA X (e :: es) (tA W ρ rs W1)) (hg : Gl X x := by rfl) (hn : x ≠ "__name__" := by decide) (hdb : (x == ("__debug__" : Str)) = false := by decide)
    (he : starEach (e :: es) X.env = (false, eval e X.env) :: starEach es X.env := by rfl) (hpl : (backTo pos (starEach es X.env)).any (·.1) = false := by rfl) : PE X (.Call (.Name x p) (e :: es) [] pos) (tE W ρ r W1) := by
  obtain ⟨t, ht, hy⟩ := h
  refine PEto (pe_callB ht hg hm hv ha hn hdb he hpl) fun σ H Q ⟨Z, c, k⟩ => ⟨Z, c, fun vs H1 g1 d1 q1 => ?_⟩
  exact (hy (adrs (Z ++ W1)) H1 vs d1.lv q1).use d1 fun v H3 g3 d3 q3 => k v H3 (g1.trans g3) d3 q3
theorem e_calT {T : String} {x : Str} {p : Pos} (h : CalOk X (.type T) rs r) (hm : X.mg x = none) (hv : bootBuiltins x = some (.type T)) (ha : PA X (e :: es) (tA W ρ rs W1)) (hg : Gl X x := by rfl) (hn : x ≠ "__name__" := by decide) (hdb : (x == ("__debug__" : Str)) = false := by decide)
    (he : starEach (e :: es) X.env = (false, eval e X.env) :: starEach es X.env := by rfl) (hpl : (backTo pos (starEach es X.env)).any (·.1) = false := by rfl) : PE X (.Call (.Name x p) (e :: es) [] pos) (tE W ρ r W1) := by
  obtain ⟨t, ht, hy⟩ := h
  refine PEto (pe_callTy ht hg hm hv ha hn hdb he hpl) fun σ H Q ⟨Z, c, k⟩ => ⟨Z, c, fun vs H1 g1 d1 q1 => ?_⟩
  exact (hy (adrs (Z ++ W1)) H1 vs d1.lv q1).use d1 fun v H3 g3 d3 q3 => k v H3 (g1.trans g3) d3 q3
theorem e_ix (h : IxOk X ra rb r) (ha : PE X a (tE W ρ ra W1)) (hb : PE X b (tE W1 ρ rb W2)) (hs : PlainIx b := by exact fun _ _ => rfl) : PE X (.Subscript a b pos) (tE W ρ r W2) := by
  obtain ⟨t, ht, hy⟩ := h
  refine PEto (pe_ix ht ha hb hs) fun σ H Q ⟨Z, c, k⟩ => ?_
  refine ⟨Z, c, fun x H1 g1 d1 q1 => ⟨Z, c.go g1 d1, fun y H2 g2 d2 q2 => ?_⟩⟩
  exact (hy (adrs (Z ++ W2)) H2 x y d2.lv (q1.mono g2.off) q2).use d2 fun v H3 g3 d3 q3 => k v H3 ((g1.trans g2).trans g3) d3 q3
theorem p_none : PO X none (tP W ρ none W) := ⟨fun pins s σ H Q I ⟨Z, c, k⟩ => po_none.run pins s σ H Q I (k H (Go.refl _ H) c.hd)⟩
theorem p_some {i : Int} (h : PE X e (tE W ρ (.d (.int i)) W1)) : PO X (some e) (tP W ρ (some i) W1) :=
  ⟨fun pins s σ H Q I ⟨Z, c, k⟩ => (po_some h).run pins s σ H Q I ⟨Z, c, fun v H1 g1 d1 q1 => ⟨i, by simpa only [Rp, Da] using q1, k H1 g1 d1⟩⟩⟩
theorem e_sl {lo hi : Option Expr} {l u : Option Int} {p2 : Pos} (h : SlOk X ra l u r) (ha : PE X a (tE W ρ ra W1)) (hl : PO X lo (tP W1 ρ l W2)) (hu : PO X hi (tP W2 ρ u W3)) : PE X (.Subscript a (.Slice lo hi none p2) pos) (tE W ρ r W3) := by
  obtain ⟨t, ht, hy⟩ := h
  refine PEto (pe_slice ht ha hl hu) fun σ H Q ⟨Z, c, k⟩ => ?_
  refine ⟨Z, c, fun x H1 g1 d1 q1 => ⟨Z, c.go g1 d1, fun H2 g2 d2 => ⟨Z, (c.go g1 d1).go g2 d2, fun H3 g3 d3 => ?_⟩⟩⟩
  exact (hy (adrs (Z ++ W3)) H3 x d3.lv (q1.mono (g2.trans g3).off)).use d3 fun v H4 g4 d4 q4 => k v H4 (((g1.trans g2).trans g3).trans g4) d4 q4
end
end SG
set_option Elab.async false
set_option linter.all false
set_option maxRecDepth 100000
set_option maxHeartbeats 4000000
/-! operators, comparisons, built-ins over data -/
namespace SG
open PySem PySem.Spec PyProof.Rows L2
section
variable {X : Cx}
abbrev I_ (i : Int) : Sl := .d (.int i)
abbrev B_ (b : Bool) : Sl := .d (.bool b)
theorem rp_int {F : Hp} {i : Int} {v : V} : Rp F (.d (.int i)) v ↔ v = .int i := by simp only [Rp, Da]
theorem rp_bl {F : Hp} {i : Bool} {v : V} : Rp F (.d (.bool i)) v ↔ v = .bl i := by simp only [Rp, Da]
theorem rp_str {F : Hp} {i : Str} {v : V} : Rp F (.d (.str i)) v ↔ v = .str i := by simp only [Rp, Da]
theorem rp_lst {F : Hp} {ds : List PyData} {v : V} : Rp F (.d (.list ds)) v ↔ ∃ a xs, v = .ref a ∧ F a = some (.lst xs) ∧ DaL F ds xs := by simp only [Rp, Da]
theorem rp_tup {F : Hp} {ds : List PyData} {v : V} : Rp F (.d (.tuple ds)) v ↔ ∃ a xs, v = .ref a ∧ F a = some (.tup xs) ∧ DaL F ds xs := by simp only [Rp, Da]

/-! ints -/
theorem bin_I {op : Operator} {C : Int → Int → Prop} {g : Int → Int → V} {i j k : Int} (h : OpR X (binaryOp op) (rI C g)) (hc : C i j) (hk : g i j = .int k) : BinOk X op (I_ i) (I_ j) (I_ k) :=
  ⟨_, h, fun M H x y l hx hy Q q => by
    rw [rp_int] at hx hy
    exact ⟨i, j, hx, hy, hc, q _ H (Same.refl H) (by rw [rp_int]; exact hk)⟩⟩
theorem bin_I0 {op : Operator} {g : Int → Int → V} {i j k : Int} (h : OpR X (binaryOp op) (rI0 g)) (hk : g i j = .int k) : BinOk X op (I_ i) (I_ j) (I_ k) :=
  ⟨_, h, fun M H x y l hx hy Q q => by
    rw [rp_int] at hx hy
    exact ⟨i, j, hx, hy, q _ H (Same.refl H) (by rw [rp_int]; exact hk)⟩⟩
theorem b_add {i j : Int} : BinOk X .Add (I_ i) (I_ j) (I_ (i + j)) := bin_I0 op_add rfl
theorem b_sub {i j : Int} : BinOk X .Sub (I_ i) (I_ j) (I_ (i - j)) := bin_I0 op_sub rfl
theorem b_mul {i j : Int} (h : CMul i j) : BinOk X .Mult (I_ i) (I_ j) (I_ (i * j)) := bin_I op_mul h rfl
theorem b_mod {i j : Int} (h : 0 < j) : BinOk X .Mod (I_ i) (I_ j) (I_ (i % j)) := bin_I op_mod h rfl
theorem b_fdiv {i j : Int} (h : 0 < j ∧ j < 1073741824) : BinOk X .FloorDiv (I_ i) (I_ j) (I_ (i / j)) := bin_I op_fdiv h rfl
theorem b_pow {i j : Int} (h : CPow i j) : BinOk X .Pow (I_ i) (I_ j) (I_ (i ^ j.toNat)) := bin_I op_pow h rfl
theorem b_shl {i j : Int} (h : CPow i j) : BinOk X .LShift (I_ i) (I_ j) (I_ (i * 2 ^ j.toNat)) := bin_I op_shl h rfl
theorem b_shr {i j : Int} (h : 0 ≤ j) : BinOk X .RShift (I_ i) (I_ j) (I_ (i / 2 ^ j.toNat)) := bin_I op_shr h rfl
theorem b_and {i j : Int} : BinOk X .BitAnd (I_ i) (I_ j) (I_ (Builtin.bitAnd i j)) := bin_I0 op_and rfl
theorem b_xor {i j : Int} : BinOk X .BitXor (I_ i) (I_ j) (I_ (Builtin.bitXor i j)) := bin_I0 op_xor rfl
theorem u_neg {i : Int} : UnOk X .USub (I_ i) (I_ (-i)) := ⟨_, un_neg, fun M H x l hx Q q => by
  rw [rp_int] at hx
  exact ⟨i, hx, q _ H (Same.refl H) (by rw [rp_int])⟩⟩
/-! lists, tuples together -/
theorem b_catL {ds es : List PyData} (h : ds.length + es.length ≤ sizeLine) : BinOk X .Add (.d (.list ds)) (.d (.list es)) (.d (.list (ds ++ es))) :=
  ⟨_, op_cat, fun M H x y l hx hy Q q => by
    rw [rp_lst] at hx hy
    obtain ⟨a, xs, rfl, h1, h2⟩ := hx
    obtain ⟨b, ys, rfl, h3, h4⟩ := hy
    exact ⟨a, b, xs, ys, rfl, rfl, off_sub _ _ h1, off_sub _ _ h3, by rw [h2.length, h4.length]; exact h, yd_lst l (h2.append h4) q⟩⟩
theorem b_catT {ds es : List PyData} (h : ds.length + es.length ≤ sizeLine) : BinOk X .Add (.d (.tuple ds)) (.d (.tuple es)) (.d (.tuple (ds ++ es))) :=
  ⟨_, op_catA, fun M H x y l hx hy Q q => by
    rw [rp_tup] at hx hy
    obtain ⟨a, xs, rfl, h1, h2⟩ := hx
    obtain ⟨b, ys, rfl, h3, h4⟩ := hy
    refine ⟨a, b, xs, ys, rfl, rfl, SqT.of (off_sub _ _ h1), SqT.of (off_sub _ _ h3), by rw [h2.length, h4.length]; exact h, fun e => ?_, fun _ e => ?_, fun _ _ => yd_tup l (h2.append h4) q⟩
    · refine q _ H (Same.refl H) ?_
      rw [rp_tup]
      subst e
      have z : ds = [] := List.length_eq_zero_iff.mp h2.length.symm
      subst z
      exact ⟨b, ys, rfl, h3, h4⟩
    · refine q _ H (Same.refl H) ?_
      rw [rp_tup]
      subst e
      have z : es = [] := List.length_eq_zero_iff.mp h4.length.symm
      subst z
      rw [List.append_nil]
      exact ⟨a, xs, rfl, h1, h2⟩⟩
/-! comparisons -/
theorem cmp_I {op : CmpOp} {g : Int → Int → V} {i j : Int} {k : Bool} (h : OpR X (compareOp op) (rI0 g)) (hk : g i j = .bl k) : CmpOk X op (I_ i) (I_ j) k :=
  ⟨_, h, fun M H x y l hx hy Q q => by
    rw [rp_int] at hx hy
    exact ⟨i, j, hx, hy, q _ H (Same.refl H) (by rw [rp_bl]; exact hk)⟩⟩
theorem c_lt {i j : Int} : CmpOk X .Lt (I_ i) (I_ j) (decide (i < j)) := cmp_I op_lt rfl
theorem c_le {i j : Int} : CmpOk X .LtE (I_ i) (I_ j) (decide (i ≤ j)) := cmp_I op_le rfl
theorem c_gt {i j : Int} : CmpOk X .Gt (I_ i) (I_ j) (decide (j < i)) := cmp_I op_gt rfl
theorem c_ge {i j : Int} : CmpOk X .GtE (I_ i) (I_ j) (decide (j ≤ i)) := cmp_I op_ge rfl
theorem c_eqI {i j : Int} : CmpOk X .Eq (I_ i) (I_ j) (decide (i = j)) := ⟨_, op_eq, fun M H x y l hx hy Q q => by
  rw [rp_int] at hx hy
  subst hx hy
  exact ⟨rfl, q _ H (Same.refl H) (by rw [rp_bl]; rw [dec_int]; rw [Bool.beq_eq_decide_eq])⟩⟩
theorem c_neI {i j : Int} : CmpOk X .NotEq (I_ i) (I_ j) (!decide (i = j)) := ⟨_, op_ne, fun M H x y l hx hy Q q => by
  rw [rp_int] at hx hy
  subst hx hy
  exact ⟨rfl, q _ H (Same.refl H) (by rw [rp_bl]; rw [dec_int]; rw [Bool.beq_eq_decide_eq])⟩⟩
theorem c_eqB {i j : Bool} : CmpOk X .Eq (B_ i) (B_ j) (i == j) := ⟨_, op_eq, fun M H x y l hx hy Q q => by
  rw [rp_bl] at hx hy
  subst hx hy
  exact ⟨rfl, q _ H (Same.refl H) (by rw [rp_bl]; rw [dec_bl])⟩⟩
theorem c_eqD (hu : X.A.units + 64 < cLine) {d e : PyData} (hd : SeqAt.shaped d = true) (he : SeqAt.shaped e = true) : CmpOk X .Eq (.d d) (.d e) (PyData.eqv d e) :=
  ⟨_, op_eqD hu, fun M H x y l hx hy Q q => ⟨d, e, Da.dp d x (Da.mono off_sub d x hx), Da.dp e y (Da.mono off_sub e y hy), hd, he, q _ H (Same.refl H) (by rw [rp_bl])⟩⟩
theorem c_neD (hu : X.A.units + 64 < cLine) {d e : PyData} (hd : SeqAt.shaped d = true) (he : SeqAt.shaped e = true) : CmpOk X .NotEq (.d d) (.d e) (!PyData.eqv d e) :=
  ⟨_, op_neD hu, fun M H x y l hx hy Q q => ⟨d, e, Da.dp d x (Da.mono off_sub d x hx), Da.dp e y (Da.mono off_sub e y hy), hd, he, q _ H (Same.refl H) (by rw [rp_bl])⟩⟩
theorem c_isN {d : PyData} : CmpOk X .Is (.d d) (.d .none) (match d with | .none => true | _ => false) := ⟨_, op_isN, fun M H x y l hx hy Q q => by
  have hy : y = .non := by simpa only [Rp, Da] using hy
  refine ⟨hy, q _ H (Same.refl H) ?_⟩
  rw [rp_bl]
  cases d with
  | none => have hx : x = .non := by simpa only [Rp, Da] using hx
            subst hx; rfl
  | bool b => rw [rp_bl] at hx; subst hx; rfl
  | int b => rw [rp_int] at hx; subst hx; rfl
  | str b => rw [rp_str] at hx; subst hx; rfl
  | list b => rw [rp_lst] at hx; obtain ⟨a, xs, rfl, _⟩ := hx; rfl
  | tuple b => rw [rp_tup] at hx; obtain ⟨a, xs, rfl, _⟩ := hx; rfl
  | dict b => simp only [Rp, Da] at hx⟩
theorem inV_int {i : Int} {ns : List Int} : inV (.int i) (ns.map V.int) = decide (i ∈ ns) := by
  induction ns with
  | nil => rfl
  | cons n ns ih =>
    unfold inV at ih ⊢
    rw [List.map_cons, List.any_cons, ih]
    show ((n == i) || decide (i ∈ ns)) = _
    rw [Bool.eq_iff_iff]
    simp only [Bool.or_eq_true, beq_iff_eq, decide_eq_true_eq, List.mem_cons]
    exact ⟨fun h => h.elim (fun h => .inl h.symm) .inr, fun h => h.elim (fun h => .inl h.symm) .inr⟩
theorem inV_str {i : Str} {ns : List Str} : inV (.str i) (ns.map V.str) = decide (i ∈ ns) := by
  induction ns with
  | nil => rfl
  | cons n ns ih =>
    unfold inV at ih ⊢
    rw [List.map_cons, List.any_cons, ih]
    show ((n == i) || decide (i ∈ ns)) = _
    rw [Bool.eq_iff_iff]
    simp only [Bool.or_eq_true, beq_iff_eq, decide_eq_true_eq, List.mem_cons]
    exact ⟨fun h => h.elim (fun h => .inl h.symm) .inr, fun h => h.elim (fun h => .inl h.symm) .inr⟩
theorem flat_ints (ns : List Int) : (ns.map V.int).all flatV = true := by
  rw [List.all_map, List.all_eq_true]; intro x _; rfl
theorem flat_strs (ns : List Str) : (ns.map V.str).all flatV = true := by
  rw [List.all_map, List.all_eq_true]; intro x _; rfl
theorem c_inT {i : Int} {ns : List Int} : CmpOk X .In (I_ i) (.d (.tuple (ns.map .int))) (decide (i ∈ ns)) := ⟨_, op_in_seq, fun M H x y l hx hy Q q => by
  rw [rp_int] at hx; rw [rp_tup] at hy
  obtain ⟨a, xs, rfl, h1, h2⟩ := hy
  have e := h2.ints
  subst hx e
  exact ⟨a, _, rfl, .inr (SqT.of (off_sub _ _ h1)), rfl, flat_ints _, q _ H (Same.refl H) (by rw [rp_bl, if_neg (by decide), inV_int])⟩⟩
theorem c_niT {i : Int} {ns : List Int} : CmpOk X .NotIn (I_ i) (.d (.tuple (ns.map .int))) (!decide (i ∈ ns)) := ⟨_, op_notIn_seq, fun M H x y l hx hy Q q => by
  rw [rp_int] at hx; rw [rp_tup] at hy
  obtain ⟨a, xs, rfl, h1, h2⟩ := hy
  have e := h2.ints
  subst hx e
  exact ⟨a, _, rfl, .inr (SqT.of (off_sub _ _ h1)), rfl, flat_ints _, q _ H (Same.refl H) (by rw [rp_bl, if_pos rfl, inV_int])⟩⟩
theorem c_niL {i : Int} {ns : List Int} : CmpOk X .NotIn (I_ i) (.d (.list (ns.map .int))) (!decide (i ∈ ns)) := ⟨_, op_notIn_seq, fun M H x y l hx hy Q q => by
  rw [rp_int] at hx; rw [rp_lst] at hy
  obtain ⟨a, xs, rfl, h1, h2⟩ := hy
  have e := h2.ints
  subst hx e
  exact ⟨a, _, rfl, .inl (SqL.of (off_sub _ _ h1)), rfl, flat_ints _, q _ H (Same.refl H) (by rw [rp_bl, if_pos rfl, inV_int])⟩⟩
theorem c_niS {i : Str} {ns : List Str} : CmpOk X .NotIn (.d (.str i)) (.d (.tuple (ns.map .str))) (!decide (i ∈ ns)) := ⟨_, op_notIn_seq, fun M H x y l hx hy Q q => by
  rw [rp_str] at hx; rw [rp_tup] at hy
  obtain ⟨a, xs, rfl, h1, h2⟩ := hy
  have e := h2.strs
  subst hx e
  exact ⟨a, _, rfl, .inr (SqT.of (off_sub _ _ h1)), rfl, flat_strs _, q _ H (Same.refl H) (by rw [rp_bl, if_pos rfl, inV_str])⟩⟩
/-- t >= u, tuples of ints -/
def geL : List Int → List Int → Bool
  | _, [] => true
  | [], _ :: _ => false
  | x :: xs, y :: ys => if x = y then geL xs ys else decide (y ≤ x)
theorem lexAt_geL (e r : Nat → Bool) (z : Bool) : ∀ (xs ys : List Int) (i : Nat), (∀ j, e (i + j) = decide (xs.getD j 0 = ys.getD j 0)) → (∀ j, r (i + j) = decide (ys.getD j 0 ≤ xs.getD j 0)) → z = decide (ys.length ≤ xs.length) →
    Ob.lexAt e r z i (min xs.length ys.length) = geL xs ys
  | xs, [], i, _, _, hz => by
    rw [hz]
    cases xs <;> simp [Ob.lexAt, geL]
  | [], y :: ys, i, _, _, hz => by
    rw [hz]
    simp [Ob.lexAt, geL]
  | x :: xs, y :: ys, i, he, hr, hz => by
    have e0 := he 0
    have r0 := hr 0
    simp only [Nat.add_zero, List.getD_cons_zero] at e0 r0
    have m : min (x :: xs).length (y :: ys).length = min xs.length ys.length + 1 := by simp only [List.length_cons]; omega
    rw [m, Ob.lexAt_succ, e0, geL]
    by_cases c : x = y
    · rw [if_pos (decide_eq_true c), if_pos c]
      refine lexAt_geL e r z xs ys (i + 1) (fun j => ?_) (fun j => ?_) (by rw [hz]; simp only [List.length_cons]; congr 1; simp)
      · have h := he (j + 1)
        simp only [List.getD_cons_succ] at h
        rw [show i + 1 + j = i + (j + 1) by omega]; exact h
      · have h := hr (j + 1)
        simp only [List.getD_cons_succ] at h
        rw [show i + 1 + j = i + (j + 1) by omega]; exact h
    · rw [if_neg (by simp [c]), if_neg c, r0]
theorem op_geT (hu : X.A.units < cLine) : OpR X (compareOp .GtE) (fun x y H Q => ∃ (a b : Addr) (ns ms : List Int), x = .ref a ∧ y = .ref b ∧ SqT X.K H a (ns.map V.int) ∧ SqT X.K H b (ms.map V.int) ∧ Q (.bl (geL ns ms)) H) := by
  intro pins s σ H x y v u Q I rx ry h
  obtain ⟨a, b, ns, ms, rfl, rfl, ha, hb, q⟩ := h
  cases rx
  cases ry
  obtain ⟨its, r1, p1, _⟩ := I.tuple ha
  obtain ⟨its2, r2, p2, _⟩ := I.tuple hb
  have i1 : IntsAre its ns := Vals.ints r1
  have i2 : IntsAre its2 ms := Vals.ints r2
  have e1 : its.toArray.size = ns.length := by rw [List.size_toArray]; exact i1.length
  have e2 : its2.toArray.size = ms.length := by rw [List.size_toArray]; exact i2.length
  have k1 : ∀ (j : Nat) (h1 : j < its.toArray.size), ∃ t, its.toArray[j] = .int (ns.getD j 0) t := fun j h1 => PyProof.Rows.IntsAre.int_at i1 _ _ (by simp at h1; simp [h1])
  have k2 : ∀ (j : Nat) (h1 : j < its2.toArray.size), ∃ t, its2.toArray[j] = .int (ms.getD j 0) t := fun j h1 => PyProof.Rows.IntsAre.int_at i2 _ _ (by simp at h1; simp [h1])
  have R := Ob.RcOp.tuples_ge (A := X.A) (s := s) (e := fun j => decide (ns.getD j 0 = ms.getD j 0)) (r := fun j => decide (ms.getD j 0 ≤ ns.getD j 0)) p1 p2 hu (fun j h1 h2 => by
    obtain ⟨t, et⟩ := k1 j h1
    obtain ⟨t', et'⟩ := k2 j h2
    rw [et, et']
    show SeqAt.EqAt _ _ _ _ (decide (ns.getD j 0 = ms.getD j 0))
    rw [← Bool.beq_eq_decide_eq]
    exact SeqAt.EqAt.int_int _ _ _ _) (fun j h1 h2 _ => by
    obtain ⟨t, et⟩ := k1 j h1
    obtain ⟨t', et'⟩ := k2 j h2
    rw [et, et']
    exact Ob.RcOp.ge_int _ _ _ _)
  rw [e1, e2] at R
  rw [lexAt_geL _ _ _ ns ms 0 (fun j => by simp) (fun j => by simp) rfl] at R
  exact R X.prog X.w X.xe (EP X pins σ Q) ⟨.bl _, H, I, rfl, q⟩
theorem c_geT (hu : X.A.units + 64 < cLine) {ns ms : List Int} : CmpOk X .GtE (.d (.tuple (ns.map .int))) (.d (.tuple (ms.map .int))) (geL ns ms) := ⟨_, op_geT (by omega), fun M H x y l hx hy Q q => by
  rw [rp_tup] at hx hy
  obtain ⟨a, xs, rfl, h1, h2⟩ := hx
  obtain ⟨b, ys, rfl, h3, h4⟩ := hy
  have e := h2.ints
  have e' := h4.ints
  subst e e'
  exact ⟨a, b, ns, ms, rfl, rfl, SqT.of (off_sub _ _ h1), SqT.of (off_sub _ _ h3), q _ H (Same.refl H) (by rw [rp_bl])⟩⟩
/-! built-ins -/
theorem rpl_1 {F : Hp} {s : Sl} {vs : List V} (h : RpL F [s] vs) : ∃ v, vs = [v] ∧ Rp F s v := by
  obtain ⟨y, ys, rfl, h1, h2⟩ := h
  have h2 : ys = [] := h2
  subst h2
  exact ⟨y, rfl, h1⟩
theorem rpl_2 {F : Hp} {s s' : Sl} {vs : List V} (h : RpL F [s, s'] vs) : ∃ v u, vs = [v, u] ∧ Rp F s v ∧ Rp F s' u := by
  obtain ⟨y, ys, rfl, h1, h2⟩ := h
  obtain ⟨v, rfl, h3⟩ := rpl_1 h2
  exact ⟨y, v, rfl, h1, h3⟩
theorem f_len {ds : List PyData} : CalOk X (.builtin "len") [.d (.list ds)] (I_ ds.length) := ⟨_, call_len_seq, fun M H vs l h Q q => by
  (replace h := rpl_1 h); obtain ⟨v, rfl, h⟩ := h
  rw [rp_lst] at h
  obtain ⟨a, xs, rfl, h1, h2⟩ := h
  exact ⟨a, xs, rfl, .inl (SqL.of (off_sub _ _ h1)), q _ H (Same.refl H) (by rw [rp_int, h2.length])⟩⟩
theorem f_lenT {ds : List PyData} : CalOk X (.builtin "len") [.d (.tuple ds)] (I_ ds.length) := ⟨_, call_len_seq, fun M H vs l h Q q => by
  (replace h := rpl_1 h); obtain ⟨v, rfl, h⟩ := h
  rw [rp_tup] at h
  obtain ⟨a, xs, rfl, h1, h2⟩ := h
  exact ⟨a, xs, rfl, .inr (SqT.of (off_sub _ _ h1)), q _ H (Same.refl H) (by rw [rp_int, h2.length])⟩⟩
theorem f_sum (hc : X.calm = true) {ns : List Int} : CalOk X (.builtin "sum") [.d (.list (ns.map .int))] (I_ ns.sum) := ⟨_, cr_sum hc, fun M H vs l h Q q => by
  (replace h := rpl_1 h); obtain ⟨v, rfl, h⟩ := h
  rw [rp_lst] at h
  obtain ⟨a, xs, rfl, h1, h2⟩ := h
  have e := h2.ints
  subst e
  exact ⟨a, ns, rfl, SqL.of (off_sub _ _ h1), q _ H (Same.refl H) (by rw [rp_int])⟩⟩
theorem f_max (hc : X.calm = true) {ns : List Int} {m : Int} (hm : m ∈ ns) (hle : ∀ y ∈ ns, y ≤ m) : CalOk X (.builtin "max") [.d (.list (ns.map .int))] (I_ m) := ⟨_, cr_max hc, fun M H vs l h Q q => by
  (replace h := rpl_1 h); obtain ⟨v, rfl, h⟩ := h
  rw [rp_lst] at h
  obtain ⟨a, xs, rfl, h1, h2⟩ := h
  have e := h2.ints
  subst e
  refine ⟨a, ns, rfl, SqL.of (off_sub _ _ h1), List.length_pos_of_mem hm, fun m' h1 h2 => q _ H (Same.refl H) ?_⟩
  rw [rp_int, Int.le_antisymm (hle _ h1) (h2 _ hm)]⟩
theorem f_min (hc : X.calm = true) {ns : List Int} {m : Int} (hm : m ∈ ns) (hle : ∀ y ∈ ns, m ≤ y) : CalOk X (.builtin "min") [.d (.list (ns.map .int))] (I_ m) := ⟨_, cr_min hc, fun M H vs l h Q q => by
  (replace h := rpl_1 h); obtain ⟨v, rfl, h⟩ := h
  rw [rp_lst] at h
  obtain ⟨a, xs, rfl, h1, h2⟩ := h
  have e := h2.ints
  subst e
  refine ⟨a, ns, rfl, SqL.of (off_sub _ _ h1), List.length_pos_of_mem hm, fun m' h1 h2 => q _ H (Same.refl H) ?_⟩
  rw [rp_int, Int.le_antisymm (h2 _ hm) (hle _ h1)]⟩
theorem f_min2 (hc : X.calm = true) {i j : Int} : CalOk X (.builtin "min") [I_ i, I_ j] (I_ (if j < i then j else i)) := ⟨_, call_min2 hc, fun M H vs l h Q q => by
  obtain ⟨v, u, rfl, h1, h2⟩ := rpl_2 h
  rw [rp_int] at h1 h2
  subst h1 h2
  exact ⟨i, j, rfl, q _ H (Same.refl H) (by rw [rp_int])⟩⟩
theorem f_all (hc : X.calm = true) {bs : List Bool} : CalOk X (.builtin "all") [.d (.list (bs.map .bool))] (B_ (bs.all id)) := ⟨_, cr_all hc, fun M H vs l h Q q => by
  (replace h := rpl_1 h); obtain ⟨v, rfl, h⟩ := h
  rw [rp_lst] at h
  obtain ⟨a, xs, rfl, h1, h2⟩ := h
  have e := h2.bools
  subst e
  exact ⟨a, bs, rfl, SqL.of (off_sub _ _ h1), q _ H (Same.refl H) (by rw [rp_bl])⟩⟩
theorem f_any (hc : X.calm = true) {bs : List Bool} : CalOk X (.builtin "any") [.d (.list (bs.map .bool))] (B_ (bs.any id)) := ⟨_, cr_any hc, fun M H vs l h Q q => by
  (replace h := rpl_1 h); obtain ⟨v, rfl, h⟩ := h
  rw [rp_lst] at h
  obtain ⟨a, xs, rfl, h1, h2⟩ := h
  have e := h2.bools
  subst e
  exact ⟨a, bs, rfl, SqL.of (off_sub _ _ h1), q _ H (Same.refl H) (by rw [rp_bl])⟩⟩
theorem f_int {i : Int} : CalOk X (.type "int") [I_ i] (I_ i) := ⟨_, call_int1, fun M H vs l h Q q => by
  (replace h := rpl_1 h); obtain ⟨v, rfl, h⟩ := h
  rw [rp_int] at h
  subst h
  exact .inl ⟨i, rfl, q _ H (Same.refl H) (by rw [rp_int])⟩⟩
theorem f_tuple {ds : List PyData} : CalOk X (.type "tuple") [.d (.list ds)] (.d (.tuple ds)) := ⟨_, call_tuple_of, fun M H vs l h Q q => by
  (replace h := rpl_1 h); obtain ⟨v, rfl, h⟩ := h
  rw [rp_lst] at h
  obtain ⟨a, xs, rfl, h1, h2⟩ := h
  exact ⟨a, xs, rfl, .inl ⟨SqL.of (off_sub _ _ h1), yd_tup l h2 q⟩⟩⟩
theorem f_listL {ds : List PyData} : CalOk X (.type "list") [.d (.list ds)] (.d (.list ds)) := ⟨_, call_list_of, fun M H vs l h Q q => by
  (replace h := rpl_1 h); obtain ⟨v, rfl, h⟩ := h
  rw [rp_lst] at h
  obtain ⟨a, xs, rfl, h1, h2⟩ := h
  exact ⟨a, xs, rfl, .inl (SqL.of (off_sub _ _ h1)), yd_lst l h2 q⟩⟩
theorem f_listT {ds : List PyData} : CalOk X (.type "list") [.d (.tuple ds)] (.d (.list ds)) := ⟨_, call_list_of, fun M H vs l h Q q => by
  (replace h := rpl_1 h); obtain ⟨v, rfl, h⟩ := h
  rw [rp_tup] at h
  obtain ⟨a, xs, rfl, h1, h2⟩ := h
  exact ⟨a, xs, rfl, .inr (SqT.of (off_sub _ _ h1)), yd_lst l h2 q⟩⟩
/-! isinstance -/
def tyD : PyData → String
  | .none => "NoneType" | .bool _ => "bool" | .int _ => "int" | .str _ => "str" | .list _ => "list" | .tuple _ => "tuple" | .dict _ => "dict"
theorem tyx_of {K : PySem.W.Frag} {F H : Hp} (e : Same F H) {d : PyData} {v : V} (h : Da F d v) : TyX K H v (.type (tyD d)) := by
  cases d with
  | none => simp only [Da] at h; subst h; exact .base .non
  | bool b => simp only [Da] at h; subst h; exact .base (.bl b)
  | int b => simp only [Da] at h; subst h; exact .base (.int b)
  | str b => simp only [Da] at h; subst h; exact .base (.str b)
  | list b => simp only [Da] at h; obtain ⟨a, xs, rfl, h1, _⟩ := h; exact .base (.lst (e _ _ h1))
  | tuple b => simp only [Da] at h; obtain ⟨a, xs, rfl, h1, _⟩ := h; exact .base (.tup (e _ _ h1))
  | dict b => simp only [Da] at h
theorem f_isi {d : PyData} {n : String} {b : Bool} (hk : kitB (tyD d) n = some b) : CalOk X (.builtin "isinstance") [.d d, .v (.ty n)] (B_ b) := ⟨_, call_isi, fun M H vs l h Q q => by
  obtain ⟨v, u, rfl, h1, h2⟩ := rpl_2 h
  have h2 : u = .ty n := h2
  subst h2
  exact ⟨v, .ty n, _, _, b, rfl, .ty n, tyx_of off_sub h1, kit_ty hk, q _ H (Same.refl H) (by rw [rp_bl])⟩⟩
def isTup : PyData → Bool | .tuple _ => true | _ => false
def isInt' : PyData → Bool | .int _ => true | .bool _ => true | _ => false
def isBl : PyData → Bool | .bool _ => true | _ => false
def isStr : PyData → Bool | .str _ => true | _ => false
theorem f_isTup {d : PyData} (hd : ∀ k, d ≠ .dict k) : CalOk X (.builtin "isinstance") [.d d, .v (.ty "tuple")] (B_ (isTup d)) := by
  cases d with
  | none => exact f_isi (by exact (by decide +kernel : kitB "NoneType" "tuple" = some false))
  | bool b => exact f_isi (by exact (by decide +kernel : kitB "bool" "tuple" = some false))
  | int b => exact f_isi (by exact (by decide +kernel : kitB "int" "tuple" = some false))
  | str b => exact f_isi (by exact (by decide +kernel : kitB "str" "tuple" = some false))
  | list b => exact f_isi (by exact (by decide +kernel : kitB "list" "tuple" = some false))
  | tuple b => exact f_isi (by exact (by decide +kernel : kitB "tuple" "tuple" = some true))
  | dict k => exact absurd rfl (hd k)
theorem f_isInt {d : PyData} (hd : ∀ k, d ≠ .dict k) : CalOk X (.builtin "isinstance") [.d d, .v (.ty "int")] (B_ (isInt' d)) := by
  cases d with
  | none => exact f_isi (by exact (by decide +kernel : kitB "NoneType" "int" = some false))
  | bool b => exact f_isi (by exact (by decide +kernel : kitB "bool" "int" = some true))
  | int b => exact f_isi (by exact (by decide +kernel : kitB "int" "int" = some true))
  | str b => exact f_isi (by exact (by decide +kernel : kitB "str" "int" = some false))
  | list b => exact f_isi (by exact (by decide +kernel : kitB "list" "int" = some false))
  | tuple b => exact f_isi (by exact (by decide +kernel : kitB "tuple" "int" = some false))
  | dict k => exact absurd rfl (hd k)
theorem f_isBl {d : PyData} (hd : ∀ k, d ≠ .dict k) : CalOk X (.builtin "isinstance") [.d d, .v (.ty "bool")] (B_ (isBl d)) := by
  cases d with
  | none => exact f_isi (by exact (by decide +kernel : kitB "NoneType" "bool" = some false))
  | bool b => exact f_isi (by exact (by decide +kernel : kitB "bool" "bool" = some true))
  | int b => exact f_isi (by exact (by decide +kernel : kitB "int" "bool" = some false))
  | str b => exact f_isi (by exact (by decide +kernel : kitB "str" "bool" = some false))
  | list b => exact f_isi (by exact (by decide +kernel : kitB "list" "bool" = some false))
  | tuple b => exact f_isi (by exact (by decide +kernel : kitB "tuple" "bool" = some false))
  | dict k => exact absurd rfl (hd k)
theorem f_isStr {d : PyData} (hd : ∀ k, d ≠ .dict k) : CalOk X (.builtin "isinstance") [.d d, .v (.ty "str")] (B_ (isStr d)) := by
  cases d with
  | none => exact f_isi (by exact (by decide +kernel : kitB "NoneType" "str" = some false))
  | bool b => exact f_isi (by exact (by decide +kernel : kitB "bool" "str" = some false))
  | int b => exact f_isi (by exact (by decide +kernel : kitB "int" "str" = some false))
  | str b => exact f_isi (by exact (by decide +kernel : kitB "str" "str" = some true))
  | list b => exact f_isi (by exact (by decide +kernel : kitB "list" "str" = some false))
  | tuple b => exact f_isi (by exact (by decide +kernel : kitB "tuple" "str" = some false))
  | dict k => exact absurd rfl (hd k)
theorem e_bty {x : Str} {n : String} {W : List Ow} {ρ : Rho} {pos : Pos} (hm : X.mg x = none) (hv : bootBuiltins x = some (.type n)) (hg : Gl X x := by rfl) (hn : x ≠ "__name__" := by decide) (hd : (x == ("__debug__" : Str)) = false := by decide) : PE X (.Name x pos) (tE W ρ (.v (.ty n)) W) :=
  e_c (pe_bltn (v := .ty n) hg hm hv rfl hn hd) fun F => rfl
/-! subscripts -/
theorem atI_len {α β : Type} {xs : List α} {ys : List β} (h : xs.length = ys.length) {i : Int} : ixN xs.length i = ixN ys.length i := by rw [h]
theorem DaL.atI {F : Hp} {ds : List PyData} {xs : List V} {i : Int} {d : PyData} (h : DaL F ds xs) (e : L2.atI ds i = some d) : ∃ v, L2.atI xs i = some v ∧ Da F d v := by
  unfold L2.atI at e ⊢
  rw [h.length]
  cases q : ixN ds.length i with
  | none => rw [q] at e; cases e
  | some j =>
    rw [q] at e
    exact h.get e
theorem x_lst {ds : List PyData} {i : Int} {d : PyData} (h : atI ds i = some d) : IxOk X (.d (.list ds)) (I_ i) (.d d) := ⟨_, ix_list, fun M H x y l hx hy Q q => by
  rw [rp_lst] at hx; rw [rp_int] at hy
  obtain ⟨a, xs, rfl, h1, h2⟩ := hx
  subst hy
  obtain ⟨v, e1, e2⟩ := h2.atI h
  exact ⟨a, xs, i, v, rfl, rfl, SqL.of (off_sub _ _ h1), e1, q v H (Same.refl H) e2⟩⟩
theorem x_tup {ds : List PyData} {i : Int} {d : PyData} (h : atI ds i = some d) : IxOk X (.d (.tuple ds)) (I_ i) (.d d) := ⟨_, ix_tup, fun M H x y l hx hy Q q => by
  rw [rp_tup] at hx; rw [rp_int] at hy
  obtain ⟨a, xs, rfl, h1, h2⟩ := hx
  subst hy
  obtain ⟨v, e1, e2⟩ := h2.atI h
  exact ⟨a, xs, i, v, rfl, rfl, SqT.of (off_sub _ _ h1), e1, q v H (Same.refl H) e2⟩⟩
def cutA {α : Type} (xs : List α) (lo hi : Option Int) : List α := (xs.drop (HT.sIx xs.length 0 lo)).take (HT.sIx xs.length xs.length hi - HT.sIx xs.length 0 lo)
theorem DaL.cut {F : Hp} {ds : List PyData} {xs : List V} (h : DaL F ds xs) (lo hi : Option Int) : DaL F (cutA ds lo hi) (cutV xs lo hi) := by
  unfold cutA cutV
  rw [h.length]
  exact (h.drop _).take _
theorem s_lst {ds : List PyData} {lo hi : Option Int} : SlOk X (.d (.list ds)) lo hi (.d (.list (cutA ds lo hi))) := ⟨_, sl_list, fun M H x l hx Q q => by
  rw [rp_lst] at hx
  obtain ⟨a, xs, rfl, h1, h2⟩ := hx
  exact ⟨a, xs, rfl, SqL.of (off_sub _ _ h1), yd_lst l (h2.cut lo hi) q⟩⟩
theorem s_tup {ds : List PyData} {lo hi : Option Int} : SlOk X (.d (.tuple ds)) lo hi (.d (.tuple (cutA ds lo hi))) := ⟨_, sl_tupA, fun M H x l hx Q q => by
  rw [rp_tup] at hx
  obtain ⟨a, xs, rfl, h1, h2⟩ := hx
  refine ⟨a, xs, rfl, SqT.of (off_sub _ _ h1), fun w => q _ H (Same.refl H) ?_, fun _ => yd_tup l (h2.cut lo hi) q⟩
  rw [rp_tup]
  have e : cutA ds lo hi = ds := by
    unfold cutA
    rw [h2.length] at w
    rw [w.1, w.2, List.drop_zero, Nat.sub_zero, List.take_length]
  rw [e]
  exact ⟨a, xs, rfl, h1, h2⟩⟩
end
end SG
set_option Elab.async false
set_option linter.all false
set_option maxRecDepth 100000
set_option maxHeartbeats 4000000
/-! enumerate(tuple), zip(list, tuple) as walked things -/
namespace PySem
open Sem (wp)
theorem meets_enum1 {v : Value} {o : Obj} {H : Heap → Prop} (B : Begins v o H) :
    Meets (Builtin.«enumerate.__new__» ⟨[.type "enumerate", v], []⟩) (fun _ R s => H s.heap ∧
      R (.ok (.ret (.ref (s.heap.push o).objs.size))) { s with heap := (s.heap.push o).push { cls := .type "enumerate", data := .fields #[.none, .bool false, .ref s.heap.objs.size, rawInt 0, .none, .none] } }) :=
  .of_wp fun prog w A R s h => by
    obtain ⟨hp, g, d, tk, os⟩ := s; obtain ⟨h1, h⟩ := h
    have hsub := sub_enumerate
    have qi : ∀ {A' : Around} {E : Value → Shared → Prop} {Q : Value → Shared → Prop}, Q (.ref hp.objs.size) ⟨hp.push o, g, d, tk, os⟩ → wpAny (model prog w) A' (pyIter v) Q E ⟨hp, g, d, tk, os⟩ :=
      fun q => B.iter prog w _ _ ⟨hp, g, d, tk, os⟩ _ h1 q
    wp_walk using qi
    refine wpAny_stack_any fun st => wpAny_pure ?_
    split
    · rename_i c _ _ _ _ _
      cases (c == Value.type "enumerate")
      all_goals
        wp_walk using qi
        exact ⟨_, rfl, h⟩
    · wp_walk using qi
      exact ⟨_, rfl, h⟩
theorem call_enum1 {prog : Program} {w : World} {A : Around} {E : Value → Shared → Prop} {s : Shared} {v : Value} {o : Obj} {H : Heap → Prop} {Q : Value → Shared → Prop} (B : Begins v o H) (h1 : H s.heap)
    (h : ∀ h', IsEnum h' (s.heap.objs.size + 1) s.heap.objs.size 0 .none → h'.get? s.heap.objs.size = some o → h'.objs.size = s.heap.objs.size + 2 →
      (∀ b o, s.heap.get? b = some o → h'.get? b = some o) → Q (.ref (s.heap.objs.size + 1)) { s with heap := h' }) :
    wpAny (model prog w) A (call (.type "enumerate") [v]) Q E s := by
  refine callType_new F.called_enumerate (by decide) (F.typeCall_enumerate_1 _) (F.newCall_enumerate_1 _) (fun obj => F.args_object_init_2 obj _) F.entry_enumerate_new (meets_enum1 B) ⟨h1, ?_⟩
  have hz : (s.heap.push o).objs.size = s.heap.objs.size + 1 := Heap.size_push ..
  show _ ∧ _
  rw [hz]
  have he : IsEnum ((s.heap.push o).push { cls := .type "enumerate", data := .fields #[.none, .bool false, .ref s.heap.objs.size, rawInt 0, .none, .none] }) (s.heap.objs.size + 1) s.heap.objs.size 0 .none := by
    have z := Heap.get?_push_size (s.heap.push o) (o := { cls := .type "enumerate", data := .fields #[.none, .bool false, .ref s.heap.objs.size, rawInt 0, .none, .none] }) rfl
    rw [hz] at z
    exact z
  exact ⟨⟨_, he, rfl⟩, h _ he (Heap.get?_push_of_some _ (Heap.get?_push_size _ B.free)) (by rw [Heap.size_push, hz]) fun b o x => Heap.get?_push_of_some _ (Heap.get?_push_of_some _ x)⟩
end PySem
namespace SG
open PySem PySem.Spec PyProof.Rows L2
def ItET (a : Addr) (xs : List V) : It :=
  ⟨fun i H => H a = some (.tup xs) ∧ i < xs.length, fun i H v H' => ∃ T x, v = .ref T ∧ H T = none ∧ H' = upd H T (.tup [.int (i : Nat), x]) ∧ xs[i]? = some x, fun i H => H a = some (.tup xs) ∧ i = xs.length⟩
theorem turn_enumT {P : Program} {w : World} {K : PySem.W.Frag} {elts : List Expr} {kk : Nat} {tpos : Pos} (a e it : Addr) (xs : List V) :
    Turn P w K (.Tuple elts kk tpos) (ItET a xs) [e, it] e (fun i h => (∃ old, IsEnum h e it (0 + (i : Int)) old) ∧ h.IsTupleIter it a i ∧ e ≠ it) where
  mem := by simp
  obj := fun i h st b hb => by
    obtain ⟨⟨old, he⟩, ⟨o, ho, hc, hd⟩, _⟩ := st
    have q : b = e ∨ b = it := by simpa using hb
    rcases q with z | z
    · rw [z]; exact ⟨_, he, fun v q => nomatch q⟩
    · rw [z]; exact ⟨o, ho, fun v q => by rw [hd] at q; cases q⟩
  keep := fun i h h' st k => let ⟨⟨old, he⟩, hi, hne⟩ := st; ⟨⟨old, k e (by simp) _ he⟩, hi.at fun o q => k it (by simp) o q, hne⟩
  item := by
    intro X hP hw hK hc i pins s σ H E I hf st hg
    subst hP hw hK
    obtain ⟨he, hit, hne⟩ := st
    obtain ⟨hq, hlt⟩ := hg
    obtain ⟨its, rv, p, hz⟩ := I.tuple (SqT.of hq)
    have hl := rv.length
    have f1 : H it = none := (hf it (by simp)).1
    have f2 : H e = none := (hf e (by simp)).1
    have ai : a ≠ it := fun z => by rw [z, f1] at hq; cases hq
    have ae : e ≠ a := fun z => by rw [← z, f2] at hq; cases hq
    have G := GoesN.enumFrom (elts := elts) (x1 := kk) (pos := tpos) 0 (Draws.tuple (prog := X.prog) (w := X.w) (A := X.A.in1) (I.ok.hd hc) it a ai its.toArray) e hne (by simp [hne, ae]) (by simp)
    refine G.goes i s _ E (by simp; omega) ⟨he, hit, p⟩ fun v h' tk hY hst hk _ => ?_
    obtain ⟨T, t, x, rfl, hT, hx, hTu⟩ := hY
    obtain ⟨he', hit', hp'⟩ := hst
    have hx' : its[i]? = some x := by simpa using hx
    obtain ⟨y, hy⟩ : ∃ y, xs[i]? = some y := ⟨_, List.getElem?_eq_getElem hlt⟩
    obtain ⟨u, hu, ru⟩ := rv.get hy
    rw [hx'] at hu; cases hu
    have zi : (0 : Int) + (i : Int) = ((i : Nat) : Int) := by omega
    rw [zi] at hTu
    have new : ObjOk X.prog X.w (upd H T (.tup [.int (i : Nat), y])) h' T (.tup [.int (i : Nat), y]) :=
      ⟨by show 2 ≤ sizeLine; decide, [.int i t, x], .cons ⟨_, rfl⟩ (.cons ru .nil), hTu⟩
    have I1 := I.turnedNew (t' := tk) (ch := [e, it]) hk hf hT new
    refine ⟨.ref T, _, I1, rfl, ⟨T, y, rfl, I.hok.fresh hT, rfl, hy⟩, ⟨?_, hit', hne⟩, fun b hb => ?_⟩
    · have e1 : (0 : Int) + (((i + 1 : Nat)) : Int) = 0 + ((i + 1 : Nat) : Int) := rfl
      exact he'
    · have hn : b ≠ T := fun z => by
        have hlt2 : b < s.heap.objs.size := by
          have q : b = e ∨ b = it := by simpa using hb
          rcases q with q | q
          · rw [q]; obtain ⟨old, he⟩ := he; exact Heap.lt_size he
          · rw [q]; obtain ⟨_, z, _⟩ := hit; exact Heap.lt_size z
        exact Nat.lt_irrefl _ (Nat.lt_of_lt_of_le hlt2 (by rw [z]; exact hT))
      rw [upd_ne hn]
      exact (hf b hb).1
  done := by
    intro X hP hw hK hc i pins s σ H E I hf st hg
    subst hP hw hK
    obtain ⟨he, hit, hne⟩ := st
    obtain ⟨hq, hlt⟩ := hg
    obtain ⟨its, rv, p, hz⟩ := I.tuple (SqT.of hq)
    have hl := rv.length
    have f1 : H it = none := (hf it (by simp)).1
    have f2 : H e = none := (hf e (by simp)).1
    have ai : a ≠ it := fun z => by rw [z, f1] at hq; cases hq
    have ae : e ≠ a := fun z => by rw [← z, f2] at hq; cases hq
    have G := GoesN.enumFrom (elts := elts) (x1 := kk) (pos := tpos) 0 (Draws.tuple (prog := X.prog) (w := X.w) (A := X.A.in1) (I.ok.hd hc) it a ai its.toArray) e hne (by simp [hne, ae]) (by simp)
    have hn : its.toArray.size = i := by simp; omega
    refine G.stops s _ E ?_ fun h' tk hk _ => I.turnedL (t' := tk) (ch := [e, it]) hk hf
    rw [hn]
    exact ⟨he, hit, p⟩
  self := fun A i s Q E st h => let ⟨⟨_, he⟩, _⟩ := st; wpAny_pyIter_enum he h
def iEnumT (ta : TA) : TI := fun σ H R => ta σ H fun vs H1 => ∃ a xs, vs = [.ref a] ∧ H1 a = some (.tup xs) ∧ R (ItET a xs) H1
theorem pi_enumT {X : Cx} {e : Expr} {ta : TA} {p pos tpos : Pos} {elts : List Expr} {kk : Nat} (hg : Gl X "enumerate") (hm : X.mg "enumerate" = none) (ha : PA X [e] ta) (hs : starEach [e] X.env = [(false, eval e X.env)] := by rfl) :
    PI X (.Tuple elts kk tpos) (.Call (.Name "enumerate" p) [e] [] pos) (iEnumT ta) := by
  refine ⟨fun pins s σ H R I h => ?_⟩
  refine Call_ (ld_blt I hg hm boot_enumerate (PyProof.Rows.callWith_type1 (thn (ha.run pos pins s σ H _ I h) fun us s1 ⟨vs, H1, I1, r1, q1⟩ => ?_) hs rfl))
  obtain ⟨a, xs, ex, hq, q⟩ := q1
  subst ex
  cases r1 with
  | cons r rr =>
    cases rr
    cases r
    obtain ⟨its, rv, p', hz⟩ := I1.tuple (SqT.of hq)
    refine call_enum1 (begins_tuple a its.toArray) p' fun h' he hit hsz hk => wpAny_pyIter_enum he ?_
    have I2 : Inv X pins σ H1 { s1 with heap := h' } := I1.kept (t' := s1.toks) hk
    refine ⟨s1.heap.objs.size + 1, [s1.heap.objs.size + 1, s1.heap.objs.size], _, _, H1, rfl, I2, turn_enumT a (s1.heap.objs.size + 1) s1.heap.objs.size xs, ⟨⟨.none, he⟩, ⟨_, hit, rfl, rfl⟩, Nat.succ_ne_self _⟩, fun b hb => ?_, q⟩
    have hle : s1.heap.objs.size ≤ b := by
      have q : b = s1.heap.objs.size + 1 ∨ b = s1.heap.objs.size := by simpa using hb
      rcases q with z | z <;> rw [z]
      · exact Nat.le_add_right _ _
      · exact Nat.le_refl _
    exact I1.fpOk hle (I1.hok.fresh hle)
/-! zip(list, tuple) -/
def ItZM (a b : Addr) (xs ys : List V) : It :=
  ⟨fun i H => H a = some (.lst xs) ∧ H b = some (.tup ys) ∧ i < min xs.length ys.length, fun i H v H' => ∃ T x y, v = .ref T ∧ H T = none ∧ H' = upd H T (.tup [x, y]) ∧ xs[i]? = some x ∧ ys[i]? = some y,
    fun i H => H a = some (.lst xs) ∧ H b = some (.tup ys) ∧ i = min xs.length ys.length⟩
theorem zipm_sep {z TI TO i1 i2 a b : Addr} (D : ZipApart z TI TO i1 i2 a b) (h : a ≠ z ∧ a ≠ TO ∧ b ≠ z ∧ b ≠ TO ∧ b ≠ i1 ∧ a ≠ i2 ∧ i1 ≠ i2 ∧ i1 ≠ z ∧ i1 ≠ TO ∧ i2 ≠ z ∧ i2 ≠ TO) : ZipSep2 z TI TO i1 i2 [i1, a] [i2, b] := by
  obtain ⟨h1, h2, h3, h4, h5, h6, h7, h8, h9, h10, h11⟩ := h
  constructor <;> first
    | exact D.TIz | exact D.TOz | exact D.TITO | exact D.TIi1 | exact D.TIi2
    | (simp; done)
    | (simp only [List.mem_cons, List.not_mem_nil, or_false, not_or]; refine ⟨?_, ?_⟩ <;> first | assumption | (intro q; subst q; contradiction))
    | assumption
theorem turn_zipM {P : Program} {w : World} {K : PySem.W.Frag} {elts : List Expr} {kk : Nat} {tpos : Pos} {a b z TI TO i1 i2 : Addr} {xs ys : List V} (D : ZipApart z TI TO i1 i2 a b) (hi1 : i1 ≠ i2 ∧ i1 ≠ z ∧ i1 ≠ TO ∧ i2 ≠ z ∧ i2 ≠ TO) :
    Turn P w K (.Tuple elts kk tpos) (ItZM a b xs ys) [z, TI, TO, i1, i2] z (fun i h => IsZip h z TI TO .none ∧ IsTupOf2 h TI (.ref i1) (.ref i2) ∧ (∃ x y, IsTupOf2 h TO x y) ∧ h.IsListIter i1 a i ∧ h.IsTupleIter i2 b i) where
  mem := by simp
  obj := fun i h st c hc => by
    obtain ⟨hz, hTI, ⟨x, y, hTO⟩, ⟨o1, e1, _, d1⟩, ⟨o2, e2, _, d2⟩⟩ := st
    have q : c = z ∨ c = TI ∨ c = TO ∨ c = i1 ∨ c = i2 := by simpa using hc
    rcases q with q | q | q | q | q <;> rw [q]
    · exact ⟨_, hz, fun v q => nomatch q⟩
    · exact ⟨_, hTI, fun v q => nomatch q⟩
    · exact ⟨_, hTO, fun v q => nomatch q⟩
    · exact ⟨o1, e1, fun v q => by rw [d1] at q; cases q⟩
    · exact ⟨o2, e2, fun v q => by rw [d2] at q; cases q⟩
  keep := fun i h h' st k => by
    obtain ⟨hz, hTI, ⟨x, y, hTO⟩, h1, h2⟩ := st
    exact ⟨k z (by simp) _ hz, k TI (by simp) _ hTI, ⟨x, y, k TO (by simp) _ hTO⟩, h1.at fun o q => k i1 (by simp) o q, h2.at fun o q => k i2 (by simp) o q⟩
  item := by
    intro X hP hw hK hc i pins s σ H E I hf st hg
    subst hP hw hK
    obtain ⟨hz, hTI, hTO, h1, h2⟩ := st
    obtain ⟨hqx, hqy, hlt⟩ := hg
    obtain ⟨its, rv, p, _⟩ := I.list (SqL.of hqx)
    obtain ⟨its2, rv2, p2, _⟩ := I.tuple (SqT.of hqy)
    have l1 := rv.length
    have l2 := rv2.length
    have nA : ∀ c ∈ [z, TI, TO, i1, i2], a ≠ c ∧ b ≠ c := fun c hc => ⟨fun q => (by rw [q, (hf c hc).1] at hqx; cases hqx), fun q => (by rw [q, (hf c hc).1] at hqy; cases hqy)⟩
    obtain ⟨n1, n2, n3, n4, n5⟩ := hi1
    have S := zipm_sep D ⟨(nA z (by simp)).1, (nA TO (by simp)).1, (nA z (by simp)).2, (nA TO (by simp)).2, (nA i1 (by simp)).2, (nA i2 (by simp)).1, n1, n2, n3, n4, n5⟩
    have G := GoesN.zip2 (elts := elts) (x1 := kk) (pos := tpos) S (Draws.list (prog := X.prog) (w := X.w) (A := X.A.in1) (I.ok.hd hc) i1 a (nA i1 (by simp)).1 its.toArray) (Draws.tuple (prog := X.prog) (w := X.w) (A := X.A.in1) (I.ok.hd hc) i2 b (nA i2 (by simp)).2 its2.toArray)
    refine G.goes i s _ E (by simp only [List.size_toArray]; omega) ⟨hz, hTI, hTO, ⟨h1, p.isList⟩, ⟨h2, p2⟩⟩ fun v h' tk hY hst hk _ => ?_
    obtain ⟨T, x, y, rfl, hT, hx, hy, hTu⟩ := hY
    obtain ⟨hz', hTI', hTO', ⟨h1', _⟩, ⟨h2', _⟩⟩ := hst
    have hx' : its[i]? = some x := by simpa using hx
    have hy' : its2[i]? = some y := by simpa using hy
    obtain ⟨x', ex⟩ : ∃ y, xs[i]? = some y := ⟨_, List.getElem?_eq_getElem (by omega)⟩
    obtain ⟨y', ey⟩ : ∃ y, ys[i]? = some y := ⟨_, List.getElem?_eq_getElem (by omega)⟩
    obtain ⟨u, hu, ru⟩ := rv.get ex
    rw [hx'] at hu; cases hu
    obtain ⟨u, hu, ru2⟩ := rv2.get ey
    rw [hy'] at hu; cases hu
    have new : ObjOk X.prog X.w (upd H T (.tup [x', y'])) h' T (.tup [x', y']) := ⟨by show 2 ≤ sizeLine; decide, [x, y], .cons ru (.cons ru2 .nil), hTu⟩
    have I1 := I.turnedNew (t' := tk) (ch := [z, TI, TO, i1, i2]) (fun c o hc q => hk c o (fun m => hc (by
      have q : c = z ∨ c = TO ∨ c = i1 ∨ c = i2 := by simpa using m
      rcases q with q | q | q | q <;> simp [q])) q) hf hT new
    refine ⟨.ref T, _, I1, rfl, ⟨T, x', y', rfl, I.hok.fresh hT, rfl, ex, ey⟩, ⟨hz', hTI', hTO', h1', h2'⟩, fun c hc => ?_⟩
    have hn : c ≠ T := fun q => by
      have hlt2 : c < s.heap.objs.size := by
        have q : c = z ∨ c = TI ∨ c = TO ∨ c = i1 ∨ c = i2 := by simpa using hc
        rcases q with q | q | q | q | q <;> rw [q]
        · exact Heap.lt_size hz
        · exact Heap.lt_size hTI
        · obtain ⟨_, _, e⟩ := hTO; exact Heap.lt_size e
        · obtain ⟨_, e, _⟩ := h1; exact Heap.lt_size e
        · obtain ⟨_, e, _⟩ := h2; exact Heap.lt_size e
      exact Nat.lt_irrefl _ (Nat.lt_of_lt_of_le hlt2 (by rw [q]; exact hT))
    rw [upd_ne hn]
    exact (hf c hc).1
  done := by
    intro X hP hw hK hc i pins s σ H E I hf st hg
    subst hP hw hK
    obtain ⟨hz, hTI, hTO, h1, h2⟩ := st
    obtain ⟨hqx, hqy, hlt⟩ := hg
    obtain ⟨its, rv, p, _⟩ := I.list (SqL.of hqx)
    obtain ⟨its2, rv2, p2, _⟩ := I.tuple (SqT.of hqy)
    have l1 := rv.length
    have l2 := rv2.length
    have nA : ∀ c ∈ [z, TI, TO, i1, i2], a ≠ c ∧ b ≠ c := fun c hc => ⟨fun q => (by rw [q, (hf c hc).1] at hqx; cases hqx), fun q => (by rw [q, (hf c hc).1] at hqy; cases hqy)⟩
    obtain ⟨n1, n2, n3, n4, n5⟩ := hi1
    have S := zipm_sep D ⟨(nA z (by simp)).1, (nA TO (by simp)).1, (nA z (by simp)).2, (nA TO (by simp)).2, (nA i1 (by simp)).2, (nA i2 (by simp)).1, n1, n2, n3, n4, n5⟩
    have G := GoesN.zip2 (elts := elts) (x1 := kk) (pos := tpos) S (Draws.list (prog := X.prog) (w := X.w) (A := X.A.in1) (I.ok.hd hc) i1 a (nA i1 (by simp)).1 its.toArray) (Draws.tuple (prog := X.prog) (w := X.w) (A := X.A.in1) (I.ok.hd hc) i2 b (nA i2 (by simp)).2 its2.toArray)
    have hn : min its.toArray.size its2.toArray.size = i := by simp only [List.size_toArray]; omega
    refine G.stops s _ E ?_ fun h' tk hk _ => I.turnedL (t' := tk) (ch := [z, TI, TO, i1, i2]) (fun c o hc q => hk c o (fun m => hc (by
      have q : c = z ∨ c = TO ∨ c = i1 ∨ c = i2 := by simpa using m
      rcases q with q | q | q | q <;> simp [q])) q) hf
    rw [hn]
    exact ⟨hz, hTI, hTO, ⟨h1, p.isList⟩, ⟨h2, p2⟩⟩
  self := fun A i s Q E st h => wpAny_pyIter_zip st.1 h
theorem apart5 (n : Nat) : n ≠ n + 1 ∧ n ≠ n + 4 ∧ n ≠ n + 3 ∧ n + 1 ≠ n + 4 ∧ n + 1 ≠ n + 3 := by omega
def iZipM (ta : TA) : TI := fun σ H R => ta σ H fun vs H1 => ∃ a b xs ys, vs = [.ref a, .ref b] ∧ H1 a = some (.lst xs) ∧ H1 b = some (.tup ys) ∧ R (ItZM a b xs ys) H1
theorem zipm_new {X : Cx} {pins : List (Addr × Obj)} {σ : L2.St} {H1 : Hp} {s1 : Shared} {a b : Addr} {xs ys : List V} {its its2 : List Value} {Q : Value → Shared → Prop} {E : Value → Shared → Prop} {elts : List Expr} {kk : Nat} {tpos : Pos}
    (I1 : Inv X pins σ H1 s1) (hqx : H1 a = some (.lst xs)) (hqy : H1 b = some (.tup ys)) (p1 : s1.heap.IsList a its.toArray) (p2 : s1.heap.IsTuple b its2.toArray)
    (h : ∀ h', Inv X pins σ H1 { s1 with heap := h' } → Turn X.prog X.w X.K (.Tuple elts kk tpos) (ItZM a b xs ys) [s1.heap.objs.size + 4, s1.heap.objs.size + 2, s1.heap.objs.size + 3, s1.heap.objs.size, s1.heap.objs.size + 1] (s1.heap.objs.size + 4)
        (fun i h => IsZip h (s1.heap.objs.size + 4) (s1.heap.objs.size + 2) (s1.heap.objs.size + 3) .none ∧ IsTupOf2 h (s1.heap.objs.size + 2) (.ref s1.heap.objs.size) (.ref (s1.heap.objs.size + 1)) ∧ (∃ x y, IsTupOf2 h (s1.heap.objs.size + 3) x y) ∧ h.IsListIter s1.heap.objs.size a i ∧ h.IsTupleIter (s1.heap.objs.size + 1) b i) →
      (IsZip h' (s1.heap.objs.size + 4) (s1.heap.objs.size + 2) (s1.heap.objs.size + 3) .none ∧ IsTupOf2 h' (s1.heap.objs.size + 2) (.ref s1.heap.objs.size) (.ref (s1.heap.objs.size + 1)) ∧ (∃ x y, IsTupOf2 h' (s1.heap.objs.size + 3) x y) ∧ h'.IsListIter s1.heap.objs.size a 0 ∧ h'.IsTupleIter (s1.heap.objs.size + 1) b 0) →
      (∀ c ∈ [s1.heap.objs.size + 4, s1.heap.objs.size + 2, s1.heap.objs.size + 3, s1.heap.objs.size, s1.heap.objs.size + 1], FpOk X pins H1 c) → Q (.ref (s1.heap.objs.size + 4)) { s1 with heap := h' }) :
    wpAny (model X.prog X.w) X.A (call (.type "zip") [.ref a, .ref b]) Q E s1 := by
  obtain ⟨o1, ho1, _⟩ := id p1
  obtain ⟨o2, ho2, _⟩ := id p2
  refine zip_begins2 (begins_list a its.toArray) (begins_tuple b its2.toArray) p1 p2 fun h' hz hTI hTO g1 g2 hsz hk => ?_
  refine h h' (I1.kept (t' := s1.toks) hk) (turn_zipM (PySem.W.ktu_apart s1.heap.objs.size a b (Heap.lt_size ho1) (Heap.lt_size ho2)) (apart5 _)) ⟨hz, hTI, ⟨_, _, hTO⟩, ⟨_, g1, rfl, rfl⟩, ⟨_, g2, rfl, rfl⟩⟩ fun c hcm => ?_
  have hle : s1.heap.objs.size ≤ c := by
    have q : c = s1.heap.objs.size + 4 ∨ c = s1.heap.objs.size + 2 ∨ c = s1.heap.objs.size + 3 ∨ c = s1.heap.objs.size ∨ c = s1.heap.objs.size + 1 := by simpa using hcm
    rcases q with q | q | q | q | q <;> rw [q] <;> first | exact Nat.le_add_right _ _ | exact Nat.le_refl _
  exact I1.fpOk hle (I1.hok.fresh hle)
theorem pi_zipM {X : Cx} {e e2 : Expr} {ta : TA} {p pos tpos : Pos} {elts : List Expr} {kk : Nat} (hg : Gl X "zip") (hm : X.mg "zip" = none) (ha : PA X [e, e2] ta)
    (hs : starEach [e, e2] X.env = (false, eval e X.env) :: starEach [e2] X.env := by rfl) (hpl : (backTo pos (starEach [e2] X.env)).any (·.1) = false := by rfl) :
    PI X (.Tuple elts kk tpos) (.Call (.Name "zip" p) [e, e2] [] pos) (iZipM ta) := by
  refine ⟨fun pins s σ H R I h => ?_⟩
  refine Call_ (ld_blt I hg hm PyProof.Rows.boot_zip (PyProof.Rows.callWith_type1 (thn (ha.run pos pins s σ H _ I h) fun us s1 ⟨vs, H1, I1, r1, q1⟩ => ?_) hs hpl))
  obtain ⟨a, b, xs, ys, ex, hqx, hqy, q⟩ := q1
  subst ex
  cases r1 with
  | cons r rr =>
    cases rr with
    | cons r' rr =>
      cases rr
      cases r
      cases r'
      obtain ⟨its, rv, p1, _⟩ := I1.list (SqL.of hqx)
      obtain ⟨its2, rv2, p2, _⟩ := I1.tuple (SqT.of hqy)
      refine zipm_new (elts := elts) (kk := kk) (tpos := tpos) I1 hqx hqy p1.isList p2 fun h' I2 T st hf => wpAny_pyIter_zip st.1 ?_
      exact ⟨_, _, _, _, H1, rfl, I2, T, st, hf, q⟩
end SG
set_option Elab.async false
set_option linter.all false
set_option maxRecDepth 100000
set_option maxHeartbeats 4000000
/-! walked things, comprehensions, loops, statements, calls over data -/
namespace SG
open PySem PySem.Spec PyProof.Rows L2
/-! ### what is walked -/
def WkD (J : It) (ds : List PyData) (F0 : Hp) : Prop := ∀ M H, Lv M H → Same F0 (off M H) → (∀ i, i < ds.length → J.go i H) ∧ J.stop ds.length H ∧ ∀ i d x H', ds[i]? = some d → J.yld i H x H' → Same H H' ∧ Da (off M H') d x
def tI (W : List Ow) (ρ : Rho) (ds : List PyData) (W' : List Ow) : TI := fun σ H R => ∃ Z, Cf (Z ++ W) ρ σ H ∧ ∀ J H1, Go (Z ++ W) (Z ++ W') H H1 → Hd (Z ++ W') H1 → WkD J ds (off (adrs (Z ++ W')) H1) → R J H1
theorem PIto {X : Cx} {tg e : Expr} {t t' : TI} (h : PI X tg e t) (i : ∀ σ H Q, t' σ H Q → t σ H Q) : PI X tg e t' := ⟨fun pins s σ H Q I q => h.run pins s σ H Q I (i σ H Q q)⟩
def enumD (ds : List PyData) : List PyData := ds.zipIdx.map fun p => .tuple [.int (p.2 : Nat), p.1]
def zipD (ds es : List PyData) : List PyData := List.zipWith (fun a b => .tuple [a, b]) ds es
theorem enumD_len (ds : List PyData) : (enumD ds).length = ds.length := by simp [enumD]
theorem wk_len {F : Hp} {ds : List PyData} {xs : List V} (h : DaL F ds xs) : ds.length = xs.length := h.length.symm
theorem DaL.at {F : Hp} {ds : List PyData} {xs : List V} {i : Nat} {d : PyData} {x : V} (h : DaL F ds xs) (e : ds[i]? = some d) (ex : xs[i]? = some x) : Da F d x := by
  obtain ⟨y, h1, h2⟩ := h.get e
  rw [ex] at h1; cases h1
  exact h2
theorem new_pair {M : List Addr} {H : Hp} {T : Addr} {x y : V} {d e : PyData} (l : Lv M H) (hT : H T = none) (h1 : Da (off M H) d x) (h2 : Da (off M H) e y) : Same H (upd H T (.tup [x, y])) ∧ Da (off M (upd H T (.tup [x, y]))) (.tuple [d, e]) (.ref T) := by
  refine ⟨upd_ext hT, ?_⟩
  simp only [Da]
  exact ⟨T, [x, y], rfl, off_new l hT, DaL.mono (off_same (upd_ext hT)) _ _ (DaL.cons h1 (DaL.cons h2 DaL.nil))⟩
section
variable {X : Cx} {tg e a b : Expr} {es : List Expr} {pos : Pos} {W W1 W2 W3 : List Ow} {ρ : Rho} {ds ds' : List PyData}
theorem i_tup (h : PE X e (tE W ρ (.d (.tuple ds)) W1)) : PI X tg e (tI W ρ ds W1) :=
  PIto (pi_tup h) fun σ H Q ⟨Z, c, k⟩ => ⟨Z, c, fun v H1 g1 d1 q1 => by
    rw [rp_tup] at q1
    obtain ⟨a, xs, rfl, h1, h2⟩ := q1
    refine ⟨a, rfl, ⟨xs, SqT.of (off_sub _ _ h1)⟩, k _ H1 g1 d1 fun M H2 l s2 => ?_⟩
    have ha : SqT X.K H2 a xs := SqT.of (off_sub _ _ (s2 _ _ h1))
    have w := walk_tup (K := X.K) (a := a) (xs := xs)
    rw [wk_len h2]
    refine ⟨fun i hi => w.goes i H2 hi ha, w.stops H2 ha, fun i d x H' e y => ?_⟩
    have hi : i < xs.length := by
      rw [h2.length]
      exact (List.getElem?_eq_some_iff.mp e).1
    obtain ⟨e1, e2⟩ := w.yields i H2 x H' hi ha y
    subst e1
    exact ⟨Same.refl _, Da.mono s2 d x (h2.at e e2)⟩⟩
theorem i_lst (h : PE X e (tE W ρ (.d (.list ds)) W1)) : PI X tg e (tI W ρ ds W1) :=
  PIto (pi_list h) fun σ H Q ⟨Z, c, k⟩ => ⟨Z, c, fun v H1 g1 d1 q1 => by
    rw [rp_lst] at q1
    obtain ⟨a, xs, rfl, h1, h2⟩ := q1
    refine ⟨a, rfl, ⟨xs, SqL.of (off_sub _ _ h1)⟩, k _ H1 g1 d1 fun M H2 l s2 => ?_⟩
    have ha : SqL X.K H2 a xs := SqL.of (off_sub _ _ (s2 _ _ h1))
    have w := walk_list (K := X.K) (a := a) (xs := xs)
    rw [wk_len h2]
    refine ⟨fun i hi => w.goes i H2 hi ha, w.stops H2 ha, fun i d x H' e y => ?_⟩
    have hi : i < xs.length := by
      rw [h2.length]
      exact (List.getElem?_eq_some_iff.mp e).1
    obtain ⟨e1, e2⟩ := w.yields i H2 x H' hi ha y
    subst e1
    exact ⟨Same.refl _, Da.mono s2 d x (h2.at e e2)⟩⟩
def rgD (a b : Int) : List PyData := (List.range (b - a).toNat).map fun (i : Nat) => .int (a + (i : Int))
theorem wk_range {lo : Int} {n : Nat} {F : Hp} : WkD (Itr lo n) ((List.range n).map fun (i : Nat) => .int (lo + (i : Int))) F := fun M H l s => by
  have w := walk_range (lo := lo) (n := n)
  rw [List.length_map, List.length_range]
  refine ⟨fun i hi => w.goes i H hi trivial, w.stops H trivial, fun i d x H' e y => ?_⟩
  rw [List.getElem?_map] at e
  have hi : i < n := by
    by_cases h : i < n
    · exact h
    · rw [List.getElem?_eq_none (by simpa using h)] at e; cases e
  rw [List.getElem?_range hi] at e
  cases e
  obtain ⟨e1, e2⟩ := w.yields i H x H' hi trivial y
  subst e1
  exact ⟨Same.refl _, by simp only [Da]; exact e2⟩
theorem i_range1 {j : Int} {p : Pos} (hm : X.mg "range" = none) (ha : PA X [a] (tA W ρ [I_ j] W1)) (hj : -(2 ^ 62) ≤ j ∧ j < 2 ^ 62) (hg : Gl X "range" := by rfl) (hs : starEach [a] X.env = [(false, eval a X.env)] := by rfl) :
    PI X tg (.Call (.Name "range" p) [a] [] pos) (tI W ρ (rgD 0 j) W1) :=
  PIto (pi_range1 hg hm ha hs) fun σ H Q ⟨Z, c, k⟩ => ⟨Z, c, fun vs H1 g1 d1 q1 => by
    obtain ⟨v, rfl, h⟩ := rpl_1 q1
    rw [rp_int] at h
    subst h
    refine ⟨j, rfl, hj.1, hj.2, k _ H1 g1 d1 ?_⟩
    have e : rgD 0 j = (List.range j.toNat).map fun (i : Nat) => .int (0 + (i : Int)) := by rw [rgD, Int.sub_zero]
    rw [e]
    exact wk_range⟩
theorem i_range2 {i j : Int} {p : Pos} (hm : X.mg "range" = none) (ha : PA X [a, b] (tA W ρ [I_ i, I_ j] W1)) (hj : -(2 ^ 62) ≤ i ∧ i < 2 ^ 62 ∧ -(2 ^ 62) ≤ j ∧ j < 2 ^ 62) (hg : Gl X "range" := by rfl)
    (hs : starEach [a, b] X.env = [(false, eval a X.env), (false, eval b X.env)] := by rfl) (hs2 : starEach [b] X.env = [(false, eval b X.env)] := by rfl) :
    PI X tg (.Call (.Name "range" p) [a, b] [] pos) (tI W ρ (rgD i j) W1) :=
  PIto (pi_range2 hg hm ha hs hs2) fun σ H Q ⟨Z, c, k⟩ => ⟨Z, c, fun vs H1 g1 d1 q1 => by
    obtain ⟨v, u, rfl, h, h'⟩ := rpl_2 q1
    rw [rp_int] at h h'
    subst h h'
    exact ⟨i, j, rfl, hj, k _ H1 g1 d1 wk_range⟩⟩
theorem enum_at {ds : List PyData} {i : Nat} {d : PyData} (e : (enumD ds)[i]? = some d) : ∃ d', ds[i]? = some d' ∧ d = .tuple [.int (i : Nat), d'] := by
  unfold enumD at e
  rw [List.getElem?_map, List.getElem?_zipIdx] at e
  cases q : ds[i]? with
  | none => rw [q] at e; cases e
  | some d' =>
    rw [q] at e
    simp only [Option.map_some, Option.some.injEq, Nat.zero_add] at e
    exact ⟨d', rfl, e.symm⟩
theorem i_enumT {elts : List Expr} {kk : Nat} {p tpos : Pos} (hm : X.mg "enumerate" = none) (ha : PA X [e] (tA W ρ [.d (.tuple ds)] W1)) (hg : Gl X "enumerate" := by rfl) (hs : starEach [e] X.env = [(false, eval e X.env)] := by rfl) :
    PI X (.Tuple elts kk tpos) (.Call (.Name "enumerate" p) [e] [] pos) (tI W ρ (enumD ds) W1) :=
  PIto (pi_enumT hg hm ha hs) fun σ H Q ⟨Z, c, k⟩ => ⟨Z, c, fun vs H1 g1 d1 q1 => by
    obtain ⟨v, rfl, h⟩ := rpl_1 q1
    rw [rp_tup] at h
    obtain ⟨a, xs, rfl, h1, h2⟩ := h
    refine ⟨a, xs, rfl, off_sub _ _ h1, k _ H1 g1 d1 fun M H2 l s2 => ?_⟩
    have ha := off_sub _ _ (s2 _ _ h1)
    rw [enumD_len, wk_len h2]
    refine ⟨fun i hi => ⟨ha, hi⟩, ⟨ha, rfl⟩, fun i d x H' e y => ?_⟩
    obtain ⟨T, x', rfl, hT, rfl, hx⟩ := y
    obtain ⟨d', e', rfl⟩ := enum_at e
    exact new_pair l hT (by simp only [Da]) (Da.mono s2 _ _ (h2.at e' hx))⟩
theorem i_enumL {elts : List Expr} {kk : Nat} {p tpos : Pos} (hm : X.mg "enumerate" = none) (ha : PA X [e] (tA W ρ [.d (.list ds)] W1)) (hg : Gl X "enumerate" := by rfl) (hs : starEach [e] X.env = [(false, eval e X.env)] := by rfl) :
    PI X (.Tuple elts kk tpos) (.Call (.Name "enumerate" p) [e] [] pos) (tI W ρ (enumD ds) W1) :=
  PIto (pi_enum hg hm ha hs) fun σ H Q ⟨Z, c, k⟩ => ⟨Z, c, fun vs H1 g1 d1 q1 => by
    obtain ⟨v, rfl, h⟩ := rpl_1 q1
    rw [rp_lst] at h
    obtain ⟨a, xs, rfl, h1, h2⟩ := h
    refine ⟨a, xs, rfl, SqL.of (off_sub _ _ h1), k _ H1 g1 d1 fun M H2 l s2 => ?_⟩
    have ha : SqL X.K H2 a xs := SqL.of (off_sub _ _ (s2 _ _ h1))
    rw [enumD_len, wk_len h2]
    refine ⟨fun i hi => ⟨xs, xs[i], ha, by simp [hi]⟩, ⟨xs, ha, Nat.le_refl _⟩, fun i d x H' e y => ?_⟩
    obtain ⟨T, x', rfl, hT, rfl, hx⟩ := y
    obtain ⟨d', e', rfl⟩ := enum_at e
    exact new_pair l hT (by simp only [Da]) (Da.mono s2 _ _ (h2.at e' (hx xs ha)))⟩
theorem zip_at {ds es : List PyData} {i : Nat} {d : PyData} (e : (zipD ds es)[i]? = some d) : ∃ d1 d2, ds[i]? = some d1 ∧ es[i]? = some d2 ∧ d = .tuple [d1, d2] := by
  unfold zipD at e
  rw [List.getElem?_zipWith] at e
  cases q : ds[i]? with
  | none => rw [q] at e; cases e
  | some d' =>
    cases q2 : es[i]? with
    | none => rw [q, q2] at e; cases e
    | some d2 =>
      rw [q, q2] at e
      cases e
      exact ⟨d', d2, rfl, rfl, rfl⟩
theorem zipD_len (ds es : List PyData) : (zipD ds es).length = min ds.length es.length := by simp [zipD]
theorem i_zipT {elts : List Expr} {kk : Nat} {p tpos : Pos} {e2 : Expr} (hm : X.mg "zip" = none) (ha : PA X [e, e2] (tA W ρ [.d (.tuple ds), .d (.tuple ds')] W1)) (hg : Gl X "zip" := by rfl)
    (hs : starEach [e, e2] X.env = (false, eval e X.env) :: starEach [e2] X.env := by rfl) (hpl : (backTo pos (starEach [e2] X.env)).any (·.1) = false := by rfl) :
    PI X (.Tuple elts kk tpos) (.Call (.Name "zip" p) [e, e2] [] pos) (tI W ρ (zipD ds ds') W1) :=
  PIto (RZ.pi_zipA hg hm ha hs hpl) fun σ H Q ⟨Z, c, k⟩ => ⟨Z, c, fun vs H1 g1 d1 q1 => by
    obtain ⟨v, u, rfl, h, h'⟩ := rpl_2 q1
    rw [rp_tup] at h h'
    obtain ⟨a, xs, rfl, h1, h2⟩ := h
    obtain ⟨b, ys, rfl, h3, h4⟩ := h'
    refine ⟨a, b, xs, ys, rfl, .inr ⟨SqT.of (off_sub _ _ h1), SqT.of (off_sub _ _ h3), k _ H1 g1 d1 fun M H2 l s2 => ?_⟩⟩
    have ha : SqT X.K H2 a xs := SqT.of (off_sub _ _ (s2 _ _ h1))
    have hb : SqT X.K H2 b ys := SqT.of (off_sub _ _ (s2 _ _ h3))
    have l1 := h2.length
    have l2 := h4.length
    rw [zipD_len]
    refine ⟨fun i hi => ⟨xs, ys, xs[i]'(by omega), ys[i]'(by omega), ha, hb, List.getElem?_eq_getElem _, List.getElem?_eq_getElem _⟩, ⟨xs, ys, ha, hb, by omega⟩, fun i d x H' e y => ?_⟩
    obtain ⟨T, x', y', rfl, hT, rfl, hx, hy⟩ := y
    obtain ⟨d1, d2, e1, e2, rfl⟩ := zip_at e
    exact new_pair l hT (Da.mono s2 _ _ (h2.at e1 (hx xs ha))) (Da.mono s2 _ _ (h4.at e2 (hy ys hb)))⟩
theorem i_zipM {elts : List Expr} {kk : Nat} {p tpos : Pos} {e2 : Expr} (hm : X.mg "zip" = none) (ha : PA X [e, e2] (tA W ρ [.d (.list ds), .d (.tuple ds')] W1)) (hg : Gl X "zip" := by rfl)
    (hs : starEach [e, e2] X.env = (false, eval e X.env) :: starEach [e2] X.env := by rfl) (hpl : (backTo pos (starEach [e2] X.env)).any (·.1) = false := by rfl) :
    PI X (.Tuple elts kk tpos) (.Call (.Name "zip" p) [e, e2] [] pos) (tI W ρ (zipD ds ds') W1) :=
  PIto (pi_zipM hg hm ha hs hpl) fun σ H Q ⟨Z, c, k⟩ => ⟨Z, c, fun vs H1 g1 d1 q1 => by
    obtain ⟨v, u, rfl, h, h'⟩ := rpl_2 q1
    rw [rp_lst] at h; rw [rp_tup] at h'
    obtain ⟨a, xs, rfl, h1, h2⟩ := h
    obtain ⟨b, ys, rfl, h3, h4⟩ := h'
    refine ⟨a, b, xs, ys, rfl, off_sub _ _ h1, off_sub _ _ h3, k _ H1 g1 d1 fun M H2 l s2 => ?_⟩
    have ha := off_sub _ _ (s2 _ _ h1)
    have hb := off_sub _ _ (s2 _ _ h3)
    have l1 := h2.length
    have l2 := h4.length
    rw [zipD_len]
    refine ⟨fun i hi => ⟨ha, hb, by omega⟩, ⟨ha, hb, by omega⟩, fun i d x H' e y => ?_⟩
    obtain ⟨T, x', y', rfl, hT, rfl, hx, hy⟩ := y
    obtain ⟨d1, d2, e1, e2, rfl⟩ := zip_at e
    exact new_pair l hT (Da.mono s2 _ _ (h2.at e1 hx)) (Da.mono s2 _ _ (h4.at e2 hy))⟩
end
/-! ### targets -/
def TgS (t : TG) (K : PySem.W.Frag) (is : List Nat) (g : PyData → Rho → Rho → Prop) : Prop :=
  ∀ W ρ ρ' d v σ H Q, Cf W ρ σ H → Da (off (adrs W) H) d v → g d ρ ρ' → (∀ σ' : L2.St, σ'.length = σ.length → (∀ k, k ∉ is → σ'[k]? = σ[k]?) → Cf W ρ' σ' H → Q σ' H) → t v σ H Q
theorem Cf.set {W : List Ow} {ρ : Rho} {σ : L2.St} {H : Hp} {s : Sl} {v : V} (c : Cf W ρ σ H) (h : Rp (off (adrs W) H) s v) (i : Nat) : Cf W (ρ.set i (some s)) (σ.set i (some v)) H := by
  refine ⟨by rw [List.length_set, List.length_set]; exact c.len, c.hd, fun j z e => ?_⟩
  by_cases hj : i = j
  · subst hj
    by_cases hi : i < ρ.length
    · rw [List.getElem?_set_self hi] at e
      cases e
      exact ⟨v, List.getElem?_set_self (by rw [c.len]; exact hi), h⟩
    · rw [List.getElem?_eq_none (by simpa using hi)] at e
      cases e
  · rw [List.getElem?_set_ne hj] at e
    obtain ⟨u, h1, h2⟩ := c.env j z e
    exact ⟨u, by rw [List.getElem?_set_ne hj]; exact h1, h2⟩
def gN (i : Nat) : PyData → Rho → Rho → Prop := fun d ρ ρ' => ρ' = ρ.set i (some (.d d))
def gP (i j : Nat) : PyData → Rho → Rho → Prop := fun d ρ ρ' => ∃ a b, d = .tuple [a, b] ∧ ρ' = (ρ.set i (some (.d a))).set j (some (.d b))
theorem tgs_name {K : PySem.W.Frag} (i : Nat) : TgS (gName i) K [i] (gN i) := fun W ρ ρ' d v σ H Q c h g k => by
  cases g
  exact k _ (List.length_set ..) (fun j hj => List.getElem?_set_ne (fun e => hj (by simp [e]))) (c.set (s := .d d) h i)
theorem tgs_pair {K : PySem.W.Frag} (i j : Nat) : TgS (gTup K 2 (gCons (gName i) (gCons (gName j) gNil))) K [i, j] (gP i j) := fun W ρ ρ' d v σ H Q c h g k => by
  obtain ⟨a, b, rfl, rfl⟩ := g
  simp only [Da] at h
  obtain ⟨p, xs, rfl, h1, h2⟩ := h
  simp only [DaL] at h2
  obtain ⟨y, ys, rfl, h3, y2, ys2, rfl, h4, rfl⟩ := h2
  refine ⟨p, _, rfl, SqT.of (off_sub _ _ h1), rfl, y, _, rfl, y2, _, rfl, rfl, ?_⟩
  refine k _ (by rw [List.length_set, List.length_set]) (fun m hm => ?_) ((c.set (s := .d a) h3 i).set (s := .d b) h4 j)
  simp only [List.mem_cons, List.not_mem_nil, or_false, not_or] at hm
  rw [List.getElem?_set_ne (fun e => hm.2 e.symm), List.getElem?_set_ne (fun e => hm.1 e.symm)]
/-! ### comprehensions -/
def wipeR (ρ : Rho) : List Nat → Rho
  | [] => ρ
  | v :: vs => (wipeR ρ vs).set v none
theorem wipe_get {α : Type} : ∀ (vs : List Nat) (k : Nat) (σ : L2.St), k ∉ vs → (wipe σ vs)[k]? = σ[k]?
  | [], _, _, _ => rfl
  | v :: vs, k, σ, h => by
    simp only [List.mem_cons, not_or] at h
    show ((wipe σ vs).set v none)[k]? = _
    rw [List.getElem?_set_ne (fun e => h.1 e.symm)]
    exact wipe_get (α := α) vs k σ h.2
theorem wipe_in : ∀ (vs : List Nat) (k : Nat) (σ : L2.St), k ∈ vs → k < σ.length → (wipe σ vs)[k]? = some none
  | v :: vs, k, σ, h, hk => by
    show ((wipe σ vs).set v none)[k]? = _
    by_cases e : v = k
    · subst e
      exact List.getElem?_set_self (by rw [wipe_length]; exact hk)
    · rw [List.getElem?_set_ne e]
      rcases List.mem_cons.mp h with z | z
      · exact absurd z.symm e
      · exact wipe_in vs k σ z hk
theorem wipe_same {vs is : List Nat} {σ σ' : L2.St} (h : ∀ i ∈ is, i ∈ vs) (hl : σ'.length = (wipe σ vs).length) (e : ∀ k, k ∉ is → σ'[k]? = (wipe σ vs)[k]?) : wipe σ' vs = wipe σ vs := by
  refine List.ext_getElem? fun k => ?_
  by_cases hk : k ∈ vs
  · by_cases hlt : k < σ.length
    · rw [wipe_in vs k σ hk hlt, wipe_in vs k σ' hk (by rw [hl, wipe_length]; exact hlt)]
    · have z1 := wipe_length σ vs
      have z2 := wipe_length σ' vs
      rw [List.getElem?_eq_none (by omega), List.getElem?_eq_none (by omega)]
  · rw [wipe_get (α := Nat) vs k σ' hk, e k fun z => hk (h k z)]
theorem Cf.wipe {W : List Ow} {ρ : Rho} {σ : L2.St} {H : Hp} (c : Cf W ρ σ H) (vs : List Nat) : Cf W (wipeR ρ vs) (L2.wipe σ vs) H := by
  induction vs with
  | nil => exact c
  | cons v vs ih =>
    refine ⟨?_, ih.hd, fun i s e => ?_⟩
    · show ((L2.wipe σ vs).set v none).length = ((wipeR ρ vs).set v none).length
      rw [List.length_set, List.length_set]
      exact ih.len
    · have e : ((wipeR ρ vs).set v none)[i]? = some (some s) := e
      by_cases hi : v = i
      · subst hi
        by_cases hv : v < (wipeR ρ vs).length
        · rw [List.getElem?_set_self hv] at e; cases e
        · rw [List.getElem?_eq_none (by simpa using hv)] at e; cases e
      · rw [List.getElem?_set_ne hi] at e
        obtain ⟨u, h1, h2⟩ := ih.env i s e
        refine ⟨u, ?_, h2⟩
        show ((L2.wipe σ vs).set v none)[i]? = _
        rw [List.getElem?_set_ne hi]
        exact h1
def pick (p : Nat → Bool) (f : Nat → PyData) (n : Nat) : List PyData := ((List.range n).filter p).map f
theorem pick_yes {p : Nat → Bool} {f : Nat → PyData} {n : Nat} (h : p n = true) : pick p f (n + 1) = pick p f n ++ [f n] := by
  unfold pick
  rw [List.range_succ, List.filter_append, List.map_append, List.filter_cons, if_pos h]
  rfl
theorem pick_no {p : Nat → Bool} {f : Nat → PyData} {n : Nat} (h : p n = false) : pick p f (n + 1) = pick p f n := by
  unfold pick
  rw [List.range_succ, List.filter_append, List.map_append, List.filter_cons, if_neg (by rw [h]; decide)]
  show _ ++ [] = _
  rw [List.append_nil]
theorem pick_len (p : Nat → Bool) (f : Nat → PyData) (n : Nat) : (pick p f n).length ≤ n := by
  unfold pick
  rw [List.length_map]
  have h := List.length_filter_le p (List.range n)
  rw [List.length_range] at h
  exact h
theorem Cf.drop1 {o : Ow} {W : List Ow} {ρ : Rho} {σ : L2.St} {H : Hp} (c : Cf (o :: W) ρ σ H) (hW : Hd W H) : Cf W ρ σ H :=
  ⟨c.len, hW, fun i s e => by
    obtain ⟨v, h1, h2⟩ := c.env i s e
    refine ⟨v, h1, h2.mono fun a x hx => ?_⟩
    obtain ⟨n1, n2⟩ := off_some hx
    rw [off_out (fun (m : a ∈ adrs W) => n1 (List.mem_cons_of_mem _ m))]
    exact n2⟩
/-- an own object less -/
theorem off_drop {o : Ow} {W : List Ow} {H : Hp} : Same (off (adrs (o :: W)) H) (off (adrs W) H) := fun a x hx => by
  obtain ⟨n1, n2⟩ := off_some hx
  rw [off_out (fun (m : a ∈ adrs W) => n1 (List.mem_cons_of_mem _ m))]
  exact n2
theorem Hd.tail {o : Ow} {W : List Ow} {H : Hp} (h : Hd (o :: W) H) : Hd W H :=
  ⟨(List.nodup_cons.mp h.nd).2, fun u hu => Ow.holds_mono off_drop (Same.refl H) (h.hold u (List.mem_cons_of_mem _ hu))⟩
theorem Go.tail {o : Ow} {W W' : List Ow} {H H' : Hp} (g : Go W (o :: W') H H') : Go W W' H H' := ⟨g.kp, fun a h => g.fr a (List.mem_cons_of_mem _ h)⟩
/-- an own list's new contents; all else stays -/
theorem Cf.put {a : Addr} {o : Ow} {ds : List PyData} {W : List Ow} {ρ : Rho} {σ : L2.St} {H : Hp} {vs : List V} (ha : o.addr = a) (c : Cf (o :: W) ρ σ H) (h : DaL (off (adrs (o :: W)) H) ds vs) :
    Cf (.lst a ds :: W) ρ σ (upd H a (.lst vs)) ∧ Go (o :: W) (.lst a ds :: W) H (upd H a (.lst vs)) := by
  have ad : adrs (.lst a ds :: W) = adrs (o :: W) := by
    show a :: _ = o.addr :: _
    rw [ha]
  have nd := c.hd.nd
  have sm : Same (off (adrs (o :: W)) H) (off (adrs (Ow.lst a ds :: W)) (upd H a (.lst vs))) := fun b x e => by
    obtain ⟨h1, h2⟩ := off_some e
    rw [ad, off_out h1, upd_ne (fun z => h1 (by rw [z, ← ha]; exact List.mem_cons_self))]
    exact h2
  have na : a ∉ adrs W := by
    have := (List.nodup_cons.mp nd).1
    rwa [ha] at this
  refine ⟨⟨c.len, ⟨by rw [ad]; exact nd, fun u hu => ?_⟩, fun i s e => ?_⟩, ⟨fun b x hb e => ?_, fun b hb => .inl (by rw [ad] at hb; exact hb)⟩⟩
  · rcases List.mem_cons.mp hu with e | hu
    · subst e
      exact ⟨vs, upd_same, DaL.mono sm ds vs h⟩
    · have hh := c.hd.hold u (List.mem_cons_of_mem _ hu)
      have ne : u.addr ≠ a := fun z => na (by rw [← z]; exact List.mem_map.mpr ⟨u, hu, rfl⟩)
      cases u with
      | raw b x => exact ⟨(upd_ne ne).trans hh.1, hh.2⟩
      | lst b es =>
        obtain ⟨us, h1, h2⟩ := hh
        exact ⟨us, (upd_ne ne).trans h1, DaL.mono sm es us h2⟩
      | tab b q =>
        obtain ⟨ps, h1, h2, h3⟩ := hh
        exact ⟨ps, (upd_ne ne).trans h1, h2, fun pos cv hc => let ⟨c, q1, q2⟩ := h3 pos cv hc; ⟨c, q1, sm _ _ q2⟩⟩
  · obtain ⟨v, h1, h2⟩ := c.env i s e
    exact ⟨v, h1, h2.mono sm⟩
  · exact (upd_ne (fun z => hb (by rw [z, ← ha]; exact List.mem_cons_self))).trans e
section
variable {X : Cx} {tg e iter elt : Expr} {ifs : List Expr} {pos : Pos} {W W0 W1 W2 W3 : List Ow} {ρ : Rho} {ds ds' : List PyData}
theorem s_nil (k : True := trivial) : PTs X [] (tT W ρ true W) := ⟨fun pins s σ H Q I ⟨Z, c, k⟩ => pts_nil.run pins s σ H Q I (k H (Go.refl _ H) c.hd)⟩
theorem s_one {c : Expr} {b : Bool} (h : PT X c (tT W ρ b W1)) : PTs X [c] (tT W ρ b W1) := pts_one h
/-- the context of a comprehension's block -/
abbrev Bk (X : Cx) (scope : Scope) (s : Shared) (H : Hp) (C : Addr) (cl : List (Str × Addr)) (fp : List Addr) : Cx := X.blk s H scope (compEnvC scope cl C X.env) fp
theorem lc_read {t : TG} {vs is : List Nat} {g : PyData → Rho → Rho → Prop} {σ : L2.St} {Q : VK} {Wf Wm : Nat → List Ow} {p : Nat → Bool} {f : Nat → PyData} {ρf : Nat → Rho} {J : It} {H1 : Hp} {Z : List Ow}
    (ht : TgS t X.K is g) (his : ∀ i ∈ is, i ∈ vs) (hρ : ∀ i d, ds[i]? = some d → g d (wipeR ρ vs) (ρf i)) (hskip : ∀ i, i < ds.length → p i = false → Wf (i + 1) = Wm i) (hz : ds.length < sizeLine)
    (c : Cf (Z ++ Wf 0) ρ σ H1) (wk : WkD J ds (off (adrs (Z ++ Wf 0)) H1)) (k : ∀ v H', Go (Z ++ Wf 0) (Z ++ Wf ds.length) H1 H' → Hd (Z ++ Wf ds.length) H' → Rp (off (adrs (Z ++ Wf ds.length)) H') (.d (.list (pick p f ds.length))) v → Q v H') :
    ∀ D, H1 D = none → ∃ W : Nat → Nat → Hp → Prop, (∃ m, W 0 m (upd H1 D (.lst []))) ∧ ∀ i m H, W i m H →
      (J.stop i H ∧ Q (.ref D) H) ∨ (J.go i H ∧ ∃ Nx : Hp → Prop, (∀ H', Nx H' → ∃ m', m' < m ∧ W (i + 1) m' H') ∧ ∀ x H', J.yld i H x H' → t x (L2.wipe σ vs) H' fun σ2 H2 => L2.wipe σ2 vs = L2.wipe σ vs ∧
        (∃ i, i < ds.length ∧ tT (Wf i) (ρf i) (p i) (Wm i) σ2 H2 fun b H3 => if b = true then (∃ i, i < ds.length ∧ p i = true ∧ tE (Wm i) (ρf i) (.d (f i)) (Wf (i + 1)) σ2 H3 fun y H4 => ∃ acc, H4 D = some (.lst acc) ∧ acc.length < sizeLine ∧ Nx (upd H4 D (.lst (acc ++ [y])))) else Nx H3)) := by
  intro D hD
  have hDW : D ∉ adrs (Z ++ Wf 0) := fun m => c.hd.lv D m hD
  -- the state at turn i
  refine ⟨fun i m H' => m = ds.length - i ∧ i ≤ ds.length ∧ Cf (.lst D (pick p f i) :: (Z ++ Wf i)) (wipeR ρ vs) (L2.wipe σ vs) H' ∧ Go (Z ++ Wf 0) (.lst D (pick p f i) :: (Z ++ Wf i)) H1 H', ⟨ds.length, by simp, Nat.zero_le _, ?_⟩, ?_⟩
  · have cw := c.wipe vs
    have sm : Same H1 (upd H1 D (.lst [])) := upd_ext hD
    have sm2 : Same (off (adrs (Z ++ Wf 0)) H1) (off (adrs (.lst D (pick p f 0) :: (Z ++ Wf 0))) (upd H1 D (.lst []))) := fun b x e => by
      obtain ⟨h1, h2⟩ := off_some e
      have : b ∉ adrs (Ow.lst D (pick p f 0) :: (Z ++ Wf 0)) := fun m => by
        rcases List.mem_cons.mp m with z | z
        · have z : b = D := z
          rw [z, hD] at h2; cases h2
        · exact h1 z
      rw [off_out this]
      exact sm b x h2
    refine ⟨⟨cw.len, ⟨List.nodup_cons.mpr ⟨hDW, cw.hd.nd⟩, fun u hu => ?_⟩, fun i s e => ?_⟩, ⟨fun b x hb e => sm b x e, fun b hb => ?_⟩⟩
    · rcases List.mem_cons.mp hu with e | hu
      · subst e
        exact ⟨[], upd_same, DaL.nil⟩
      · exact Ow.holds_mono sm2 sm (cw.hd.hold u hu)
    · obtain ⟨v, h1, h2⟩ := cw.env i s e
      exact ⟨v, h1, h2.mono sm2⟩
    · rcases List.mem_cons.mp hb with z | z
      · have z : b = D := z
        exact .inr (by rw [z]; exact hD)
      · exact .inl z
  · rintro i m H' ⟨rfl, hi, cf, go⟩
    have s0 : Same (off (adrs (Z ++ Wf 0)) H1) (off (adrs (.lst D (pick p f i) :: (Z ++ Wf i))) H') := go.off
    obtain ⟨w1, w2, w3⟩ := wk _ H' cf.hd.lv s0
    by_cases hlt : i < ds.length
    · refine .inr ⟨w1 i hlt, fun H'' => Cf (.lst D (pick p f (i + 1)) :: (Z ++ Wf (i + 1))) (wipeR ρ vs) (L2.wipe σ vs) H'' ∧ Go (Z ++ Wf 0) (.lst D (pick p f (i + 1)) :: (Z ++ Wf (i + 1))) H1 H'', fun H'' ⟨a, b⟩ => ⟨ds.length - (i + 1), by omega, rfl, hlt, a, b⟩, fun x H2 y => ?_⟩
      obtain ⟨d, hd⟩ : ∃ d, ds[i]? = some d := ⟨_, List.getElem?_eq_getElem hlt⟩
      obtain ⟨sm, dx⟩ := w3 i d x H2 hd y
      have cf2 := cf.go (Go.same sm) (cf.hd.same sm)
      have go2 := go.trans (Go.same sm)
      refine ht _ _ _ d x _ H2 _ cf2 dx (hρ i d hd) fun σ' hl hk c3 => ⟨wipe_same his (by rw [hl]) hk, i, hlt, ?_⟩
      obtain ⟨vs0, hv1, hv2⟩ := c3.hd.hold _ List.mem_cons_self
      refine ⟨.lst D (pick p f i) :: Z, c3, fun H3 g3 d3 => ?_⟩
      have c4 := cf2.go g3 d3
      have go3 := go2.trans g3
      cases hp : p i with
      | true =>
        show if true = true then _ else _
        rw [if_pos rfl]
        refine ⟨i, hlt, hp, .lst D (pick p f i) :: Z, c3.go g3 d3, fun y H4 g4 d4 q4 => ?_⟩
        have c5 := c4.go g4 d4
        have go4 := go3.trans g4
        obtain ⟨acc, hv1, hv2⟩ := d4.hold (.lst D (pick p f i)) List.mem_cons_self
        refine ⟨acc, hv1, ?_, ?_⟩
        · rw [hv2.length]
          have := pick_len p f i
          omega
        · rw [pick_yes hp]
          obtain ⟨z1, z2⟩ := Cf.put (a := D) (o := .lst D (pick p f i)) (ds := pick p f i ++ [f i]) (vs := acc ++ [y]) rfl c5 (hv2.append (DaL.cons q4 DaL.nil))
          exact ⟨z1, go4.trans z2⟩
      | false =>
        show if false = true then _ else _
        rw [if_neg (by decide)]
        show _ ∧ _
        rw [pick_no hp, hskip i hlt hp]
        exact ⟨c4, go3⟩
    · have e : i = ds.length := by omega
      subst e
      refine .inl ⟨w2, k (.ref D) H' go.tail cf.hd.tail ?_⟩
      obtain ⟨acc, hv1, hv2⟩ := cf.hd.hold (.lst D (pick p f ds.length)) List.mem_cons_self
      rw [rp_lst]
      refine ⟨D, acc, rfl, ?_, DaL.mono off_drop _ _ hv2⟩
      have hnD : D ∉ adrs (Z ++ Wf ds.length) := (List.nodup_cons.mp cf.hd.nd).1
      rw [off_out hnD]
      exact hv1
/-- a comprehension's premises: its items rs, the own objects behind it -/
def CompP (X : Cx) (tg iter elt : Expr) (ifs : List Expr) (scope : Scope) (W : List Ow) (ρ : Rho) (rs : List PyData) (W' : List Ow) : Prop :=
  ∃ (own : List (Str × Nat)) (t : TG) (is : List Nat) (g : PyData → Rho → Rho → Prop) (ds : List PyData) (Wf Wm : Nat → List Ow) (p : Nat → Bool) (f : Nat → PyData) (ρf : Nat → Rho), X.calm = true ∧ X.N.Nodup ∧
    PI X tg iter (tI W ρ ds (Wf 0)) ∧ BlkOk X.N X.env.scope scope own ∧ TgS t X.K is g ∧ (∀ i ∈ is, i ∈ own.map (·.2)) ∧ (∀ i d, ds[i]? = some d → g d (wipeR ρ (own.map (·.2))) (ρf i)) ∧
    (∀ i, i < ds.length → p i = false → Wf (i + 1) = Wm i) ∧ ds.length < sizeLine ∧ (∀ s H C cl fp, PG (Bk X scope s H C cl fp) tg t) ∧
    (∀ i, i < ds.length → ∀ s H C cl fp, PTs (Bk X scope s H C cl fp) ifs (tT (Wf i) (ρf i) (p i) (Wm i))) ∧
    (∀ i, i < ds.length → p i = true → ∀ s H C cl fp, PE (Bk X scope s H C cl fp) elt (tE (Wm i) (ρf i) (.d (f i)) (Wf (i + 1)))) ∧ rs = pick p f ds.length ∧ W' = Wf ds.length
theorem CompP.to {scope : Scope} {rs : List PyData} {W' : List Ow} (C : CompP X tg iter elt ifs scope W ρ rs W') (hs : ∀ x, foldedSetIterable iter X.env x = pure x) :
    ∃ t, PE X (.ListComp elt [⟨tg, iter, ifs, 0⟩] scope pos) t ∧ (∀ {i : Nat} {y : Str} {py spos : Pos}, X.N[i]? = some y → X.env.scope.names.lookup y = some .local → swapsWith (.ListComp elt [⟨tg, iter, ifs, 0⟩] scope pos) (some (.Name y py)) spos.line X.env = pure true →
      PS X (.Assign [.Name y py] (.ListComp elt [⟨tg, iter, ifs, 0⟩] scope pos) spos) (tAsg t (gName i))) ∧ ∀ σ H Q, tE W ρ (.d (.list rs)) W' σ H Q → t σ H Q := by
  obtain ⟨own, t, is, g, ds, Wf, Wm, p, f, ρf, hc, hN, hi, ok, ht, his, hρ, hskip, hz, hg, htest, helt, rfl, rfl⟩ := C
  have p1 : ∀ s H C cl fp, PTs (Bk X scope s H C cl fp) ifs (fun σ H Q => ∃ i, i < ds.length ∧ tT (Wf i) (ρf i) (p i) (Wm i) σ H Q) := fun s H C cl fp => ⟨fun pins s' σ H' Q I ⟨i, h1, h2⟩ => (htest i h1 s H C cl fp).run pins s' σ H' Q I h2⟩
  have p2 : ∀ s H C cl fp, PE (Bk X scope s H C cl fp) elt (fun σ H Q => ∃ i, i < ds.length ∧ p i = true ∧ tE (Wm i) (ρf i) (.d (f i)) (Wf (i + 1)) σ H Q) := fun s H C cl fp => ⟨fun pins s' σ H' Q I ⟨i, h1, h2, h3⟩ => (helt i h1 h2 s H C cl fp).run pins s' σ H' Q I h3⟩
  refine ⟨_, pe_lc hc hN hi ok hg p1 p2 hs, fun {i y py spos} hy hyl hsw => ps_setLc hc hN hy hyl hsw hi ok hg p1 p2 hs, fun σ H Q ⟨Z, c, k⟩ => ?_⟩
  exact ⟨Z, c, fun J H1 g1 d1 wk => lc_read ht his hρ hskip hz (c.go g1 d1) wk fun v H' g2 d2 q2 => k v H' (g1.trans g2) d2 q2⟩
theorem e_comp {scope : Scope} {rs : List PyData} {W' : List Ow} (C : CompP X tg iter elt ifs scope W ρ rs W') (hs : ∀ x, foldedSetIterable iter X.env x = pure x := by intro _; rfl) : PE X (.ListComp elt [⟨tg, iter, ifs, 0⟩] scope pos) (tE W ρ (.d (.list rs)) W') := by
  obtain ⟨t, h1, _, h2⟩ := C.to (pos := pos) hs
  exact PEto h1 h2
end
end SG
set_option Elab.async false
set_option linter.all false
set_option maxRecDepth 100000
set_option maxHeartbeats 4000000
/-! pure comprehensions, loops, statements, calls -/
namespace SG
open PySem PySem.Spec PyProof.Rows L2
/-! mapped sources -/
theorem enumD_map {α : Type} (xs : List α) (g : α → PyData) : enumD (xs.map g) = xs.zipIdx.map fun p => .tuple [.int (p.2 : Nat), g p.1] := by
  unfold enumD
  rw [List.zipIdx_map, List.map_map]
  rfl
theorem zipD_map {α β : Type} (xs : List α) (ys : List β) (g : α → PyData) (h : β → PyData) : zipD (xs.map g) (ys.map h) = (xs.zip ys).map fun p => .tuple [g p.1, h p.2] := by
  unfold zipD
  rw [List.zip, List.map_zipWith, List.zipWith_map]
theorem rgD_nat (n : Nat) : rgD 0 (n : Int) = (List.range n).map fun (i : Nat) => .int (i : Nat) := by
  unfold rgD
  rw [Int.sub_zero, Int.toNat_natCast]
  refine List.map_congr_left fun i _ => ?_
  rw [Int.zero_add]
theorem rgD_nat2 (a n : Nat) : rgD (a : Int) (n : Int) = (List.range (n - a)).map fun (i : Nat) => .int ((a + i : Nat) : Int) := by
  unfold rgD
  have e : ((n : Int) - (a : Int)).toNat = n - a := by omega
  rw [e]
  refine List.map_congr_left fun i _ => ?_
  rw [Int.natCast_add]
theorem pick_map {α : Type} (xs : List α) (p : α → Bool) (f : α → PyData) (p' : Nat → Bool) (f' : Nat → PyData) (hp : ∀ i a, xs[i]? = some a → p' i = p a) (hf : ∀ i a, xs[i]? = some a → f' i = f a) : pick p' f' xs.length = (xs.filter p).map f := by
  suffices go : ∀ n (xs : List α), xs.length = n → (∀ i a, xs[i]? = some a → p' i = p a) → (∀ i a, xs[i]? = some a → f' i = f a) → pick p' f' n = (xs.filter p).map f from go _ xs rfl hp hf
  clear hp hf xs
  intro n
  induction n with
  | zero => intro xs e _ _; rw [List.length_eq_zero_iff.mp e]; rfl
  | succ n ih =>
    intro xs0 e0 hp hf
    obtain ⟨xs, a, rfl⟩ : ∃ xs a, xs0 = xs ++ [a] := ⟨xs0.dropLast, xs0.getLast (by intro q; rw [q] at e0; cases e0), (List.dropLast_concat_getLast _).symm⟩
    have en : xs.length = n := by simpa using e0
    subst en
    have ha : (xs ++ [a])[xs.length]? = some a := by simp
    have ih' := ih xs rfl (fun i b hb => hp i b (by
      have := (List.getElem?_eq_some_iff.mp hb).1
      rw [List.getElem?_append_left this]; exact hb)) (fun i b hb => hf i b (by
      have := (List.getElem?_eq_some_iff.mp hb).1
      rw [List.getElem?_append_left this]; exact hb))
    rw [List.filter_append, List.map_append]
    cases q : p a with
    | true =>
      rw [pick_yes (by rw [hp _ _ ha]; exact q), ih', hf _ _ ha, List.filter_cons, if_pos q]
      rfl
    | false =>
      rw [pick_no (by rw [hp _ _ ha]; exact q), ih', List.filter_cons, if_neg (by rw [q]; decide)]
      show _ = _ ++ []
      rw [List.append_nil]
section
variable {X : Cx} {tg e iter elt a b : Expr} {es : List Expr} {ifs : List Expr} {pos px : Pos} {W W0 W1 W2 W3 : List Ow} {ρ : Rho} {ds ds' : List PyData} {x y : Str}
/-- over mapped things, a name as the target, nothing changed -/
theorem comp_N {α : Type} {scope : Scope} (own : List (Str × Nat)) (i : Nat) {xs : List α} {gg : α → PyData} {p : α → Bool} {f : α → PyData} (hi : PI X (.Name x px) iter (tI W ρ (xs.map gg) W0)) (hN : X.N.Nodup) (hz : xs.length < sizeLine)
    (htest : ∀ a ∈ xs, ∀ s H C cl fp, PTs (Bk X scope s H C cl fp) ifs (tT W0 ((wipeR ρ (own.map (·.2))).set i (some (.d (gg a)))) (p a) W0))
    (helt : ∀ a ∈ xs, p a = true → ∀ s H C cl fp, PE (Bk X scope s H C cl fp) elt (tE W0 ((wipeR ρ (own.map (·.2))).set i (some (.d (gg a)))) (.d (f a)) W0))
    (hg : ∀ s H C cl fp, PG (Bk X scope s H C cl fp) (.Name x px) (gName i)) (his : i ∈ own.map (·.2) := by decide) (hc : X.calm = true := by rfl) (ok : BlkOk X.N X.env.scope scope own := by exact blkOk_by (by kernel_rfl)) :
    CompP X (.Name x px) iter elt ifs scope W ρ ((xs.filter p).map f) W0 := by
  have at' : ∀ j, j < (xs.map gg).length → ∃ a, xs[j]? = some a ∧ a ∈ xs := fun j hj => by
    rw [List.length_map] at hj
    exact ⟨xs[j], List.getElem?_eq_getElem hj, List.getElem_mem hj⟩
  let dflt : Nat → Option α := fun j => xs[j]?
  refine ⟨own, gName i, [i], gN i, xs.map gg, fun _ => W0, fun _ => W0, fun j => match xs[j]? with | some a => p a | none => false, fun j => match xs[j]? with | some a => f a | none => .none,
    fun j => match xs[j]? with | some a => (wipeR ρ (own.map (·.2))).set i (some (.d (gg a))) | none => [], hc, hN, hi, ok, tgs_name i, fun k hk => by
      have : k = i := by simpa using hk
      rw [this]; exact his, fun j d e => ?_, fun _ _ _ => rfl, by rw [List.length_map]; exact hz, hg, fun j hj s H C cl fp => ?_, fun j hj hp s H C cl fp => ?_, ?_, rfl⟩
  · rw [List.getElem?_map] at e
    cases q : xs[j]? with
    | none => rw [q] at e; cases e
    | some a =>
      rw [q] at e
      cases e
      simp only [gN, q]
  · obtain ⟨a, ea, ma⟩ := at' j hj
    simp only [ea]
    exact htest a ma s H C cl fp
  · obtain ⟨a, ea, ma⟩ := at' j hj
    simp only [ea] at hp ⊢
    exact helt a ma hp s H C cl fp
  · rw [List.length_map]
    exact (pick_map xs p f _ _ (fun j a e => by simp only [e]) (fun j a e => by simp only [e])).symm
/-- .. a pair as the target -/
theorem comp_P {α : Type} {scope : Scope} (own : List (Str × Nat)) (i j : Nat) {xs : List α} {g1 g2 : α → PyData} {p : α → Bool} {f : α → PyData} {es : List Expr} {kk : Nat} {tpos : Pos} (hi : PI X (.Tuple es kk tpos) iter (tI W ρ (xs.map fun a => .tuple [g1 a, g2 a]) W0)) (hN : X.N.Nodup) (hz : xs.length < sizeLine)
    (htest : ∀ a ∈ xs, ∀ s H C cl fp, PTs (Bk X scope s H C cl fp) ifs (tT W0 (((wipeR ρ (own.map (·.2))).set i (some (.d (g1 a)))).set j (some (.d (g2 a)))) (p a) W0))
    (helt : ∀ a ∈ xs, p a = true → ∀ s H C cl fp, PE (Bk X scope s H C cl fp) elt (tE W0 (((wipeR ρ (own.map (·.2))).set i (some (.d (g1 a)))).set j (some (.d (g2 a)))) (.d (f a)) W0))
    (hg : ∀ s H C cl fp, PG (Bk X scope s H C cl fp) (.Tuple es kk tpos) (gTup X.K 2 (gCons (gName i) (gCons (gName j) gNil)))) (his : i ∈ own.map (·.2) ∧ j ∈ own.map (·.2) := by decide) (hc : X.calm = true := by rfl) (ok : BlkOk X.N X.env.scope scope own := by exact blkOk_by (by kernel_rfl)) :
    CompP X (.Tuple es kk tpos) iter elt ifs scope W ρ ((xs.filter p).map f) W0 := by
  have at' : ∀ m, m < (xs.map fun a => PyData.tuple [g1 a, g2 a]).length → ∃ a, xs[m]? = some a ∧ a ∈ xs := fun m hm => by
    rw [List.length_map] at hm
    exact ⟨xs[m], List.getElem?_eq_getElem hm, List.getElem_mem hm⟩
  refine ⟨own, _, [i, j], gP i j, xs.map fun a => .tuple [g1 a, g2 a], fun _ => W0, fun _ => W0, fun j => match xs[j]? with | some a => p a | none => false, fun j => match xs[j]? with | some a => f a | none => .none,
    fun m => match xs[m]? with | some a => ((wipeR ρ (own.map (·.2))).set i (some (.d (g1 a)))).set j (some (.d (g2 a))) | none => [], hc, hN, hi, ok, tgs_pair i j, fun k hk => by
      have : k = i ∨ k = j := by simpa using hk
      rcases this with z | z <;> rw [z]
      · exact his.1
      · exact his.2, fun j d e => ?_, fun _ _ _ => rfl, by rw [List.length_map]; exact hz, hg, fun j hj s H C cl fp => ?_, fun j hj hp s H C cl fp => ?_, ?_, rfl⟩
  · rw [List.getElem?_map] at e
    cases q : xs[j]? with
    | none => rw [q] at e; cases e
    | some a =>
      rw [q] at e
      cases e
      simp only [gP]
      exact ⟨_, _, rfl, by simp only [q]⟩
  · obtain ⟨a, ea, ma⟩ := at' j hj
    simp only [ea]
    exact htest a ma s H C cl fp
  · obtain ⟨a, ea, ma⟩ := at' j hj
    simp only [ea] at hp ⊢
    exact helt a ma hp s H C cl fp
  · rw [List.length_map]
    exact (pick_map xs p f _ _ (fun j a e => by simp only [e]) (fun j a e => by simp only [e])).symm
/-! ### statements -/
variable {st : Stmt} {sts : List Stmt} {r : Sl} {o : Oc}
theorem h_nil (k : True := trivial) : PSs X [] (oS W ρ (.nx W ρ)) := PSsto pss_nil fun D σ H ⟨Z, c, k⟩ => k σ H (Go.refl _ H) c
theorem h_cons {ρ1 : Rho} (h1 : PS X st (oS W ρ (.nx W1 ρ1))) (h2 : PSs X sts (oS W1 ρ1 o)) : PSs X (st :: sts) (oS W ρ o) := by
  refine PSsto (pss_cons h1 h2) fun D σ H q => ?_
  cases o with
  | nx W2 ρ2 =>
    obtain ⟨Z, c, k⟩ := q
    exact ⟨Z, c, fun σ' H' g c' => ⟨Z, c', fun σ2 H2 g2 c2 => k σ2 H2 (g.trans g2) c2⟩⟩
  | rt r W2 =>
    obtain ⟨Z, c, k⟩ := q
    exact ⟨Z, c, fun σ' H' g c' => ⟨Z, c', fun v H2 g2 d2 q2 => k v H2 (g.trans g2) d2 q2⟩⟩
theorem h_one (h : PS X st (oS W ρ o)) : PSs X [st] (oS W ρ o) := by
  cases o with
  | nx W2 ρ2 => exact PSsto (pss_one h) fun D σ H q => q
  | rt r W2 => exact PSsto (pss_one h) fun D σ H q => q
/-- a statement that returns ahead of others -/
theorem h_ret (h : PS X st (oS W ρ (.rt r W1))) : PSs X (st :: sts) (oS W ρ (.rt r W1)) := by
  refine PSsto (pss_cons h pss_never) fun D σ H q => q
theorem s_ret (h : PE X e (tE W ρ r W1)) : PS X (.Return (some e) pos) (oS W ρ (.rt r W1)) := PSto (ps_ret h) fun D σ H q => q
theorem s_retE {r' : Sl} (h : PE X e (tE W ρ r W1)) (q : r = r') : PS X (.Return (some e) pos) (oS W ρ (.rt r' W1)) := q ▸ s_ret h
theorem h_if {c : Expr} {as bs : List Stmt} {k : Bool} (hc : PT X c (tT W ρ k W1)) (h1 : k = true → PSs X as (oS W1 ρ o)) (h2 : k = false → PSs X bs (oS W1 ρ o)) : PS X (.If c as bs pos) (oS W ρ o) := by
  refine ⟨fun pins s σ H D I q => ?_⟩
  have go : ∀ Z, Cf (Z ++ W) ρ σ H → (∀ H1, Go (Z ++ W) (Z ++ W1) H H1 → Hd (Z ++ W1) H1 → oS W1 ρ o D σ H1) → wpAny (model X.prog X.w) X.A (exec (.If c as bs pos) X.env) (SP X pins D) X.xe s := fun Z cf k2 => by
    refine wpAny_If (thn (hc.run pins s σ H (fun k' H1 => k' = k ∧ oS W1 ρ o D σ H1) I ⟨Z, cf, fun H1 g1 d1 => ⟨rfl, k2 H1 g1 d1⟩⟩) fun k' s1 ⟨H1, I1, e, q1⟩ => ?_)
    subst e
    cases k' with
    | true => exact (h1 rfl).run pins s1 σ H1 D I1 q1
    | false => exact (h2 rfl).run pins s1 σ H1 D I1 q1
  cases o with
  | nx W2 ρ2 =>
    obtain ⟨Z, c, k⟩ := q
    exact go Z c fun H1 g1 d1 => ⟨Z, c.go g1 d1, fun σ2 H2 g2 c2 => k σ2 H2 (g1.trans g2) c2⟩
  | rt r W2 =>
    obtain ⟨Z, c, k⟩ := q
    exact go Z c fun H1 g1 d1 => ⟨Z, c.go g1 d1, fun v H2 g2 d2 q2 => k v H2 (g1.trans g2) d2 q2⟩
/-- if c: (returns); then the rest -/
theorem h_ifR {c : Expr} {as : List Stmt} {k : Bool} (hc : PT X c (tT W ρ k W1)) (h1 : k = true → PSs X as (oS W1 ρ (.rt r W2))) (h2 : k = false → PSs X sts (oS W1 ρ (.rt r W2))) : PSs X (.If c as [] pos :: sts) (oS W ρ (.rt r W2)) := by
  cases k with
  | true => exact h_ret (h_if hc h1 fun q => nomatch q)
  | false => exact h_cons (h_if hc (fun q => nomatch q) fun _ => h_nil) (h2 rfl)
theorem s_set (i : Nat) (h : PE X e (tE W ρ r W1)) (hN : X.N.Nodup) (hs : swapsWith e (some (.Name x px)) pos.line X.env = pure false := by rfl) (hi : X.N[i]? = some x := by rfl) (hx : Loc X.env.scope x := by first | exact Or.inl rfl | exact Or.inr rfl)
    (hf : X.fn x = true ∨ X.env.scope.names.lookup x = some .local := by first | exact .inl rfl | exact .inr rfl) : PS X (.Assign [.Name x px] e pos) (oS W ρ (.nx W1 (ρ.set i (some r)))) :=
  PSto (ps_set hN hi hx h hs hf) fun D σ H ⟨Z, c, k⟩ => ⟨Z, c, fun v H1 g1 d1 q1 => k _ H1 g1 ((c.go g1 d1).set q1 i)⟩
theorem s_setC {scope : Scope} {rs : List PyData} {cpos : Pos} (i : Nat) (C : CompP X tg iter elt ifs scope W ρ rs W1) (hs : ∀ x, foldedSetIterable iter X.env x = pure x := by intro _; rfl) (hi : X.N[i]? = some y := by rfl) (hl : X.env.scope.names.lookup y = some .local := by rfl)
    (hsw : swapsWith (.ListComp elt [⟨tg, iter, ifs, 0⟩] scope cpos) (some (.Name y px)) pos.line X.env = pure true := by exact sw_true rfl rfl rfl (by kernel_rfl)) :
    PS X (.Assign [.Name y px] (.ListComp elt [⟨tg, iter, ifs, 0⟩] scope cpos) pos) (oS W ρ (.nx W1 (ρ.set i (some (.d (.list rs)))))) := by
  obtain ⟨t, _, h1, h2⟩ := C.to (pos := cpos) hs
  exact PSto (h1 hi hl hsw) fun D σ H ⟨Z, c, k⟩ => h2 σ H _ ⟨Z, c, fun v H1 g1 d1 q1 => k _ H1 g1 ((c.go g1 d1).set q1 i)⟩
/-- knowing less of the slots -/
def Wk : Rho → Rho → Prop
  | [], [] => True
  | a :: r, b :: s => (b = none ∨ a = b) ∧ Wk r s
  | _, _ => False
theorem Wk.len : ∀ {a b : Rho}, Wk a b → b.length = a.length
  | [], [], _ => rfl
  | _ :: _, _ :: _, h => by rw [List.length_cons, List.length_cons, Wk.len h.2]
theorem Wk.get : ∀ {a b : Rho} {i : Nat} {s : Sl}, Wk a b → b[i]? = some (some s) → a[i]? = some (some s)
  | [], [], i, s, _, e => by simp at e
  | a :: r, b :: t, 0, s, h, e => by
    simp at e
    subst e
    rcases h.1 with z | z
    · cases z
    · rw [z]; rfl
  | a :: r, b :: t, i + 1, s, h, e => by
    simp at e
    have := Wk.get (i := i) h.2 e
    simpa using this
theorem Wk.refl : ∀ a : Rho, Wk a a
  | [] => trivial
  | _ :: r => ⟨.inr rfl, Wk.refl r⟩
theorem Cf.wk {ρ' : Rho} {σ : L2.St} {H : Hp} (c : Cf W ρ σ H) (h : Wk ρ ρ') : Cf W ρ' σ H := ⟨c.len.trans h.len.symm, c.hd, fun i s e => c.env i s (h.get e)⟩
theorem hs_wk {ρ1 ρ2 : Rho} (h : PSs X sts (oS W ρ (.nx W1 ρ1))) (w : Wk ρ1 ρ2) : PSs X sts (oS W ρ (.nx W1 ρ2)) := PSsto h fun D σ H ⟨Z, c, k⟩ => ⟨Z, c, fun σ' H' g c' => k σ' H' g (c'.wk w)⟩
/-- a for: Wf, ρf by the turn -/
theorem s_for {body : List Stmt} {t : TG} {is : List Nat} {g : PyData → Rho → Rho → Prop} (Wf : Nat → List Ow) (ρf ρb : Nat → Rho) (ht : TgS t X.K is g) (hg : PG X tg t) (hi : PI X tg iter (tI W ρ ds (Wf 0))) (h0 : Wk ρ (ρf 0)) (hρ : ∀ i d, ds[i]? = some d → g d (ρf i) (ρb i))
    (hb : ∀ i, i < ds.length → PSs X body (oS (Wf i) (ρb i) (.nx (Wf (i + 1)) (ρf (i + 1))))) (hp : PassesOwn (model X.prog X.w) X.A X.env X.xe := by exact PassesOwn.never) (hc : X.calm = true := by rfl) (hs : ∀ x, foldedSetIterable iter X.env x = pure x := by intro _; rfl) :
    PS X (.For tg iter body [] pos) (oS W ρ (.nx (Wf ds.length) (ρf ds.length))) := by
  have hb' : PSs X body (fun D σ H => ∃ i, i < ds.length ∧ oS (Wf i) (ρb i) (.nx (Wf (i + 1)) (ρf (i + 1))) D σ H) := ⟨fun pins s σ H D I ⟨i, h1, h2⟩ => (hb i h1).run pins s σ H D I h2⟩
  refine PSto (ps_for hp hc hi hg hb' hs) fun D σ H ⟨Z, c, k⟩ => ⟨Z, c, fun J H1 g1 d1 wk => ?_⟩
  have c1 := (c.go g1 d1).wk h0
  refine ⟨fun i m σ' H' => m = ds.length - i ∧ i ≤ ds.length ∧ Cf (Z ++ Wf i) (ρf i) σ' H' ∧ Go (Z ++ Wf 0) (Z ++ Wf i) H1 H', ⟨ds.length, by simp, Nat.zero_le _, c1, Go.refl _ _⟩, ?_⟩
  rintro i m σ' H' ⟨rfl, hi, cf, go⟩
  obtain ⟨w1, w2, w3⟩ := wk _ H' cf.hd.lv go.off
  by_cases hlt : i < ds.length
  · refine .inr ⟨w1 i hlt, fun σ2 H2 => Cf (Z ++ Wf (i + 1)) (ρf (i + 1)) σ2 H2 ∧ Go (Z ++ Wf 0) (Z ++ Wf (i + 1)) H1 H2, fun σ2 H2 ⟨a, b⟩ => ⟨ds.length - (i + 1), by omega, rfl, hlt, a, b⟩, fun x H2 y => ?_⟩
    obtain ⟨d, hd⟩ : ∃ d, ds[i]? = some d := ⟨_, List.getElem?_eq_getElem hlt⟩
    obtain ⟨sm, dx⟩ := w3 i d x H2 hd y
    have cf2 := cf.go (Go.same sm) (cf.hd.same sm)
    have go2 := go.trans (Go.same sm)
    exact ht _ _ _ d x _ H2 _ cf2 dx (hρ i d hd) fun σ3 hl hk c3 => ⟨i, hlt, Z, c3, fun σ4 H4 g4 c4 => ⟨c4, go2.trans g4⟩⟩
  · have e : i = ds.length := by omega
    subst e
    exact .inl ⟨w2, k σ' H' (g1.trans go) cf⟩
/-- a while of a known number of turns -/
theorem s_while {c : Expr} {body : List Stmt} (n : Nat) (Wf Wm : Nat → List Ow) (ρf : Nat → Rho) (hW : Wf 0 = W) (h0 : Wk ρ (ρf 0)) (hc : ∀ i, i ≤ n → PT X c (tT (Wf i) (ρf i) (decide (i < n)) (Wm i))) (hb : ∀ i, i < n → PSs X body (oS (Wm i) (ρf i) (.nx (Wf (i + 1)) (ρf (i + 1)))))
    (hp : PassesOwn (model X.prog X.w) X.A X.env X.xe := by exact PassesOwn.never) : PS X (.While c body [] pos) (oS W ρ (.nx (Wm n) (ρf n))) := by
  subst hW
  have hc' : PT X c (fun σ H Q => ∃ i, i ≤ n ∧ tT (Wf i) (ρf i) (decide (i < n)) (Wm i) σ H Q) := ⟨fun pins s σ H Q I ⟨i, h1, h2⟩ => (hc i h1).run pins s σ H Q I h2⟩
  have hb' : PSs X body (fun D σ H => ∃ i, i < n ∧ oS (Wm i) (ρf i) (.nx (Wf (i + 1)) (ρf (i + 1))) D σ H) := ⟨fun pins s σ H D I ⟨i, h1, h2⟩ => (hb i h1).run pins s σ H D I h2⟩
  refine PSto (ps_while hp hc' hb') fun D σ H ⟨Z, cf, k⟩ => ?_
  refine ⟨fun m σ' H' => ∃ i, i ≤ n ∧ m = n - i ∧ Cf (Z ++ Wf i) (ρf i) σ' H' ∧ Go (Z ++ Wf 0) (Z ++ Wf i) H H', ⟨n, 0, Nat.zero_le _, rfl, cf.wk h0, Go.refl _ _⟩, ?_⟩
  rintro m σ' H' ⟨i, hi, rfl, c1, g1⟩
  refine ⟨i, hi, Z, c1, fun H2 g2 d2 => ?_⟩
  show if decide (i < n) = true then _ else _
  have c2 := c1.go g2 d2
  by_cases hlt : i < n
  · rw [decide_eq_true hlt, if_pos rfl]
    exact ⟨fun σ3 H3 => Cf (Z ++ Wf (i + 1)) (ρf (i + 1)) σ3 H3 ∧ Go (Z ++ Wf 0) (Z ++ Wf (i + 1)) H H3, fun σ3 H3 ⟨a, b⟩ => ⟨n - (i + 1), by omega, i + 1, hlt, rfl, a, b⟩, i, hlt, Z, c2, fun σ3 H3 g3 c3 => ⟨c3, (g1.trans g2).trans g3⟩⟩
  · have e : i = n := by omega
    subst e
    rw [decide_eq_false hlt, if_neg Bool.false_ne_true]
    exact k σ' H2 (g1.trans g2) c2
/-- x += 1 and its like -/
theorem s_aug {op : Operator} {f : Int → Int → Int} {i j : Int} (k : Nat) (ho : PIp X op (ipI f)) (he : PE X e (tE W ρ (I_ j) W1)) (hr : ρ[k]? = some (some (I_ i))) (hN : X.N.Nodup) (hi : X.N[k]? = some x := by rfl) (hx : Loc X.env.scope x := by first | exact Or.inl rfl | exact Or.inr rfl)
    (hf : X.fn x = true ∨ X.env.scope.names.lookup x = some .local := by first | exact .inl rfl | exact .inr rfl) : PS X (.AugAssign (.Name x px) op e pos) (oS W ρ (.nx W1 (ρ.set k (some (I_ (f i j)))))) :=
  PSto (ps_aug hN hi hx he ho hf) fun D σ H ⟨Z, c, q⟩ => by
    obtain ⟨v, h1, h2⟩ := c.env k _ hr
    rw [rp_int] at h2
    subst h2
    refine ⟨_, h1, Z, c, fun v H1 g1 d1 q1 => ?_⟩
    rw [rp_int] at q1
    exact ⟨i, j, rfl, q1, q _ H1 g1 ((c.go g1 d1).set (s := I_ (f i j)) (by rw [rp_int]) k)⟩
/-- a, b = thing (a pair) -/
theorem s_unpack {es : List Expr} {kk : Nat} {tpos : Pos} {d1 d2 : PyData} (i j : Nat) (he : PE X e (tE W ρ (.d (.tuple [d1, d2])) W1)) (hg : PG X (.Tuple es kk tpos) (gTup X.K 2 (gCons (gName i) (gCons (gName j) gNil))))
    (hs : swapsWithSole [.Tuple es kk tpos] e pos.line X.env = pure false := by rfl) (hw : swappedStores [.Tuple es kk tpos] e X.env = pure none := by rfl) (h1 : (assignEach [.Tuple es kk tpos] X.env).map (·.2) = [assign (.Tuple es kk tpos) X.env] := by rfl) :
    PS X (.Assign [.Tuple es kk tpos] e pos) (oS W ρ (.nx W1 ((ρ.set i (some (.d d1))).set j (some (.d d2))))) :=
  PSto (ps_asg he hg hs hw h1) fun D σ H ⟨Z, c, k⟩ => ⟨Z, c, fun v H1 g1 dd q1 => by
    exact tgs_pair i j _ _ _ _ v σ H1 _ (c.go g1 dd) q1 ⟨d1, d2, rfl, rfl⟩ fun σ' hl hk c' => k σ' H1 g1 c'⟩
end
end SG
set_option Elab.async false
set_option linter.all false
set_option maxRecDepth 100000
set_option maxHeartbeats 4000000
/-! defs: what they promise, how they are called -/
namespace SG
open PySem PySem.Spec PyProof.Rows L2
def CXn : CXT := fun _ _ _ _ _ _ => False
theorem passn {X : Cx} {E : XK} : Passes CXn X E := fun _ _ _ _ _ _ _ h => h.elim
/-- a def's promise; g: nothing is being told (repr) around it -/
structure FnG (P : Program) (w : World) (K : PySem.W.Frag) (mg : Str → Option Value) (base : Heap) (g : Bool) (CX : CXT) (k : Nat) (f : Addr) (fd : FuncData) (ps : List Str) (sp : Sp) : Prop where
  ln : ∀ vs H Q E, sp vs H Q E → vs.length = ps.length
  go : ∀ (A : Around) (outer : List Env) (s : Shared) (H : Hp) (args : Args) (us : List Value) (vs : List V) (Q : VK) (E : XK), Room k A → (g = true → A.guards = some []) → Env0 P w K mg base A outer s H →
    BindsTo s fd args (ps.zip us) → Vals vs us → sp vs H Q E → codeAny (model P w) A (.call (.ref f) args) (CR CX outer P w H s Q E) s
section
variable {P : Program} {w : World} {K : PySem.W.Frag} {mg : Str → Option Value} {base : Heap}
theorem FnG.of {g : Bool} {CX : CXT} {x qual : Str} {params : Arguments} {body : List Stmt} {scope : Scope} {f : Addr} {fd : FuncData} {N ps : List Str} {k : Nat} {sp : Sp} (F : FunD K x qual params body scope [] [] f fd) (S : FnScope N ps scope) (ln : ∀ vs H Q E, sp vs H Q E → vs.length = ps.length)
    (hb : ∀ (cdv : Value) (A : Around) (outer : List Env) (s : Shared) (H : Hp) (vs : List V) (Q : VK) (E : XK), Room k (A.deeper (envOfC qual scope s.heap.objs.size f cdv)) → (g = true → (A.deeper (envOfC qual scope s.heap.objs.size f cdv)).guards = some []) → sp vs H Q E →
      ∃ t, PSs (cxOf CX P w K mg base N qual scope f cdv A outer s H E) body t ∧ t { nx := fun _ H' => Q .non H', rt := Q } (start N vs) H) : FnG P w K mg base g CX (k + 1) f fd ps sp := by
  obtain ⟨oc, od, dV, kV, doc, pm, an, cdv, ct, osl, rfl, lk, hcd, _, _⟩ := F.ex
  refine ⟨ln, fun A outer s H args us vs Q E room hg e0 bt rv hsp => ?_⟩
  have kin : K.In s.heap := e0.mod.kin.keeps fun b o e => (e0.bs b o e).1
  have nl : s.heap.NoLimit := e0.mod.nolimit.keeps fun b o e => (e0.bs b o e).1
  refine codeAny_call_function room.depth (kin _ _ lk) rfl S.co S.gen rfl (PySem.W.codeRec_of kin hcd) (bt _ _ _ _ ?_)
  refine wpAny_newFunctionEnv_cells S.kind (fun y hy => ?_) fun env he s1 ic => ?_
  · rcases S.par y.1 (List.of_mem_zip (a := y.1) (b := y.2) hy).1 with q | q
    · exact .inl q
    · exact .inr ⟨q, PySem.W.cellsFrom_some _ _ _ (.inl q)⟩
  subst he
  obtain ⟨t, ht, hq⟩ := hb cdv A outer s H vs Q E (room.deeper _) (fun z => hg z) hsp
  have J := inv_start (CX := CX) (cd := cdv) (qual := qual) (E := E) (f := f) S room.hd e0 (ln _ _ _ _ hsp) rv ic
  refine ⟨nl.keeps ic.toInCall.keep, codeAny_func (wpAny_mono (ht.run [] s1 (start N vs) H _ J hq) (fun fl s' z => ?_) fun e s' z => z)⟩
  cases fl with
  | next =>
    obtain ⟨σ', H', I', q⟩ := z
    exact ⟨.non, H', I'.os, I'.bare, I'.base, I'.hok, rfl, q⟩
  | ret u =>
    obtain ⟨v, σ', H', I', rv', q⟩ := z
    exact ⟨v, H', I'.os, I'.bare, I'.base, I'.hok, rv', q⟩
  | brk =>
    obtain ⟨_, _, _, q⟩ := z
    cases q
  | cont =>
    obtain ⟨_, _, _, q⟩ := z
    cases q
theorem FnG.mono {g : Bool} {CX : CXT} {j k : Nat} {f : Addr} {fd : FuncData} {ps : List Str} {sp : Sp} (F : FnG P w K mg base g CX j f fd ps sp) (h : j ≤ k) : FnG P w K mg base g CX k f fd ps sp :=
  ⟨F.ln, fun A outer s H args us vs Q E hr => F.go A outer s H args us vs Q E (hr.mono h)⟩
abbrev Spec := List Ow → List Sl → Sl → List Ow → Prop
def spR (F : Spec) (n : Nat) : Sp := fun vs H Q _ => vs.length = n ∧ ∃ Z W rs r W', Hd (Z ++ W) H ∧ RpL (off (adrs (Z ++ W)) H) rs vs ∧ F W rs r W' ∧ ∀ v H', Go (Z ++ W) (Z ++ W') H H' → Hd (Z ++ W') H' → Rp (off (adrs (Z ++ W')) H') r v → Q v H'
structure Fn (P : Program) (w : World) (K : PySem.W.Frag) (mg : Str → Option Value) (base : Heap) (g : Bool) (k : Nat) (x : Str) (F : Spec) : Prop where
  ex : ∃ (f : Addr) (fd : FuncData) (ps : List Str), FnG P w K mg base g CXn k f fd ps (spR F ps.length) ∧ mg x = some (.ref f) ∧ PySem.W.keepIn K (.ref f) = true ∧ Binds K fd ps [] ∧ ∀ W rs r W', F W rs r W' → rs.length = ps.length
theorem Fn.mono {g : Bool} {j k : Nat} {x : Str} {F : Spec} (c : Fn P w K mg base g j x F) (h : j ≤ k) : Fn P w K mg base g k x F := by
  obtain ⟨f, fd, ps, a, b⟩ := c.ex
  exact ⟨f, fd, ps, a.mono h, b⟩
end
theorem run_g {X : Cx} {CX : CXT} {g : Bool} {k : Nat} {f : Addr} {fd : FuncData} {ps : List Str} {sp : Sp} {E : XK} {pins : List (Addr × Obj)} {σ : L2.St} {H : Hp} {s : Shared} {Q : VK} {us : List Value} {vs : List V} (F : FnG X.prog X.w X.K X.mg X.base g CX k f fd ps sp) (hr : Room k X.A) (hg : g = true → X.A.guards = some [])
    (hb : Binds X.K fd ps []) (hx : Passes CX X E) (I : Inv X pins σ H s) (r : Vals vs us) (h : sp vs H Q E) : wpAny (model X.prog X.w) X.A (call (.ref f) us) (EP X pins σ Q) X.xe s := by
  have l1 : us.length = ps.length := r.length.symm.trans (F.ln _ _ _ _ h)
  have b1 := hb s us I.kIn (by rw [List.append_nil]; exact l1)
  rw [List.append_nil] at b1
  refine wpAny_call (codeAny_mono (F.go X.A X.stack s H ⟨us, []⟩ us vs Q E hr hg I.env0 b1 r h) fun z s' hq => ?_)
  match z, hq with
  | .error e, hq => exact hx pins σ H s e s' I hq
  | .ok (.ret u), hq => exact I.after hq
  | .ok .next, hq => cases hq
  | .ok .brk, hq => cases hq
  | .ok .cont, hq => cases hq
section
variable {X : Cx} {x : Str} {p pos : Pos} {e : Expr} {es : List Expr} {W L Wc Wc' : List Ow} {ρ : Rho} {rs : List Sl} {r : Sl} {F : Spec} {k : Nat}
theorem e_callG {g : Bool} (c : Fn X.prog X.w X.K X.mg X.base g k x F) (h : F Wc rs r Wc') (hr : Room k X.A) (hgd : g = true → X.A.guards = some []) (ha : PA X (e :: es) (tA W ρ rs (L ++ Wc))) (hg : Gl X x := by rfl)
    (hdb : (x == ("__debug__" : Str)) = false := by decide) (he : starEach (e :: es) X.env = (false, eval e X.env) :: starEach es X.env := by rfl) (hpl : (backTo pos (starEach es X.env)).any (·.1) = false := by rfl) :
    PE X (.Call (.Name x p) (e :: es) [] pos) (tE W ρ r (L ++ Wc')) := by
  obtain ⟨f, fd, ps, F', hm, hk, hb, hl⟩ := c.ex
  refine ⟨fun pins s σ H Q I hq => ?_⟩
  obtain ⟨Z, cf, q⟩ := hq
  refine wpAny_Call_Name_kw (ld_glob I hg hm ?_ hdb)
  refine PySem.W.callWith_K (h₀ := X.base) I.ok.mod.kin hk (thn (ha.run pos pins s σ H (fun vs H1 => spR F ps.length vs H1 Q fun _ _ _ => False) I ⟨Z, cf, fun vs H1 g1 d1 q1 => ?_⟩) fun us s1 ⟨vs, H1, I1, r1, q1⟩ => ⟨I1.kIn, run_g F' hr hgd hb passn I1 r1 q1⟩) he hpl
  refine ⟨by rw [q1.length]; exact hl _ _ _ _ h, Z ++ L, Wc, rs, r, Wc', by rw [List.append_assoc]; exact d1, by rw [List.append_assoc]; exact q1, h, fun v H2 g2 d2 q2 => ?_⟩
  rw [List.append_assoc] at g2 d2 q2
  rw [List.append_assoc] at g2
  exact q v H2 (g1.trans g2) d2 q2
theorem e_call (c : Fn X.prog X.w X.K X.mg X.base false k x F) (h : F Wc rs r Wc') (hr : Room k X.A) (ha : PA X (e :: es) (tA W ρ rs (L ++ Wc))) (hg : Gl X x := by rfl)
    (hdb : (x == ("__debug__" : Str)) = false := by decide) (he : starEach (e :: es) X.env = (false, eval e X.env) :: starEach es X.env := by rfl) (hpl : (backTo pos (starEach es X.env)).any (·.1) = false := by rfl) :
    PE X (.Call (.Name x p) (e :: es) [] pos) (tE W ρ r (L ++ Wc')) := e_callG c h hr (fun z => nomatch z) ha hg hdb he hpl
/-- a def that owns nothing -/
theorem e_callP (c : Fn X.prog X.w X.K X.mg X.base false k x F) (h : F [] rs r []) (hr : Room k X.A) (ha : PA X (e :: es) (tA W ρ rs L)) (hg : Gl X x := by rfl)
    (hdb : (x == ("__debug__" : Str)) = false := by decide) (he : starEach (e :: es) X.env = (false, eval e X.env) :: starEach es X.env := by rfl) (hpl : (backTo pos (starEach es X.env)).any (·.1) = false := by rfl) :
    PE X (.Call (.Name x p) (e :: es) [] pos) (tE W ρ r L) := by
  refine PEto (e_call (p := p) (pos := pos) (L := L) c h hr (by rw [List.append_nil]; exact ha) hg hdb he hpl) fun σ H Q q => ?_
  rw [List.append_nil]
  exact q
end
/-! ### a def by its body -/
def st0 (N : List Str) (rs : List Sl) : Rho := rs.map some ++ List.replicate (N.length - rs.length) none
theorem cf_start {W : List Ow} {H : Hp} {N : List Str} {rs : List Sl} {vs : List V} (hd : Hd W H) (h : RpL (off (adrs W) H) rs vs) : Cf W (st0 N rs) (L2.start N vs) H := by
  have e := h.length
  refine ⟨by unfold st0 L2.start; simp [e], hd, fun i s q => ?_⟩
  unfold st0 at q
  unfold L2.start
  by_cases hi : i < rs.length
  · rw [List.getElem?_append_left (by simpa using hi), List.getElem?_map] at q
    cases z : rs[i]? with
    | none => rw [z] at q; cases q
    | some s' =>
      rw [z] at q
      cases q
      obtain ⟨v, h1, h2⟩ := h.get z
      exact ⟨v, by rw [List.getElem?_append_left (by simpa [e] using hi), List.getElem?_map, h1]; rfl, h2⟩
  · rw [List.getElem?_append_right (by simpa using hi), List.getElem?_replicate] at q
    split at q <;> cases q
/-- the context of a def's body; nothing is raised -/
abbrev bX (P : Program) (w : World) (K : PySem.W.Frag) (mg : Str → Option Value) (base : Heap) (N : List Str) (x : Str) (st : Stmt) (f : Addr) (cdv : Value) (A : Around) (outer : List Env) (s : Shared) (H : Hp) (E : XK) : Cx :=
  (cxOf CXn P w K mg base N x (C8.fnScope st) f cdv A outer s H E).nox
/-- what is known of the defs -/
def DfOk (K : PySem.W.Frag) (mg : Str → Option Value) (x : Str) (st : Stmt) : Prop := ∃ (f : Addr) (fd : FuncData), FunD K x x (C8.fnArgs st) (C8.fnBody st) (C8.fnScope st) [] [] f fd ∧ mg x = some (.ref f)
section
variable {P : Program} {w : World} {K : PySem.W.Frag} {mg : Str → Option Value} {base : Heap} {x : Str} {st : Stmt} {N ps : List Str} {k : Nat} {F : Spec}
abbrev BindsF (x : Str) (st : Stmt) (ps : List Str) : Prop := ∀ (kV doc pm : Value) (an : Option Addr) (cdv ct : Value) (us : List Value), us.length = ps.length → bindArgs (PySem.W.fnOf x x (C8.fnArgs st) (C8.fnBody st) (C8.fnScope st) .none kV doc pm an cdv ct) ⟨us, []⟩ = pure (ps.zip us)
theorem Fn.ofG {g : Bool} (D : DfOk K mg x st) (S : FnScope N ps (C8.fnScope st)) (hb : BindsF x st ps) (hl : ∀ W rs r W', F W rs r W' → rs.length = ps.length)
    (body : ∀ (f : Addr) (cdv : Value) (A : Around) (outer : List Env) (s : Shared) (H : Hp) (E : XK), Room k (bX P w K mg base N x st f cdv A outer s H E).A → (g = true → (bX P w K mg base N x st f cdv A outer s H E).A.guards = some []) → ∀ W rs r W', F W rs r W' →
      PSs (bX P w K mg base N x st f cdv A outer s H E) (C8.fnBody st) (oS W (st0 N rs) (.rt r W'))) : Fn P w K mg base g (k + 1) x F := by
  obtain ⟨f, fd, D, hm⟩ := D
  refine ⟨f, fd, ps, FnG.of D S (fun vs H Q E h => h.1) fun cdv A outer s H vs Q E hr hg h => ?_, hm, D.kp, D.bindsN hb, hl⟩
  obtain ⟨_, Z, W, rs, r, W', hd, hv, hF, hq⟩ := h
  exact ⟨_, PSs.nox (body f cdv A outer s H E hr hg W rs r W' hF), Z, cf_start hd hv, hq⟩
theorem Fn.of (D : DfOk K mg x st) (S : FnScope N ps (C8.fnScope st)) (hb : BindsF x st ps) (hl : ∀ W rs r W', F W rs r W' → rs.length = ps.length)
    (body : ∀ (f : Addr) (cdv : Value) (A : Around) (outer : List Env) (s : Shared) (H : Hp) (E : XK), Room k (bX P w K mg base N x st f cdv A outer s H E).A → ∀ W rs r W', F W rs r W' →
      PSs (bX P w K mg base N x st f cdv A outer s H E) (C8.fnBody st) (oS W (st0 N rs) (.rt r W'))) : Fn P w K mg base false (k + 1) x F :=
  Fn.ofG D S hb hl fun f cdv A outer s H E hr _ => body f cdv A outer s H E hr
end
end SG
set_option Elab.async false
set_option linter.all false
set_option maxRecDepth 100000
set_option maxHeartbeats 4000000
/-! shorter rules: known truths, lots -/
namespace SG
open PySem PySem.Spec PyProof.Rows L2
abbrev Sh (d : PyData) : Prop := SeqAt.shaped d = true
theorem Sh.nd {d : PyData} (h : Sh d) : ∀ k, d ≠ .dict k := fun k e => by subst e; cases h
section
variable {X : Cx} {tg e iter elt a b c : Expr} {es : List Expr} {pos px : Pos} {W W0 W1 W2 W3 : List Ow} {ρ : Rho} {r ra rb rc : Sl}
theorem v_andT {k : Bool} (h : PE X a (tE W ρ (B_ true) W1)) (h2 : PE X (.BoolOp .And (b :: es) pos) (tE W1 ρ (B_ k) W2)) : PE X (.BoolOp .And (a :: b :: es) pos) (tE W ρ (B_ k) W2) := v_and h (fun _ => h2) fun z => nomatch z
theorem v_andF (h : PE X a (tE W ρ (B_ false) W1)) : PE X (.BoolOp .And (a :: b :: es) pos) (tE W ρ (B_ false) W1) := v_and h (fun z => nomatch z) fun z => ⟨rfl, rfl⟩
theorem v_orF {k : Bool} (h : PE X a (tE W ρ (B_ false) W1)) (h2 : PE X (.BoolOp .Or (b :: es) pos) (tE W1 ρ (B_ k) W2)) : PE X (.BoolOp .Or (a :: b :: es) pos) (tE W ρ (B_ k) W2) := v_or h (fun _ => h2) fun z => nomatch z
theorem v_orT (h : PE X a (tE W ρ (B_ true) W1)) : PE X (.BoolOp .Or (a :: b :: es) pos) (tE W ρ (B_ true) W1) := v_or h (fun z => nomatch z) fun z => ⟨rfl, rfl⟩
theorem v_andP {k j : Bool} (h : PE X a (tE W ρ (B_ k) W)) (h2 : PE X (.BoolOp .And (b :: es) pos) (tE W ρ (B_ j) W)) : PE X (.BoolOp .And (a :: b :: es) pos) (tE W ρ (B_ (k && j)) W) := v_and h (fun z => by subst z; exact h2) fun z => by subst z; exact ⟨rfl, rfl⟩
theorem v_orP {k j : Bool} (h : PE X a (tE W ρ (B_ k) W)) (h2 : PE X (.BoolOp .Or (b :: es) pos) (tE W ρ (B_ j) W)) : PE X (.BoolOp .Or (a :: b :: es) pos) (tE W ρ (B_ (k || j)) W) := v_or h (fun z => by subst z; exact h2) fun z => by subst z; exact ⟨rfl, rfl⟩
theorem w_andT {k : Bool} (h : PT X a (tT W ρ true W1)) (h2 : PW X (.BoolOp .And (b :: es) pos) (tT W1 ρ k W2)) : PW X (.BoolOp .And (a :: b :: es) pos) (tT W ρ k W2) := w_and h (fun _ => h2) fun z => nomatch z
theorem w_andF (h : PT X a (tT W ρ false W1)) : PW X (.BoolOp .And (a :: b :: es) pos) (tT W ρ false W1) := w_and h (fun z => nomatch z) fun z => ⟨rfl, rfl⟩
theorem w_orF {k : Bool} (h : PT X a (tT W ρ false W1)) (h2 : PW X (.BoolOp .Or (b :: es) pos) (tT W1 ρ k W2)) : PW X (.BoolOp .Or (a :: b :: es) pos) (tT W ρ k W2) := w_or h (fun _ => h2) fun z => nomatch z
theorem w_orT (h : PT X a (tT W ρ true W1)) : PW X (.BoolOp .Or (a :: b :: es) pos) (tT W ρ true W1) := w_or h (fun z => nomatch z) fun z => ⟨rfl, rfl⟩
theorem w_andP {k j : Bool} (h : PT X a (tT W ρ k W)) (h2 : PW X (.BoolOp .And (b :: es) pos) (tT W ρ j W)) : PW X (.BoolOp .And (a :: b :: es) pos) (tT W ρ (k && j) W) := w_and h (fun z => by subst z; exact h2) fun z => by subst z; exact ⟨rfl, rfl⟩
theorem w_orP {k j : Bool} (h : PT X a (tT W ρ k W)) (h2 : PW X (.BoolOp .Or (b :: es) pos) (tT W ρ j W)) : PW X (.BoolOp .Or (a :: b :: es) pos) (tT W ρ (k || j) W) := w_or h (fun z => by subst z; exact h2) fun z => by subst z; exact ⟨rfl, rfl⟩
theorem v_notT (h : PE X a (tE W ρ (B_ false) W1)) : PE X (.UnaryOp .Not a pos) (tE W ρ (B_ true) W1) := v_not h
theorem v_notF (h : PE X a (tE W ρ (B_ true) W1)) : PE X (.UnaryOp .Not a pos) (tE W ρ (B_ false) W1) := v_not h
theorem t_notT (h : PT X a (tT W ρ false W1)) : PT X (.UnaryOp .Not a pos) (tT W ρ true W1) := t_not h
theorem t_notF (h : PT X a (tT W ρ true W1)) : PT X (.UnaryOp .Not a pos) (tT W ρ false W1) := t_not h
theorem e_ifT (hc : PT X c (tT W ρ true W1)) (h : PE X a (tE W1 ρ r W2)) : PE X (.IfExp c a b pos) (tE W ρ r W2) := e_if hc (fun _ => h) fun z => nomatch z
theorem e_ifF (hc : PT X c (tT W ρ false W1)) (h : PE X b (tE W1 ρ r W2)) : PE X (.IfExp c a b pos) (tE W ρ r W2) := e_if hc (fun z => nomatch z) fun _ => h
theorem e_chainP {op op' : CmpOp} {k z : Bool} (h : CmpOk X op ra rb k) (h' : CmpOk X op' rb rc z) (ha : PE X a (tE W ρ ra W1)) (hb : PE X b (tE W1 ρ rb W2)) (hc : PE X c (tE W2 ρ rc W2))
    (hm : lastMarks [op, op'] [b, c] = false := by with_unfolding_all rfl) : PE X (.Compare a [op, op'] [b, c] pos) (tE W ρ (B_ (k && z)) W2) := by
  refine e_chain h (fun e => ?_) (fun e => ⟨?_, rfl⟩) ?_ ha hb hc hm
  · subst e; exact h'
  · subst e; rfl
  · obtain ⟨t, ht, _⟩ := h'; exact ⟨t, ht⟩
theorem h_ifT {c : Expr} {as sts : List Stmt} (hc : PT X c (tT W ρ true W1)) (h1 : PSs X as (oS W1 ρ (.rt r W2))) : PSs X (.If c as [] pos :: sts) (oS W ρ (.rt r W2)) := h_ifR hc (fun _ => h1) fun z => nomatch z
theorem h_ifF {c : Expr} {as sts : List Stmt} (hc : PT X c (tT W ρ false W1)) (h2 : PSs X sts (oS W1 ρ (.rt r W2))) : PSs X (.If c as [] pos :: sts) (oS W ρ (.rt r W2)) := h_ifR hc (fun z => nomatch z) fun _ => h2
theorem g_nm (i : Nat) {x : Str} (hN : X.N.Nodup) (hi : X.N[i]? = some x := by rfl) (hx : Loc X.env.scope x := by first | exact Or.inl rfl | exact Or.inr rfl) (hf : X.fn x = true ∨ X.env.scope.names.lookup x = some .local := by first | exact .inl rfl | exact .inr rfl) : PG X (.Name x px) (gName i) := pg_name hN hi hx hf
theorem g_pr (i j : Nat) {x y : Str} {p1 p2 : Pos} {kk : Nat} (hN : X.N.Nodup) (hc : X.calm = true := by rfl) (hi : X.N[i]? = some x := by rfl) (hx : Loc X.env.scope x := by first | exact Or.inl rfl | exact Or.inr rfl) (hf : X.fn x = true ∨ X.env.scope.names.lookup x = some .local := by first | exact .inl rfl | exact .inr rfl)
    (hj : X.N[j]? = some y := by rfl) (hy : Loc X.env.scope y := by first | exact Or.inl rfl | exact Or.inr rfl) (hf2 : X.fn y = true ∨ X.env.scope.names.lookup y = some .local := by first | exact .inl rfl | exact .inr rfl) :
    PG X (.Tuple [.Name x p1, .Name y p2] kk px) (gTup X.K 2 (gCons (gName i) (gCons (gName j) gNil))) := pg_tup hc (pgs_cons (pg_name hN hi hx hf) (pgs_cons (pg_name hN hj hy hf2) pgs_nil))
end
/-! lots: tuples of natural numbers -/
abbrev nD (n : Nat) : PyData := .int (n : Int)
def lotD (l : List Nat) : PyData := .tuple (l.map nD)
def nlD (l : List Nat) : PyData := .list (l.map nD)
def lotsD (ls : List (List Nat)) : PyData := .tuple (ls.map lotD)
def llD (ls : List (List Nat)) : PyData := .list (ls.map lotD)
def spD (s : Nat × List (List Nat)) : PyData := .tuple [nD s.1, lotsD s.2]
theorem map_nD (l : List Nat) : l.map nD = (l.map fun (n : Nat) => (n : Int)).map .int := by rw [List.map_map]; rfl
theorem mem_cast {i : Nat} {l : List Nat} : decide ((i : Int) ∈ l.map fun (n : Nat) => (n : Int)) = decide (i ∈ l) := by
  congr 1
  simp only [List.mem_map, Int.natCast_inj, exists_eq_right]
section
variable {X : Cx}
theorem c_inN {i : Nat} {l : List Nat} : CmpOk X .In (I_ (i : Nat)) (.d (lotD l)) (decide (i ∈ l)) := by
  unfold lotD; rw [map_nD, ← mem_cast]; exact c_inT
theorem c_niN {i : Nat} {l : List Nat} : CmpOk X .NotIn (I_ (i : Nat)) (.d (lotD l)) (!decide (i ∈ l)) := by
  unfold lotD; rw [map_nD, ← mem_cast]; exact c_niT
theorem c_niNL {i : Nat} {l : List Nat} : CmpOk X .NotIn (I_ (i : Nat)) (.d (nlD l)) (!decide (i ∈ l)) := by
  unfold nlD; rw [map_nD, ← mem_cast]; exact c_niL
end
end SG
set_option Elab.async false
set_option linter.all false
set_option maxRecDepth 100000
set_option maxHeartbeats 4000000
/-! natural numbers; things made by map -/
namespace SG
open PySem PySem.Spec PyProof.Rows L2
section
variable {X : Cx} {tg e iter elt a b c : Expr} {es : List Expr} {ifs : List Expr} {pos px : Pos} {x : Str} {W W0 W1 W2 W3 : List Ow} {ρ : Rho} {r ra rb rc : Sl} {i j n m : Nat}
theorem e_nat {j} : PE X (.Constant (.int (Int.ofNat n)) j pos) (tE W ρ (I_ (n : Nat)) W) := e_int
theorem e_gnat {x : Str} {n : Nat} (hm : ∃ t, X.mg x = some (.int (Int.ofNat n) t)) (hg : Gl X x := by rfl) (hd : (x == ("__debug__" : Str)) = false := by decide) : PE X (.Name x pos) (tE W ρ (I_ (n : Nat)) W) := by
  obtain ⟨t, h⟩ := hm
  exact e_gint h hg hd
theorem e_gtxt {x z : Str} (hm : ∃ t, X.mg x = some (.str z t)) (hg : Gl X x := by rfl) (hd : (x == ("__debug__" : Str)) = false := by decide) : PE X (.Name x pos) (tE W ρ (.d (.str z)) W) := by
  obtain ⟨t, h⟩ := hm
  exact e_gstr h hg hd
theorem b_addN : BinOk X .Add (I_ (i : Nat)) (I_ (j : Nat)) (I_ ((i + j : Nat) : Int)) := by
  rw [Int.natCast_add]; exact b_add
theorem b_mulN (h : i < 2 ^ 64) : BinOk X .Mult (I_ (i : Nat)) (I_ (j : Nat)) (I_ ((i * j : Nat) : Int)) := by
  rw [Int.natCast_mul]; exact b_mul (.inl ⟨by omega, by omega⟩)
theorem b_andN : BinOk X .BitAnd (I_ (i : Nat)) (I_ (j : Nat)) (I_ ((i &&& j : Nat) : Int)) := by
  have e : Builtin.bitAnd (i : Int) (j : Int) = ((i &&& j : Nat) : Int) := by
    unfold Builtin.bitAnd
    rw [decide_eq_true (Int.natCast_nonneg i), decide_eq_true (Int.natCast_nonneg j)]
    rfl
  rw [← e]; exact b_and
theorem b_shlN (h : j ≤ 64) : BinOk X .LShift (I_ ((1 : Nat) : Int)) (I_ (j : Nat)) (I_ ((2 ^ j : Nat) : Int)) := by
  have := b_shl (X := X) (i := ((1 : Nat) : Int)) (j := (j : Int)) ⟨by omega, by omega, by decide⟩
  have e : ((1 : Nat) : Int) * 2 ^ (j : Int).toNat = ((2 ^ j : Nat) : Int) := by
    rw [Int.toNat_natCast]
    simp
  rwa [e] at this
theorem b_shrN : BinOk X .RShift (I_ (i : Nat)) (I_ (j : Nat)) (I_ ((i / 2 ^ j : Nat) : Int)) := by
  have := b_shr (X := X) (i := (i : Int)) (j := (j : Int)) (by omega)
  have e : (i : Int) / 2 ^ (j : Int).toNat = ((i / 2 ^ j : Nat) : Int) := by
    rw [Int.toNat_natCast]
    simp
  rwa [e] at this
theorem b_clr (h : i.testBit j = true) : BinOk X .BitXor (I_ (i : Nat)) (I_ ((2 ^ j : Nat) : Int)) (I_ ((i - 2 ^ j : Nat) : Int)) := by
  have e : Builtin.bitXor (i : Int) ((2 ^ j : Nat) : Int) = ((i - 2 ^ j : Nat) : Int) := by
    rw [PyProof.Rows.bitXor_and]
    have q : Builtin.bitAnd (i : Int) ((2 ^ j : Nat) : Int) = ((2 ^ j : Nat) : Int) := by
      unfold Builtin.bitAnd
      rw [decide_eq_true (Int.natCast_nonneg i), decide_eq_true (Int.natCast_nonneg (2 ^ j))]
      show ((i &&& 2 ^ j : Nat) : Int) = _
      have z : i &&& 2 ^ j = 2 ^ j := Nat.eq_of_testBit_eq fun k => by
        rw [Nat.testBit_and, Nat.testBit_two_pow]
        by_cases q : j = k
        · subst q; rw [h]; simp
        · simp [q]
      rw [z]
    have le : 2 ^ j ≤ i := Nat.ge_two_pow_of_testBit h
    rw [q, Int.natCast_sub le]
    omega
  rw [← e]; exact b_xor
theorem c_ltN : CmpOk X .Lt (I_ (i : Nat)) (I_ (j : Nat)) (decide (i < j)) := by
  have := c_lt (X := X) (i := (i : Int)) (j := (j : Int))
  simpa only [Int.ofNat_lt] using this
theorem c_leN : CmpOk X .LtE (I_ (i : Nat)) (I_ (j : Nat)) (decide (i ≤ j)) := by
  have := c_le (X := X) (i := (i : Int)) (j := (j : Int))
  simpa only [Int.ofNat_le] using this
theorem c_gtN : CmpOk X .Gt (I_ (i : Nat)) (I_ (j : Nat)) (decide (j < i)) := by
  have := c_gt (X := X) (i := (i : Int)) (j := (j : Int))
  simpa only [Int.ofNat_lt] using this
theorem c_geN : CmpOk X .GtE (I_ (i : Nat)) (I_ (j : Nat)) (decide (j ≤ i)) := by
  have := c_ge (X := X) (i := (i : Int)) (j := (j : Int))
  simpa only [Int.ofNat_le] using this
theorem c_eqN : CmpOk X .Eq (I_ (i : Nat)) (I_ (j : Nat)) (decide (i = j)) := by
  have := c_eqI (X := X) (i := (i : Int)) (j := (j : Int))
  simpa only [Int.natCast_inj] using this
theorem c_neN : CmpOk X .NotEq (I_ (i : Nat)) (I_ (j : Nat)) (!decide (i = j)) := by
  have := c_neI (X := X) (i := (i : Int)) (j := (j : Int))
  simpa only [Int.natCast_inj] using this
theorem t_nz (h : PE X e (tE W ρ (I_ (n : Nat)) W1)) (he : ∀ whole, isTrue e X.env whole = (do let v ← whole; standAt e.pos; holding [v] (truthy v)) := by intro _; rfl) : PT X e (tT W ρ (decide (n ≠ 0)) W1) :=
  PTto (pt_truth h he) fun σ H Q ⟨Z, c, q⟩ => ⟨Z, c, fun v H1 g1 d1 q1 => by
    rw [rp_int] at q1
    subst q1
    refine ⟨decide (n ≠ 0), ?_, q H1 g1 d1⟩
    show decide (n ≠ 0) = ((n : Int) != 0)
    rw [Bool.eq_iff_iff]; simp⟩
/-! comprehensions without a test, over things as they are -/
theorem ft_all {α : Type} (xs : List α) : xs.filter (fun _ => true) = xs := List.filter_eq_self.mpr fun _ _ => rfl
theorem comp_M {α : Type} {scope : Scope} (own : List (Str × Nat)) (i : Nat) {xs : List α} {gg : α → PyData} {f : α → PyData} (hi : PI X (.Name x px) iter (tI W ρ (xs.map gg) W0)) (hN : X.N.Nodup) (hz : xs.length < sizeLine)
    (helt : ∀ a ∈ xs, ∀ s H C cl fp, PE (Bk X scope s H C cl fp) elt (tE W0 ((wipeR ρ (own.map (·.2))).set i (some (.d (gg a)))) (.d (f a)) W0))
    (hg : ∀ s H C cl fp, PG (Bk X scope s H C cl fp) (.Name x px) (gName i)) (his : i ∈ own.map (·.2) := by decide) (hc : X.calm = true := by rfl) (ok : BlkOk X.N X.env.scope scope own := by exact blkOk_by (by kernel_rfl)) :
    CompP X (.Name x px) iter elt [] scope W ρ (xs.map f) W0 := by
  have := comp_N (elt := elt) (ifs := []) (scope := scope) (p := fun _ => true) (f := f) own i hi hN hz (fun a ha s H C cl fp => s_nil) (fun a ha _ => helt a ha) hg his hc ok
  rwa [ft_all] at this
theorem comp_PM {α : Type} {scope : Scope} (own : List (Str × Nat)) (i j : Nat) {xs : List α} {g1 g2 : α → PyData} {f : α → PyData} {es : List Expr} {kk : Nat} {tpos : Pos} (hi : PI X (.Tuple es kk tpos) iter (tI W ρ (xs.map fun a => .tuple [g1 a, g2 a]) W0)) (hN : X.N.Nodup) (hz : xs.length < sizeLine)
    (helt : ∀ a ∈ xs, ∀ s H C cl fp, PE (Bk X scope s H C cl fp) elt (tE W0 (((wipeR ρ (own.map (·.2))).set i (some (.d (g1 a)))).set j (some (.d (g2 a)))) (.d (f a)) W0))
    (hg : ∀ s H C cl fp, PG (Bk X scope s H C cl fp) (.Tuple es kk tpos) (gTup X.K 2 (gCons (gName i) (gCons (gName j) gNil)))) (his : i ∈ own.map (·.2) ∧ j ∈ own.map (·.2) := by decide) (hc : X.calm = true := by rfl) (ok : BlkOk X.N X.env.scope scope own := by exact blkOk_by (by kernel_rfl)) :
    CompP X (.Tuple es kk tpos) iter elt [] scope W ρ (xs.map f) W0 := by
  have := comp_P (elt := elt) (ifs := []) (scope := scope) (p := fun _ => true) (f := f) own i j hi hN hz (fun a ha s H C cl fp => s_nil) (fun a ha _ => helt a ha) hg his hc ok
  rwa [ft_all] at this
theorem i_id {ds : List PyData} (h : PI X tg e (tI W ρ ds W1)) : PI X tg e (tI W ρ (ds.map id) W1) := by rwa [List.map_id]
theorem i_rgN {p : Pos} (hm : X.mg "range" = none) (ha : PA X [a] (tA W ρ [I_ (n : Nat)] W1)) (hj : n < 2 ^ 62) (hg : Gl X "range" := by rfl) (hs : starEach [a] X.env = [(false, eval a X.env)] := by rfl) :
    PI X tg (.Call (.Name "range" p) [a] [] pos) (tI W ρ ((List.range n).map nD) W1) := by
  have := i_range1 (tg := tg) (pos := pos) (p := p) hm ha ⟨by omega, by omega⟩ hg hs
  rwa [rgD_nat] at this
theorem i_rgN2 {p : Pos} (hm : X.mg "range" = none) (ha : PA X [a, b] (tA W ρ [I_ (m : Nat), I_ (n : Nat)] W1)) (hj : m < 2 ^ 62 ∧ n < 2 ^ 62) (hg : Gl X "range" := by rfl) (hs : starEach [a, b] X.env = [(false, eval a X.env), (false, eval b X.env)] := by rfl) (hs2 : starEach [b] X.env = [(false, eval b X.env)] := by rfl) :
    PI X tg (.Call (.Name "range" p) [a, b] [] pos) (tI W ρ ((List.range (n - m)).map fun i => nD (m + i)) W1) := by
  have := i_range2 (tg := tg) (pos := pos) (p := p) hm ha ⟨by omega, by omega, by omega, by omega⟩ hg hs hs2
  rwa [rgD_nat2] at this
/-! built-ins over mapped things -/
theorem f_allM {α : Type} {xs : List α} {q : α → Bool} (hc : X.calm = true := by rfl) : CalOk X (.builtin "all") [.d (.list (xs.map fun a => .bool (q a)))] (B_ (xs.all q)) := by
  have := f_all (X := X) hc (bs := xs.map q)
  rw [List.map_map, List.all_map] at this
  exact this
theorem f_anyM {α : Type} {xs : List α} {q : α → Bool} (hc : X.calm = true := by rfl) : CalOk X (.builtin "any") [.d (.list (xs.map fun a => .bool (q a)))] (B_ (xs.any q)) := by
  have := f_any (X := X) hc (bs := xs.map q)
  rw [List.map_map, List.any_map] at this
  exact this
theorem sum_cast (l : List Nat) : (l.map fun (n : Nat) => (n : Int)).sum = ((l.sum : Nat) : Int) := by
  induction l with
  | nil => rfl
  | cons a l ih => rw [List.map_cons, List.sum_cons, List.sum_cons, ih, Int.natCast_add]
theorem f_sumN {α : Type} {xs : List α} {q : α → Nat} (hc : X.calm = true := by rfl) : CalOk X (.builtin "sum") [.d (.list (xs.map fun a => nD (q a)))] (I_ ((xs.map q).sum : Nat)) := by
  have := f_sum (X := X) hc (ns := (xs.map q).map fun (n : Nat) => (n : Int))
  rw [sum_cast, List.map_map, List.map_map] at this
  exact this
theorem maxL_ge : ∀ (l : List Nat) (a : Nat), a ≤ l.foldl Nat.max a ∧ (∀ y ∈ l, y ≤ l.foldl Nat.max a) ∧ (l.foldl Nat.max a = a ∨ l.foldl Nat.max a ∈ l)
  | [], a => ⟨Nat.le_refl _, (fun y h => nomatch h), .inl rfl⟩
  | b :: l, a => by
    obtain ⟨h1, h2, h3⟩ := maxL_ge l (Nat.max a b)
    have h4 : a ≤ Nat.max a b := Nat.le_max_left ..
    have h5 : b ≤ Nat.max a b := Nat.le_max_right ..
    refine ⟨Nat.le_trans h4 h1, fun y hy => ?_, ?_⟩
    · rcases List.mem_cons.mp hy with z | z
      · rw [z]; exact Nat.le_trans h5 h1
      · exact h2 y z
    · rcases h3 with z | z
      · rcases Nat.le_total a b with q | q
        · have e : Nat.max a b = b := Nat.max_eq_right q
          right
          show List.foldl Nat.max (Nat.max a b) l ∈ b :: l
          rw [z, e]; exact List.mem_cons_self
        · have e : Nat.max a b = a := Nat.max_eq_left q
          left
          show List.foldl Nat.max (Nat.max a b) l = a
          rw [z, e]
      · exact .inr (List.mem_cons_of_mem _ z)
/-- the greatest, of a list that is not empty -/
def maxL (l : List Nat) : Nat := l.foldl Nat.max 0
theorem maxL_le {l : List Nat} {y : Nat} (h : y ∈ l) : y ≤ maxL l := (maxL_ge l 0).2.1 y h
theorem maxL_mem {l : List Nat} (h : l ≠ []) : maxL l ∈ l := by
  rcases (maxL_ge l 0).2.2 with z | z
  · cases l with
    | nil => exact absurd rfl h
    | cons a l =>
      have := maxL_le (l := a :: l) List.mem_cons_self
      have e : maxL (a :: l) = 0 := z
      rw [e] at this ⊢
      have : a = 0 := by omega
      rw [this]; exact List.mem_cons_self
  · exact z
theorem f_maxN {α : Type} {xs : List α} {q : α → Nat} (h : xs ≠ []) (hc : X.calm = true := by rfl) : CalOk X (.builtin "max") [.d (.list (xs.map fun a => nD (q a)))] (I_ (maxL (xs.map q) : Nat)) := by
  have hne : xs.map q ≠ [] := fun z => h (List.map_eq_nil_iff.mp z)
  have := f_max (X := X) hc (ns := (xs.map q).map fun (n : Nat) => (n : Int)) (m := (maxL (xs.map q) : Nat)) (List.mem_map.mpr ⟨_, maxL_mem hne, rfl⟩) (fun y hy => by
    obtain ⟨z, hz, e⟩ := List.mem_map.mp hy
    have := maxL_le hz
    omega)
  rw [List.map_map, List.map_map] at this
  exact this
end
end SG
set_option Elab.async false
set_option linter.all false
set_option maxRecDepth 100000
set_option maxHeartbeats 4000000
/-! loops with a state -/
namespace SG
open PySem PySem.Spec PyProof.Rows L2
theorem fold_take {α S : Type} (step : S → α → S) (s0 : S) (xs : List α) (j : Nat) (a : α) (h : xs[j]? = some a) : (xs.take (j + 1)).foldl step s0 = step ((xs.take j).foldl step s0) a := by
  rw [List.take_add_one, h, List.foldl_append]
  rfl
theorem fold_inv {α S : Type} {step : S → α → S} {I : S → Prop} {s0 : S} (h0 : I s0) : ∀ (xs : List α), (∀ s a, a ∈ xs → I s → I (step s a)) → I (xs.foldl step s0)
  | [], _ => h0
  | a :: xs, h => fold_inv (h s0 a List.mem_cons_self h0) xs fun s b hb => h s b (List.mem_cons_of_mem _ hb)
section
variable {X : Cx} {tg e iter : Expr} {es : List Expr} {pos px : Pos} {W W0 : List Ow} {ρ : Rho} {x : Str} {body : List Stmt}
theorem s_forN {α S : Type} (I : S → Prop) (step : S → α → S) (Wn : S → List Ow) (env : S → Rho) (s0 : S) (i : Nat) {xs : List α} {gg : α → PyData} (hi : PI X (.Name x px) iter (tI W ρ (xs.map gg) (Wn s0))) (hN : X.N.Nodup) (h0 : I s0) (hw : Wk ρ (env s0))
    (hs : ∀ s a, a ∈ xs → I s → I (step s a)) (hb : ∀ s a, a ∈ xs → I s → PSs X body (oS (Wn s) ((env s).set i (some (.d (gg a)))) (.nx (Wn (step s a)) (env (step s a)))))
    (hx : X.N[i]? = some x := by rfl) (hl : Loc X.env.scope x := by first | exact Or.inl rfl | exact Or.inr rfl) (hf : X.fn x = true ∨ X.env.scope.names.lookup x = some .local := by first | exact .inl rfl | exact .inr rfl)
    (hp : PassesOwn (model X.prog X.w) X.A X.env X.xe := by exact PassesOwn.never) (hc : X.calm = true := by rfl) (hfs : ∀ x, foldedSetIterable iter X.env x = pure x := by intro _; rfl) :
    PS X (.For (.Name x px) iter body [] pos) (oS W ρ (.nx (Wn (xs.foldl step s0)) (env (xs.foldl step s0)))) := by
  have sf : ∀ j, I ((xs.take j).foldl step s0) := fun j => fold_inv h0 _ fun s a ha => hs s a (List.mem_of_mem_take ha)
  have := s_for (X := X) (tg := .Name x px) (iter := iter) (pos := pos) (W := W) (ρ := ρ) (ds := xs.map gg) (body := body) (t := gName i) (is := [i]) (g := gN i) (fun j => Wn ((xs.take j).foldl step s0)) (fun j => env ((xs.take j).foldl step s0))
    (fun j => match xs[j]? with | some a => (env ((xs.take j).foldl step s0)).set i (some (.d (gg a))) | none => []) (tgs_name i) (pg_name hN hx hl hf) hi hw (fun j d e => by
      rw [List.getElem?_map] at e
      cases q : xs[j]? with
      | none => rw [q] at e; cases e
      | some a =>
        rw [q] at e
        cases e
        simp only [gN, q]) (fun j hj => by
      rw [List.length_map] at hj
      have q : xs[j]? = some xs[j] := List.getElem?_eq_getElem hj
      simp only [q]
      rw [fold_take step s0 xs j _ q]
      exact hb _ _ (List.getElem_mem hj) (sf j)) hp hc hfs
  rw [List.length_map] at this
  rwa [List.take_length] at this
theorem s_forI {α : Type} (Wn : Nat → List Ow) (env : Nat → Rho) (i : Nat) {xs : List α} {gg : α → PyData} (hi : PI X (.Name x px) iter (tI W ρ (xs.map gg) (Wn 0))) (hN : X.N.Nodup) (hw : Wk ρ (env 0))
    (hb : ∀ j a, xs[j]? = some a → PSs X body (oS (Wn j) ((env j).set i (some (.d (gg a)))) (.nx (Wn (j + 1)) (env (j + 1)))))
    (hx : X.N[i]? = some x := by rfl) (hl : Loc X.env.scope x := by first | exact Or.inl rfl | exact Or.inr rfl) (hf : X.fn x = true ∨ X.env.scope.names.lookup x = some .local := by first | exact .inl rfl | exact .inr rfl)
    (hp : PassesOwn (model X.prog X.w) X.A X.env X.xe := by exact PassesOwn.never) (hc : X.calm = true := by rfl) (hfs : ∀ x, foldedSetIterable iter X.env x = pure x := by intro _; rfl) :
    PS X (.For (.Name x px) iter body [] pos) (oS W ρ (.nx (Wn xs.length) (env xs.length))) := by
  have := s_for (X := X) (tg := .Name x px) (iter := iter) (pos := pos) (W := W) (ρ := ρ) (ds := xs.map gg) (body := body) (t := gName i) (is := [i]) (g := gN i) Wn env
    (fun j => match xs[j]? with | some a => (env j).set i (some (.d (gg a))) | none => []) (tgs_name i) (pg_name hN hx hl hf) hi hw (fun j d e => by
      rw [List.getElem?_map] at e
      cases q : xs[j]? with
      | none => rw [q] at e; cases e
      | some a =>
        rw [q] at e
        cases e
        simp only [gN, q]) (fun j hj => by
      rw [List.length_map] at hj
      have q : xs[j]? = some xs[j] := List.getElem?_eq_getElem hj
      simp only [q]
      exact hb _ _ q) hp hc hfs
  rwa [List.length_map] at this
theorem s_forP {α S : Type} (I : S → Prop) (step : S → α → S) (Wn : S → List Ow) (env : S → Rho) (s0 : S) (i k : Nat) {xs : List α} {g1 g2 : α → PyData} {kk : Nat} {tpos : Pos} (hi : PI X (.Tuple es kk tpos) iter (tI W ρ (xs.map fun a => .tuple [g1 a, g2 a]) (Wn s0))) (h0 : I s0) (hw : Wk ρ (env s0))
    (hs : ∀ s a, a ∈ xs → I s → I (step s a)) (hb : ∀ s a, a ∈ xs → I s → PSs X body (oS (Wn s) (((env s).set i (some (.d (g1 a)))).set k (some (.d (g2 a)))) (.nx (Wn (step s a)) (env (step s a)))))
    (hg : PG X (.Tuple es kk tpos) (gTup X.K 2 (gCons (gName i) (gCons (gName k) gNil))))
    (hp : PassesOwn (model X.prog X.w) X.A X.env X.xe := by exact PassesOwn.never) (hc : X.calm = true := by rfl) (hfs : ∀ x, foldedSetIterable iter X.env x = pure x := by intro _; rfl) :
    PS X (.For (.Tuple es kk tpos) iter body [] pos) (oS W ρ (.nx (Wn (xs.foldl step s0)) (env (xs.foldl step s0)))) := by
  have sf : ∀ j, I ((xs.take j).foldl step s0) := fun j => fold_inv h0 _ fun s a ha => hs s a (List.mem_of_mem_take ha)
  have := s_for (X := X) (tg := .Tuple es kk tpos) (iter := iter) (pos := pos) (W := W) (ρ := ρ) (ds := xs.map fun a => .tuple [g1 a, g2 a]) (body := body) (is := [i, k]) (g := gP i k) (fun j => Wn ((xs.take j).foldl step s0)) (fun j => env ((xs.take j).foldl step s0))
    (fun j => match xs[j]? with | some a => ((env ((xs.take j).foldl step s0)).set i (some (.d (g1 a)))).set k (some (.d (g2 a))) | none => []) (tgs_pair i k) hg hi hw (fun j d e => by
      rw [List.getElem?_map] at e
      cases q : xs[j]? with
      | none => rw [q] at e; cases e
      | some a =>
        rw [q] at e
        cases e
        simp only [gP]
        exact ⟨_, _, rfl, by simp only [q]⟩) (fun j hj => by
      rw [List.length_map] at hj
      have q : xs[j]? = some xs[j] := List.getElem?_eq_getElem hj
      simp only [q]
      rw [fold_take step s0 xs j _ q]
      exact hb _ _ (List.getElem_mem hj) (sf j)) hp hc hfs
  rw [List.length_map] at this
  rwa [List.take_length] at this
/-- a statement `if c: ..` that falls through: by its truth -/
theorem s_ifT {c : Expr} {as bs : List Stmt} {o : Oc} {W1 : List Ow} (hc : PT X c (tT W ρ true W1)) (h1 : PSs X as (oS W1 ρ o)) : PS X (.If c as bs pos) (oS W ρ o) := h_if hc (fun _ => h1) fun z => nomatch z
theorem s_ifF {c : Expr} {as bs : List Stmt} {o : Oc} {W1 : List Ow} (hc : PT X c (tT W ρ false W1)) (h1 : PSs X bs (oS W1 ρ o)) : PS X (.If c as bs pos) (oS W ρ o) := h_if hc (fun z => nomatch z) fun _ => h1
theorem b_subN {i j : Nat} (h : j ≤ i) : BinOk X .Sub (I_ (i : Nat)) (I_ (j : Nat)) (I_ ((i - j : Nat) : Int)) := by
  rw [Int.natCast_sub h]; exact b_sub
theorem b_modN {i j : Nat} (h : 0 < j) : BinOk X .Mod (I_ (i : Nat)) (I_ (j : Nat)) (I_ ((i % j : Nat) : Int)) := by
  rw [Int.natCast_emod]; exact b_mod (by omega)
theorem s_wk {st : Stmt} {ρ1 ρ2 : Rho} {W1 : List Ow} (h : PS X st (oS W ρ (.nx W1 ρ1))) (w : Wk ρ1 ρ2) : PS X st (oS W ρ (.nx W1 ρ2)) := PSto h fun D σ H ⟨Z, c, k⟩ => ⟨Z, c, fun σ' H' g c' => k σ' H' g (c'.wk w)⟩
end
/-! the same rules, the parts first -/
section
variable {X : Cx} {a b e : Expr} {es : List Expr} {pos p : Pos} {W W1 W2 L Wc Wc' : List Ow} {ρ : Rho} {r ra rb : Sl} {rs : List Sl} {x : Str} {F : Spec} {kk : Nat}
theorem r_bin {op : Operator} (ha : PE X a (tE W ρ ra W1)) (hb : PE X b (tE W1 ρ rb W2)) (h : BinOk X op ra rb r) : PE X (.BinOp a op b pos) (tE W ρ r W2) := e_bin h ha hb
theorem e_to (r2 : Sl) (h : PE X e (tE W ρ r W1)) (q : r = r2) : PE X e (tE W ρ r2 W1) := q ▸ h
theorem r_un {op : UnaryOp} (ha : PE X a (tE W ρ ra W1)) (h : UnOk X op ra r) : PE X (.UnaryOp op a pos) (tE W ρ r W1) := e_un h ha
theorem r_cmp {op : CmpOp} {k : Bool} (ha : PE X a (tE W ρ ra W1)) (hb : PE X b (tE W1 ρ rb W2)) (h : CmpOk X op ra rb k) (hm : behindInMarks op b = false := by first | exact nobehind _ (by decide) (by decide) | rfl | with_unfolding_all rfl) :
    PE X (.Compare a [op] [b] pos) (tE W ρ (.d (.bool k)) W2) := e_cmp h ha hb hm
theorem rt_cmp {op : CmpOp} {k : Bool} (ha : PE X a (tE W ρ ra W1)) (hb : PE X b (tE W1 ρ rb W2)) (h : CmpOk X op ra rb k) (hm : behindInMarks op b = false := by first | exact nobehind _ (by decide) (by decide) | rfl | with_unfolding_all rfl) :
    PT X (.Compare a [op] [b] pos) (tT W ρ k W2) := t_cmp h ha hb hm
theorem r_calB {id : String} (ha : PA X (e :: es) (tA W ρ rs W1)) (h : CalOk X (.builtin id) rs r) (hm : X.mg x = none) (hv : bootBuiltins x = some (.builtin id)) (hg : Gl X x := by rfl) (hn : x ≠ "__name__" := by decide) (hdb : (x == ("__debug__" : Str)) = false := by decide)
    (he : starEach (e :: es) X.env = (false, eval e X.env) :: starEach es X.env := by rfl) (hpl : (backTo pos (starEach es X.env)).any (·.1) = false := by rfl) : PE X (.Call (.Name x p) (e :: es) [] pos) (tE W ρ r W1) := e_calB h hm hv ha hg hn hdb he hpl
theorem r_calT {T : String} (ha : PA X (e :: es) (tA W ρ rs W1)) (h : CalOk X (.type T) rs r) (hm : X.mg x = none) (hv : bootBuiltins x = some (.type T)) (hg : Gl X x := by rfl) (hn : x ≠ "__name__" := by decide) (hdb : (x == ("__debug__" : Str)) = false := by decide)
    (he : starEach (e :: es) X.env = (false, eval e X.env) :: starEach es X.env := by rfl) (hpl : (backTo pos (starEach es X.env)).any (·.1) = false := by rfl) : PE X (.Call (.Name x p) (e :: es) [] pos) (tE W ρ r W1) := e_calT h hm hv ha hg hn hdb he hpl
theorem r_ix (ha : PE X a (tE W ρ ra W1)) (hb : PE X b (tE W1 ρ rb W2)) (h : IxOk X ra rb r) (hs : PlainIx b := by exact fun _ _ => rfl) : PE X (.Subscript a b pos) (tE W ρ r W2) := e_ix h ha hb hs
theorem r_callP (c : Fn X.prog X.w X.K X.mg X.base false kk x F) (hr : Room kk X.A) (ha : PA X (e :: es) (tA W ρ rs L)) (h : F [] rs r []) (hg : Gl X x := by rfl)
    (hdb : (x == ("__debug__" : Str)) = false := by decide) (he : starEach (e :: es) X.env = (false, eval e X.env) :: starEach es X.env := by rfl) (hpl : (backTo pos (starEach es X.env)).any (·.1) = false := by rfl) :
    PE X (.Call (.Name x p) (e :: es) [] pos) (tE W ρ r L) := e_callP c h hr ha hg hdb he hpl
end
end SG
set_option Elab.async false
set_option linter.all false
set_option maxRecDepth 100000
set_option maxHeartbeats 4000000
/-! sorted: tuples of numbers of any lengths -/
namespace SG
open PySem PySem.Spec PyProof.Rows L2
section
open PySem.W PySem.Calls
def TpI (h : Heap) (v : Value) (ns : List Int) : Prop := ∃ (a : Addr) (dd : Option Addr) (items : Array Value) (n : Nat) (sl : Array (Option Value)), v = .ref a ∧ h.get? a = some { cls := .type "tuple", dict := dd, data := .seq items n, slots := sl } ∧ IntsAre items.toList ns
theorem TpI.keeps {h h' : Heap} {v : Value} {ns : List Int} (x : TpI h v ns) (k : ∀ b o, v = .ref b → h.get? b = some o → h'.get? b = some o) : TpI h' v ns := by
  obtain ⟨a, dd, items, n, sl, e, g, i⟩ := x
  exact ⟨a, dd, items, n, sl, e, k _ _ e g, i⟩
theorem ints_inj : ∀ {vs : List Value} {ns ms : List Int}, IntsAre vs ns → IntsAre vs ms → ns = ms
  | _, _, _, .nil, .nil => rfl
  | _, _, _, .cons a t h, h2 => by
    cases h2 with
    | cons b u h3 => rw [ints_inj h h3]
theorem TpI.inj {h : Heap} {v : Value} {ns ms : List Int} (x : TpI h v ns) (y : TpI h v ms) : ns = ms := by
  obtain ⟨a, dd, items, n, sl, e, g, i⟩ := x
  obtain ⟨b, dd', items', n', sl', e', g', i'⟩ := y
  rw [e] at e'
  cases e'
  rw [g] at g'
  cases g'
  exact ints_inj i i'
variable {prog : Program} {w : World} {A : Around} {E : Value → Shared → Prop} {s : Shared}
theorem TpI.type {M : Model} {h : Heap} {v : Value} {ns : List Int} (x : TpI h v ns) : Looks M h (typeOf v) (.type "tuple") := by
  obtain ⟨a, dd, items, n, sl, rfl, g, i⟩ := x
  exact (Looks.ld g).andThen .now
/-! the three kinds -/
theorem lt_gen {v u : Value} {ns ms : List Int} {Q : Bool → Shared → Prop} (hu : A.units < cLine) (hv : TpI s.heap v ns) (hw : TpI s.heap u ms) (h : Q (HT.lexLt ns ms) s) : wpAny (model prog w) A (keyLt' general' v u) Q E s := by
  obtain ⟨a, dd, items, n, sl, rfl, ga, ia⟩ := hv
  obtain ⟨b, dd2, items2, n2, sl2, rfl, gb, ib⟩ := hw
  exact kat_one _ _ (HT.lt_tupInts ⟨_, ga, rfl, _, rfl⟩ ⟨_, gb, rfl, _, rfl⟩ ia ib hu h)
theorem call_tlt {a b : Addr} {dd dd2 : Option Addr} {items items2 : Array Value} {n n2 : Nat} {sl sl2 : Array (Option Value)} {ns ms : List Int} {Q : Value → Shared → Prop} (ga : s.heap.get? a = some { cls := .type "tuple", dict := dd, data := .seq items n, slots := sl })
    (gb : s.heap.get? b = some { cls := .type "tuple", dict := dd2, data := .seq items2 n2, slots := sl2 }) (ia : IntsAre items.toList ns) (ib : IntsAre items2.toList ms) (h : Q (.bool (HT.lexLt ns ms)) s) : wpAny (model prog w) A (call (.builtin "tuple.__lt__") [.ref a, .ref b]) Q E s := by
  refine wpAny_call (codeAny_call_builtin PySem.F.slot_tuple_lt.plain PySem.F.entry_tuple_lt (PySem.F.slot_tuple_lt.check _ _ _ _ _ _ _ _ ⟨_, ga, rfl⟩ (PySem.F.args_tuple_lt_2 _ _) ?_))
  refine wpAny_mono (HT.tuple_lt_ints a b items items2 n n2 dd dd2 sl sl2 ns ms ia ib prog w _ (wants Q E) s ⟨ga, gb, h⟩) (fun fin s' q => ?_) fun _ _ z => z
  cases fin with
  | done f => exact q
  | again c => exact q
theorem lt_one {v u : Value} {ns ms : List Int} {Q : Bool → Shared → Prop} (hu : A.units < cLine) (hv : TpI s.heap v ns) (hw : TpI s.heap u ms) (h : Q (HT.lexLt ns ms) s) : wpAny (model prog w) A (keyLt' oneType' v u) Q E s := by
  obtain ⟨a, dd, items, n, sl, rfl, ga, ia⟩ := hv
  obtain ⟨b, dd2, items2, n2, sl2, rfl, gb, ib⟩ := hw
  rw [keyLt'_oneType, oneLt'_eq]
  simp only [if_true]
  refine wpAny_bind (wpAny_cRoomFor hu ?_)
  refine wpAny_bind (wpAny_callSpecialIfBound?_slot (E := E) (T := "tuple") (id := "tuple.__lt__") ⟨_, ga, rfl⟩ PySem.F.slot_tuple_lt ?_)
  refine call_tlt ga gb ia ib ?_
  exact wpAny_truthy_bool h
theorem klex {s : Shared} {Q : Bool → Shared → Prop} {x y : Nat} : ∀ {vs ws : List Value} {ns ms : List Int} (i : Nat), IntsAre vs ns → IntsAre ws ms → ns.length + y = ms.length + x → Q (HT.lexLt ns ms) s → KatLex prog w A true (decide (x < y)) Q (vs.zip ws) i s
  | _, _, _, _, i, .nil, hw, hl, hq => by
    cases hw with
    | nil =>
      have e : HT.lexLt [] [] = decide (x < y) := (decide_eq_false (by simp at hl; omega)).symm
      rw [e] at hq
      exact kat_nil hq
    | cons b u hw =>
      have e : ∀ m ms, HT.lexLt [] (m :: ms) = true := fun _ _ => rfl
      rw [e, ← decide_eq_true (show x < y by simp at hl; omega)] at hq
      exact kat_nil hq
  | _, _, _, _, i, .cons a t hv, hw, hl, hq => by
    cases hw with
    | nil =>
      have e : ∀ m ms, HT.lexLt (m :: ms) [] = false := fun _ _ => rfl
      rw [e, ← decide_eq_false (show ¬ x < y by simp at hl; omega)] at hq
      exact kat_nil hq
    | cons b u hw =>
      rw [HT.lexLt_cons] at hq
      simp only [List.length_cons] at hl
      rw [List.zip_cons_cons]
      refine kat_cons (SeqAt.EqAt.int_int a t b u prog w _ _ ?_)
      refine kat_go (fun e1 => ?_) (fun e1 => ?_)
      · have ex : a = b := by simpa using e1
        rw [if_pos ex] at hq
        exact kat_yes (klex (i + 1) hv hw (by omega) hq)
      · have ex : ¬ a = b := by simpa using e1
        rw [if_neg ex] at hq
        refine kat_no ?_
        cases (true && i == 0) with
        | true => exact oneLt_int hq
        | false => exact kat_one _ _ (PyProof.Rows.lt_int hq)
/-- what stands first in a tuple -/
theorem kfirsts : ∀ (vs : List Value) {k : Value → List Int} {Q : List (Option Value) → Shared → Prop}, (∀ v ∈ vs, TpI s.heap v (k v)) → (∀ fs : List (Option Value), fs.length = vs.length → (∀ (i : Nat) (v : Value), vs[i]? = some v → ∃ f : Option Value, fs[i]? = some f ∧ f.isSome = !(k v).isEmpty) → Q fs s) → wpAny (model prog w) A (vs.mapM firstOfTuple') Q E s
  | [], _, _, _, h => by rw [List.mapM_nil]; exact wpAny_pure (h [] rfl fun i v e => by simp at e)
  | v :: vs, k, Q, t, h => by
    obtain ⟨a, dd, items, n, sl, e, ga, ia⟩ := t v List.mem_cons_self
    rw [List.mapM_cons]
    refine wpAny_bind ?_
    rw [kas_first_eq, e]
    refine wpAny_bind (Looks.here (show Looks (model prog w) s.heap (typeOf (.ref a)) (.type "tuple") from (Looks.ld ga).andThen .now) ?_)
    rw [if_neg (by decide)]
    refine wpAny_bind (listItems_at ga rfl (wpAny_pure ?_))
    refine wpAny_bind (kfirsts vs (fun u hu => t u (List.mem_cons_of_mem _ hu)) fun fs hl hf => wpAny_pure (h _ (by simp [hl]) fun i u eu => ?_))
    cases i with
    | zero =>
      simp at eu
      subst eu
      refine ⟨_, rfl, ?_⟩
      have z : items.toList.length = (k v).length := ia.length
      cases q : items[0]? with
      | none =>
        have : items.size ≤ 0 := Array.getElem?_eq_none_iff.mp q
        cases hk : k v with
        | nil => rfl
        | cons x r => rw [hk] at z; simp at z; omega
      | some f =>
        have : 0 < items.size := (Array.getElem?_eq_some_iff.mp q).1
        cases hk : k v with
        | nil => rw [hk] at z; simp at z; simp [z] at this
        | cons x r => rfl
    | succ i => exact hf i u (by simpa using eu)
theorem one_tup {vs : List Value} {k : Value → List Int} {Q : Option Value → Shared → Prop} (hne : vs ≠ []) (t : ∀ v ∈ vs, TpI s.heap v (k v)) (h : Q (some (.type "tuple")) s) : wpAny (model prog w) A (oneTypeOnly' vs.toArray) Q E s := by
  obtain ⟨v₁, rest, rfl⟩ : ∃ v₁ rest, vs = v₁ :: rest := by
    match vs, hne with
    | [], h2 => exact absurd rfl h2
    | v₁ :: rest, _ => exact ⟨v₁, rest, rfl⟩
  rw [oneTypeOnly'_eq, List.mapM_toArray, map_eq_pure_bind]
  refine wpAny_bind (wpAny_bind (kas_mapM (r := Value.type "tuple") _ (fun v hv Q' hq => ((t v hv).type).here hq) (wpAny_pure ?_)))
  have hall : ((List.map (fun _ => Value.type "tuple") (v₁ :: rest)).toArray.all fun x => x == Value.type "tuple") = true := by
    simp only [List.all_toArray, List.all_map, List.all_eq_true]
    intro _ _
    rfl
  have h0 : (List.map (fun _ => Value.type "tuple") (v₁ :: rest)).toArray[0]? = some (Value.type "tuple") := by simp
  rw [h0]
  simp only [hall, if_true]
  exact wpAny_pure h
theorem lt_tps {v u : Value} {ns ms : List Int} {Q : Bool → Shared → Prop} (hv : TpI s.heap v ns) (hw : TpI s.heap u ms) (h : Q (HT.lexLt ns ms) s) : wpAny (model prog w) A (keyLt' (tuples' true) v u) Q E s := by
  obtain ⟨a, dd, items, n, sl, rfl, ga, ia⟩ := hv
  obtain ⟨b, dd2, items2, n2, sl2, rfl, gb, ib⟩ := hw
  have z1 : items.size = ns.length := by rw [← ia.length]; simp
  have z2 : items2.size = ms.length := by rw [← ib.length]; simp
  exact kat_lt ga rfl gb rfl (klex 0 ia ib (by omega) h)
theorem ktups {s : Shared} {k : Value → List Int} : ∀ {vs : List Value}, (∀ v ∈ vs, TpI s.heap v (k v)) → (∀ v ∈ vs, k v ≠ []) → ∃ fs, KatTups s.heap vs fs ∧ fs.length = vs.length ∧ ∀ f ∈ fs, ∃ x t, f = Value.int x t
  | [], _, _ => ⟨[], .nil, rfl, fun f hf => nomatch hf⟩
  | v :: vs, t, hn => by
    obtain ⟨fs, h1, h2, h3⟩ := ktups (vs := vs) (fun u hu => t u (List.mem_cons_of_mem _ hu)) fun u hu => hn u (List.mem_cons_of_mem _ hu)
    obtain ⟨a, dd, items, n, sl, e, ga, ia⟩ := t v List.mem_cons_self
    have hk := hn v List.mem_cons_self
    subst e
    cases q : items.toList with
    | nil =>
      rw [q] at ia
      cases hkv : k (.ref a) with
      | nil => exact absurd hkv hk
      | cons x r => rw [hkv] at ia; cases ia
    | cons f r =>
      rw [q] at ia
      have hf : items[0]? = some f := by rw [← Array.getElem?_toList, q]; rfl
      refine ⟨f :: fs, .cons ga rfl rfl hf h1, by simp [h2], fun g hg => ?_⟩
      rcases List.mem_cons.mp hg with z | z
      · subst z
        cases hkv : k (.ref a) with
        | nil => exact absurd hkv hk
        | cons x r' =>
          rw [hkv] at ia
          cases ia with
          | cons a t h => exact ⟨_, _, rfl⟩
      · exact h3 g z
/-- any such tuples are sorted by lexLt -/
theorem tp_sortable {a : Addr} {vs : List Value} {k : Value → List Int} (h2 : 2 ≤ vs.length) (hu : A.units < cLine) (hv : ∀ v ∈ vs, TpI s.heap v (k v)) (ha : ∀ v ∈ vs, v ≠ .ref a) : SrtO.SortableO prog w A s a vs fun v u => HT.lexLt (k v) (k u) := by
  intro h' keep
  have hv' : ∀ v ∈ vs, TpI h' v (k v) := fun v hm => (hv v hm).keeps fun b o e g => keep b o (fun z => ha v hm (by rw [e, z])) g
  have hne : vs ≠ [] := fun z => by rw [z] at h2; simp at h2
  by_cases hall : ∀ v ∈ vs, k v ≠ []
  · obtain ⟨fs, h1, h4, h3⟩ := ktups (s := { s with heap := h' }) hv' hall
    refine ⟨tuples' true, fun Q E hq => ?_, fun p q hp hq => lt_tps (Q := fun r s' => s' = { s with heap := h' } ∧ r = HT.lexLt (k p.1) (k q.1)) (E := fun _ _ => False) (hv' p.1 hp) (hv' q.1 hq) ⟨rfl, rfl⟩⟩
    refine kat_kind (T := .type "int") h1 (by omega) (fun f hm => ?_) (by rfl) ?_
    · obtain ⟨x, t, rfl⟩ := h3 f hm
      exact Looks.now
    · have e : (Value.type "int" != Value.type "tuple") = true := by decide
      rw [e]
      exact hq
  · have hex : ∃ v ∈ vs, k v = [] := by
      false_or_by_contra
      exact hall fun v hm z => by rename_i hc; exact hc ⟨v, hm, z⟩
    obtain ⟨v1, rest, rfl⟩ : ∃ v₁ rest, vs = v₁ :: rest := by
      match vs, hne with
      | [], h2 => exact absurd rfl h2
      | v₁ :: rest, _ => exact ⟨v₁, rest, rfl⟩
    have key : ∀ (κ : SortKind), (∀ (fs : List (Option Value)), fs.length = (v1 :: rest).length → (∀ (i : Nat) (v : Value), (v1 :: rest)[i]? = some v → ∃ f : Option Value, fs[i]? = some f ∧ f.isSome = !(k v).isEmpty) → ∀ (Q : SortKind → Shared → Prop) (E : Value → Shared → Prop), Q κ { s with heap := h' } →
        wpAny (model prog w) A (do
          if (fs[0]?.bind id).isSome then return general'
          return if (← oneTypeOnly' (v1 :: rest).toArray).isSome then oneType' else general') Q E { s with heap := h' }) →
        ∀ (Q : SortKind → Shared → Prop) (E : Value → Shared → Prop), Q κ { s with heap := h' } → wpAny (model prog w) A (keyKind' (v1 :: rest).toArray) Q E { s with heap := h' } := fun κ hk Q E hq => by
      rw [kat_kind_eq, List.mapM_toArray, map_eq_pure_bind]
      refine wpAny_bind (wpAny_bind (kfirsts (s := { s with heap := h' }) _ hv' fun fs hl hf => wpAny_pure ?_))
      have hno : ¬ (fs.toArray.all fun x => x.isSome) = true := fun z => by
        obtain ⟨v, hm, e⟩ := hex
        obtain ⟨i, hi⟩ := List.mem_iff_getElem?.mp hm
        obtain ⟨f, hf1, hf2⟩ := hf i v hi
        rw [List.all_toArray, List.all_eq_true] at z
        have := z f (List.mem_of_getElem? hf1)
        rw [this, e] at hf2
        cases hf2
      rw [if_neg hno]
      have := hk fs hl hf Q E hq
      simpa using this
    by_cases h1 : k v1 = []
    · refine ⟨oneType', key oneType' fun fs hl hf Q E hq => ?_, fun p q hp hq => lt_one (Q := fun r s' => s' = { s with heap := h' } ∧ r = HT.lexLt (k p.1) (k q.1)) (E := fun _ _ => False) hu (hv' p.1 hp) (hv' q.1 hq) ⟨rfl, rfl⟩⟩
      obtain ⟨f, hf1, hf2⟩ := hf 0 v1 rfl
      rw [h1] at hf2
      have e : (fs[0]?.bind id).isSome = false := by rw [hf1]; exact hf2
      rw [e, if_neg Bool.false_ne_true]
      refine wpAny_bind (one_tup (s := { s with heap := h' }) (by simp) hv' (wpAny_pure ?_))
      exact hq
    · refine ⟨general', key general' fun fs hl hf Q E hq => ?_, fun p q hp hq => lt_gen (Q := fun r s' => s' = { s with heap := h' } ∧ r = HT.lexLt (k p.1) (k q.1)) (E := fun _ _ => False) hu (hv' p.1 hp) (hv' q.1 hq) ⟨rfl, rfl⟩⟩
      obtain ⟨f, hf1, hf2⟩ := hf 0 v1 rfl
      have e : (fs[0]?.bind id).isSome = true := by
        rw [hf1]
        show f.isSome = true
        rw [hf2]
        cases q : k v1 with
        | nil => exact absurd q h1
        | cons x r => rfl
      rw [e, if_pos rfl]
      exact wpAny_pure hq
end
section
variable {X : Cx} {pins : List (Addr × Obj)} {σ : L2.St} {H : Hp} {s : Shared}
theorem tpI_raw (I : Inv X pins σ H s) {t : Addr} {ns : List Int} (h : SqT X.K H t (ns.map V.int)) : TpI s.heap (.ref t) ns := by
  obtain ⟨its, rv, ⟨⟨cls, dd, data, sl⟩, ho, hc, n, hd⟩, _⟩ := I.tuple h
  simp only at hc hd
  subst hc hd
  exact ⟨t, dd, its.toArray, n, sl, rfl, ho, by simpa using rv.ints⟩
/-- sorted(xs), xs a list of tuples of numbers -/
theorem call_sortT (hu : X.A.units + 64 < cLine) : CallR X (.builtin "sorted") (fun vs H Q => ∃ (a : Addr) (xs : List V) (k : V → List Int), vs = [V.ref a] ∧ SqL X.K H a xs ∧ (∀ x ∈ xs, ∃ t, x = .ref t ∧ SqT X.K H t ((k x).map V.int)) ∧
    ∀ (ys : List V) (p : Addr), ys.Perm xs → ys.Pairwise (fun x y => HT.lexLt (k y) (k x) = false) → H p = none → Q (.ref p) (upd H p (.lst ys))) := by
  intro pins s σ H vs us Q I r h
  obtain ⟨a, xs, k, rfl, hs, hx, q⟩ := h
  obtain ⟨its, rv, hl, hz⟩ := I.list hs
  rw [Vals.ref1 r]
  obtain ⟨e1, e2⟩ := bkV_refs rv fun x m => by
    obtain ⟨t, e, _⟩ := hx x m
    exact ⟨t, e⟩
  have hz' : its.length ≤ sizeLine := by rw [← rv.length]; exact hz
  have tp : ∀ u ∈ its, TpI s.heap u (k (bkV u)) := fun u hm => by
    obtain ⟨t, rfl⟩ := e2 u hm
    obtain ⟨t', e, hT⟩ := hx (.ref t) (by rw [e1]; exact List.mem_map.mpr ⟨_, hm, rfl⟩)
    cases e
    exact tpI_raw I hT
  refine SrtO.sorted_ord (NtL.swo_lexL fun u => k (bkV u)) hl.isList hz' (fun h2 h₁ b hb keep => tp_sortable (s := { s with heap := h₁ }) h2 (by show X.A.units + 1 + 1 < cLine; omega) (fun u hm => (tp u hm).keeps fun c o _ g => (keep c o g).2) fun u hm z => ?_) fun out h1 h2 => ?_
  · obtain ⟨c, dd, items, n, sl, ev, g, i⟩ := tp u hm
    rw [z] at ev
    cases ev
    exact (keep _ _ g).1 rfl
  · obtain ⟨ep, he'⟩ := PyProof.Rows.sortedAll_at s.heap its out.toArray
    have hp : (out.map bkV).Perm xs := by
      rw [e1]
      exact h2.perm.map bkV
    have h3 : ∀ u ∈ out, ∃ a, u = Value.ref a := fun u hu => e2 u (h2.perm.mem_iff.mp hu)
    have hlen : (out.map bkV).length ≤ sizeLine := by
      rw [hp.length_eq]
      exact hz
    refine ⟨.ref _, upd H (s.heap.objs.size + 1) (.lst (out.map bkV)), I.laid (t' := s.toks) (fun _ _ => PyProof.Rows.sortedAll_old) (Nat.le_succ _) ⟨hlen, out, ep, bkV_vals h3, he'⟩, rfl, q _ _ hp ?_ (I.hok.fresh (Nat.le_succ _))⟩
    exact List.pairwise_map.mpr (h1.imp fun {x y} z => z)
end
/-! ### lots in their order -/
def castL (l : List Nat) : List Int := l.map fun (n : Nat) => (n : Int)
def ltN (a b : List Nat) : Bool := HT.lexLt (castL a) (castL b)
def sortL (ls : List (List Nat)) : List (List Nat) := ls.mergeSort fun a b => !ltN b a
theorem lex_eq : ∀ a b : List Int, HT.lexLt a b = false → HT.lexLt b a = false → a = b
  | [], [], _, _ => rfl
  | [], _ :: _, h, _ => by cases h
  | _ :: _, [], _, h => by cases h
  | x :: xs, y :: ys, h1, h2 => by
    rw [HT.lexLt_cons] at h1 h2
    by_cases e : x = y
    · subst e
      rw [if_pos rfl] at h1 h2
      rw [lex_eq xs ys h1 h2]
    · rw [if_neg e, decide_eq_false_iff_not] at h1
      rw [if_neg (Ne.symm e), decide_eq_false_iff_not] at h2
      omega
theorem castL_inj {a b : List Nat} (h : castL a = castL b) : a = b := by
  have e : ∀ l : List Nat, (castL l).map Int.toNat = l := fun l => by
    unfold castL
    rw [List.map_map]
    exact (List.map_congr_left fun n _ => Int.toNat_natCast n).trans (List.map_id l)
  rw [← e a, ← e b, h]
theorem ltN_asym {a b : List Nat} (h : ltN a b = true) : ltN b a = false := (NtL.swo_lexL castL).asym a b h
theorem ltN_tr {a b c : List Nat} (h1 : ltN b a = false) (h2 : ltN c b = false) : ltN c a = false := (NtL.swo_lexL castL).tr a b c h1 h2
theorem sortL_perm (ls : List (List Nat)) : (sortL ls).Perm ls := List.mergeSort_perm _ _
theorem sortL_srt (ls : List (List Nat)) : (sortL ls).Pairwise fun a b => ltN b a = false := by
  have := List.pairwise_mergeSort (le := fun a b : List Nat => !ltN b a) (fun a b c h1 h2 => by
    simp only [Bool.not_eq_true'] at h1 h2 ⊢
    exact ltN_tr h1 h2) (fun a b => by
    cases q : ltN b a with
    | false => rfl
    | true => rw [ltN_asym q]; rfl) ls
  exact this.imp fun {a b} h => by simpa using h
theorem sortL_uniq {ls ys : List (List Nat)} (hp : ys.Perm ls) (h : ys.Pairwise fun a b => ltN b a = false) : ys = sortL ls :=
  List.Perm.eq_of_pairwise (le := fun a b => ltN b a = false) (fun a b _ _ h1 h2 => castL_inj (lex_eq _ _ h2 h1)) h (sortL_srt ls) (hp.trans (sortL_perm ls).symm)
theorem da_lot {F : Hp} {l : List Nat} {v : V} : Da F (lotD l) v ↔ ∃ t, v = .ref t ∧ F t = some (.tup ((castL l).map V.int)) := by
  unfold lotD
  simp only [Da]
  constructor
  · rintro ⟨a, xs, h1, h2, h3⟩
    rw [map_nD] at h3
    have := DaL.ints h3
    subst this
    exact ⟨a, h1, h2⟩
  · rintro ⟨t, h1, h2⟩
    refine ⟨t, _, h1, h2, ?_⟩
    rw [map_nD]
    exact DaL.ofInts
theorem vint_inj : ∀ a b : List Int, a.map V.int = b.map V.int → a = b
  | [], [], _ => rfl
  | [], _ :: _, h => by cases h
  | _ :: _, [], h => by cases h
  | x :: xs, y :: ys, h => by
    simp only [List.map_cons] at h
    injection h with h1 h2
    injection h1 with h3
    rw [h3, vint_inj xs ys h2]
/-- the numbers of a tuple -/
noncomputable def kOf (F : Hp) (v : V) : List Nat := by
  classical
  exact if h : ∃ l : List Nat, Da F (lotD l) v then h.choose else []
theorem kOf_eq {F : Hp} {v : V} {l : List Nat} (h : Da F (lotD l) v) : kOf F v = l := by
  have hx : ∃ l : List Nat, Da F (lotD l) v := ⟨l, h⟩
  unfold kOf
  rw [dif_pos hx]
  have := hx.choose_spec
  rw [da_lot] at h this
  obtain ⟨t, e1, e2⟩ := h
  obtain ⟨u, e3, e4⟩ := this
  rw [e1] at e3
  cases e3
  rw [e2] at e4
  injection e4 with e5
  injection e5 with e6
  exact (castL_inj (vint_inj _ _ e6)).symm
theorem dal_lots {F : Hp} : ∀ {ls : List (List Nat)} {xs : List V}, DaL F (ls.map lotD) xs → ls = xs.map (kOf F) ∧ ∀ x ∈ xs, Da F (lotD (kOf F x)) x
  | [], _, h => by simp only [List.map_nil, DaL] at h; subst h; exact ⟨rfl, fun x hx => nomatch hx⟩
  | l :: ls, _, h => by
    simp only [List.map_cons, DaL] at h
    obtain ⟨y, ys, h1, h2, h3⟩ := h
    subst h1
    obtain ⟨e1, e2⟩ := dal_lots h3
    refine ⟨by rw [List.map_cons, kOf_eq h2, ← e1], fun x hx => ?_⟩
    rcases List.mem_cons.mp hx with z | z
    · subst z; rw [kOf_eq h2]; exact h2
    · exact e2 x z
theorem dal_of {F : Hp} : ∀ {xs : List V}, (∀ x ∈ xs, Da F (lotD (kOf F x)) x) → DaL F ((xs.map (kOf F)).map lotD) xs
  | [], _ => by simp only [List.map_nil]; exact DaL.nil
  | x :: xs, h => DaL.cons (h x List.mem_cons_self) (dal_of fun y hy => h y (List.mem_cons_of_mem _ hy))
section
variable {X : Cx}
theorem f_sortL (hu : X.A.units + 64 < cLine) {ls : List (List Nat)} : CalOk X (.builtin "sorted") [.d (llD ls)] (.d (llD (sortL ls))) := ⟨_, call_sortT hu, fun M H vs l h Q q => by
  obtain ⟨v, rfl, hv⟩ := rpl_1 h
  unfold llD at hv
  rw [rp_lst] at hv
  obtain ⟨a, xs, rfl, h1, h2⟩ := hv
  obtain ⟨e, hx⟩ := dal_lots h2
  refine ⟨a, xs, fun v => castL (kOf (off M H) v), rfl, .inl (.inl (off_sub _ _ h1)), fun x m => ?_, fun ys p hp hs hn => ?_⟩
  · obtain ⟨t, e1, e2⟩ := da_lot.mp (hx x m)
    exact ⟨t, e1, SqT.of (off_sub _ _ e2)⟩
  · have hy : ∀ y ∈ ys, Da (off M H) (lotD (kOf (off M H) y)) y := fun y m => hx y (hp.mem_iff.mp m)
    have hd := dal_of hy
    have es : ys.map (kOf (off M H)) = sortL ls := sortL_uniq (by rw [e]; exact hp.map _) (List.pairwise_map.mpr (hs.imp fun {x y} z => z))
    rw [es] at hd
    exact yd_lst l hd q p hn⟩
end
end SG
set_option Elab.async false
set_option linter.all false
set_option maxRecDepth 100000
set_option maxHeartbeats 4000000
/-! places; small things -/
namespace SG
open PySem PySem.Spec PyProof.Rows L2
section
variable {X : Cx}
theorem get_map {α β : Type} {l : List α} {k : Nat} (f : α → β) (d : α) (h : k < l.length) : (l.map f)[k]? = some (f (l.getD k d)) := by
  rw [List.getElem?_map, List.getElem?_eq_getElem h, List.getD_eq_getElem?_getD, List.getElem?_eq_getElem h]
  rfl
theorem x_nl {ss : List Nat} {k : Nat} (h : k < ss.length) : IxOk X (.d (.list (ss.map nD))) (I_ (k : Nat)) (I_ (ss.getD k 0 : Nat)) := x_lst (atI_nat (get_map nD 0 h))
theorem x_lot {ss : List Nat} {k : Nat} (h : k < ss.length) : IxOk X (.d (lotD ss)) (I_ (k : Nat)) (I_ (ss.getD k 0 : Nat)) := x_tup (atI_nat (get_map nD 0 h))
theorem x_lots {ls : List (List Nat)} {k : Nat} (h : k < ls.length) : IxOk X (.d (lotsD ls)) (I_ (k : Nat)) (.d (lotD (ls.getD k []))) := x_tup (atI_nat (get_map lotD [] h))
theorem x_ll {ls : List (List Nat)} {k : Nat} (h : k < ls.length) : IxOk X (.d (llD ls)) (I_ (k : Nat)) (.d (lotD (ls.getD k []))) := x_lst (atI_nat (get_map lotD [] h))
theorem x_lm {ls : List (List Nat)} {k : Nat} (h : k < ls.length) : IxOk X (.d (.list (ls.map lotD))) (I_ (k : Nat)) (.d (lotD (ls.getD k []))) := x_lst (atI_nat (get_map lotD [] h))
theorem x_sp0 {S : Nat × List (List Nat)} : IxOk X (.d (spD S)) (I_ ((0 : Nat) : Int)) (I_ (S.1 : Nat)) := x_tup rfl
theorem x_sp1 {S : Nat × List (List Nat)} : IxOk X (.d (spD S)) (I_ ((1 : Nat) : Int)) (.d (lotsD S.2)) := x_tup rfl
theorem f_lenM {α : Type} {xs : List α} {f : α → PyData} : CalOk X (.builtin "len") [.d (.list (xs.map f))] (I_ (xs.length : Nat)) := by
  have := f_len (X := X) (ds := xs.map f)
  rwa [List.length_map] at this
theorem f_lenTM {α : Type} {xs : List α} {f : α → PyData} : CalOk X (.builtin "len") [.d (.tuple (xs.map f))] (I_ (xs.length : Nat)) := by
  have := f_lenT (X := X) (ds := xs.map f)
  rwa [List.length_map] at this
theorem f_lenN {l : List Nat} : CalOk X (.builtin "len") [.d (lotD l)] (I_ (l.length : Nat)) := f_lenTM
theorem f_lenNs {l : List (List Nat)} : CalOk X (.builtin "len") [.d (lotsD l)] (I_ (l.length : Nat)) := f_lenTM
end
/-! what is shaped -/
theorem shaped_iff {d : PyData} : Sh d ↔ d.canLay0 = true ∧ d.depth ≤ 64 := by
  show (d.canLay0 && decide (d.depth ≤ 64)) = true ↔ _
  rw [Bool.and_eq_true, decide_eq_true_eq]
theorem can_lot (l : List Nat) : (lotD l).canLay0 = true ∧ (lotD l).depth = 1 := by
  have h : ∀ l : List Nat, PyData.canLayAll0 (l.map nD) = true ∧ PyData.depthAll (l.map nD) = 0 := fun l => by
    induction l with
    | nil => exact ⟨by simp [PyData.canLayAll0], by simp [PyData.depthAll]⟩
    | cons a l ih => exact ⟨by simp [PyData.canLayAll0, PyData.canLay0, ih.1], by simp [PyData.depthAll, PyData.depth, ih.2]⟩
  unfold lotD
  exact ⟨by simp [PyData.canLay0, (h l).1], by simp [PyData.depth, (h l).2]⟩
theorem sh_int {i : Int} : Sh (.int i) := shaped_iff.mpr ⟨by simp [PyData.canLay0], by simp [PyData.depth]⟩
theorem sh_bool {i : Bool} : Sh (.bool i) := shaped_iff.mpr ⟨by simp [PyData.canLay0], by simp [PyData.depth]⟩
theorem sh_none : Sh .none := shaped_iff.mpr ⟨by simp [PyData.canLay0], by simp [PyData.depth]⟩
theorem sh_lot {l : List Nat} : Sh (lotD l) := shaped_iff.mpr ⟨(can_lot l).1, by rw [(can_lot l).2]; decide⟩
theorem can_lots (ls : List (List Nat)) : PyData.canLayAll0 (ls.map lotD) = true ∧ PyData.depthAll (ls.map lotD) ≤ 1 := by
  induction ls with
  | nil => exact ⟨by simp [PyData.canLayAll0], by simp [PyData.depthAll]⟩
  | cons a l ih =>
    refine ⟨by rw [List.map_cons]; simp only [PyData.canLayAll0]; rw [(can_lot a).1, ih.1]; rfl, ?_⟩
    rw [List.map_cons]
    simp only [PyData.depthAll]
    rw [(can_lot a).2]
    omega
theorem sh_lots {ls : List (List Nat)} : Sh (lotsD ls) := shaped_iff.mpr ⟨by unfold lotsD; simp [PyData.canLay0, (can_lots ls).1], by have := (can_lots ls).2; unfold lotsD; simp only [PyData.depth]; omega⟩
theorem sh_ll {ls : List (List Nat)} : Sh (.list (ls.map lotD)) := shaped_iff.mpr ⟨by simp [PyData.canLay0, (can_lots ls).1], by have := (can_lots ls).2; simp only [PyData.depth]; omega⟩
theorem sh_nl {l : List Nat} : Sh (.list (l.map nD)) := by
  have := (shaped_iff.mp (sh_lot (l := l)))
  unfold lotD at this
  refine shaped_iff.mpr ⟨?_, ?_⟩
  · simpa [PyData.canLay0] using this.1
  · simpa [PyData.depth] using this.2
theorem sh_nil : Sh (.list []) := sh_nl (l := [])
theorem sh_nilT : Sh (.tuple []) := sh_lot (l := [])
theorem sh_tup {ds : List PyData} (h : Sh (.tuple ds)) : ∀ d ∈ ds, Sh d := by
  have ⟨h1, h2⟩ := shaped_iff.mp h
  have k1 : PyData.canLayAll0 ds = true := by simpa [PyData.canLay0] using h1
  have k2 : PyData.depthAll ds ≤ 63 := by simp only [PyData.depth] at h2; omega
  clear h h1 h2
  induction ds with
  | nil => exact fun d hd => nomatch hd
  | cons a ds ih =>
    simp only [PyData.canLayAll0, Bool.and_eq_true] at k1
    simp only [PyData.depthAll] at k2
    intro d hd
    rcases List.mem_cons.mp hd with z | z
    · subst z
      exact shaped_iff.mpr ⟨k1.1, by omega⟩
    · exact ih k1.2 (by omega) d z
theorem eqvAll_nil {ds : List PyData} : PyData.eqvAll ds [] = ds.isEmpty := by cases ds <;> simp [PyData.eqvAll]
theorem eqvAll_ints : ∀ a b : List Nat, PyData.eqvAll (a.map nD) (b.map nD) = decide (a = b)
  | [], [] => by simp [PyData.eqvAll]
  | [], _ :: _ => by simp [PyData.eqvAll]
  | _ :: _, [] => by simp [PyData.eqvAll]
  | x :: xs, y :: ys => by
    simp only [List.map_cons, PyData.eqvAll, PyData.eqv, eqvAll_ints xs ys]
    rw [Bool.eq_iff_iff]
    simp [Int.natCast_inj]
theorem eqv_lot {a b : List Nat} : PyData.eqv (lotD a) (lotD b) = decide (a = b) := by
  unfold lotD
  simp only [PyData.eqv, eqvAll_ints]
theorem eqvAll_lots : ∀ a b : List (List Nat), PyData.eqvAll (a.map lotD) (b.map lotD) = decide (a = b)
  | [], [] => by simp [PyData.eqvAll]
  | [], _ :: _ => by simp [PyData.eqvAll]
  | _ :: _, [] => by simp [PyData.eqvAll]
  | x :: xs, y :: ys => by
    simp only [List.map_cons, PyData.eqvAll, eqv_lot, eqvAll_lots xs ys]
    rw [Bool.eq_iff_iff]
    simp
section
variable {X : Cx}
/-- == [], != [], == (): of lists and tuples -/
theorem c_nilL (hu : X.A.units + 64 < cLine) {ds : List PyData} (h : Sh (.list ds)) : CmpOk X .Eq (.d (.list ds)) (.d (.list [])) ds.isEmpty := by
  have := c_eqD hu h sh_nil
  simpa only [PyData.eqv, eqvAll_nil] using this
theorem c_nnilL (hu : X.A.units + 64 < cLine) {ds : List PyData} (h : Sh (.list ds)) : CmpOk X .NotEq (.d (.list ds)) (.d (.list [])) (!ds.isEmpty) := by
  have := c_neD hu h sh_nil
  simpa only [PyData.eqv, eqvAll_nil] using this
theorem c_nilT (hu : X.A.units + 64 < cLine) {ds : List PyData} (h : Sh (.tuple ds)) : CmpOk X .Eq (.d (.tuple ds)) (.d (.tuple [])) ds.isEmpty := by
  have := c_eqD hu h sh_nilT
  simpa only [PyData.eqv, eqvAll_nil] using this
theorem c_nnilT (hu : X.A.units + 64 < cLine) {ds : List PyData} (h : Sh (.tuple ds)) : CmpOk X .NotEq (.d (.tuple ds)) (.d (.tuple [])) (!ds.isEmpty) := by
  have := c_neD hu h sh_nilT
  simpa only [PyData.eqv, eqvAll_nil] using this
theorem c_eqLot (hu : X.A.units + 64 < cLine) {a b : List Nat} : CmpOk X .Eq (.d (lotD a)) (.d (lotD b)) (decide (a = b)) := by
  rw [← eqv_lot]; exact c_eqD hu sh_lot sh_lot
theorem c_neLot (hu : X.A.units + 64 < cLine) {a b : List Nat} : CmpOk X .NotEq (.d (lotD a)) (.d (lotD b)) (!decide (a = b)) := by
  rw [← eqv_lot]; exact c_neD hu sh_lot sh_lot
end
end SG
set_option Elab.async false
set_option linter.all false
set_option maxRecDepth 100000
set_option maxHeartbeats 4000000
/-! dicts of numbers -/
namespace SG
open PySem PySem.Spec PyProof.Rows L2
/-- the keys of a dict whose values are True -/
def setKV (ks : List Nat) : List (Key × PyData) := ks.map fun (k : Nat) => ((Sum.inl (k : Int) : Key), PyData.bool true)
def setV (ks : List Nat) : List (Key × V) := ks.map fun (k : Nat) => ((Sum.inl (k : Int) : Key), V.bl true)
abbrev setD (ks : List Nat) : Sl := .dk (setKV ks)
theorem kvr_set {F : Hp} : ∀ {ks : List Nat} {ps : List (Key × V)}, KvR F (setKV ks) ps → ps = setV ks
  | [], _, h => by
    cases h with
    | nil => rfl
  | k :: ks, _, h => by
    cases h with
    | cons h t =>
      rename_i b l
      have := kvr_set (ks := ks) t
      obtain ⟨h1, h2⟩ := h
      obtain ⟨b1, b2⟩ := b
      simp only [Da] at h2
      simp only at h1 h2
      subst h1 h2
      rw [this]
      rfl
theorem kvr_of {F : Hp} : ∀ ks : List Nat, KvR F (setKV ks) (setV ks)
  | [] => .nil
  | k :: ks => .cons ⟨rfl, by simp only [Da]⟩ (kvr_of ks)
theorem val_set (ks : List Nat) (k : Nat) : (valV (setV ks) (Sum.inl (k : Int))).isSome = decide (k ∈ ks) := by
  unfold setV
  rw [← valV_any, List.any_map, Bool.eq_iff_iff]
  simp only [List.any_eq_true, Function.comp, decide_eq_true_eq, Sum.inl.injEq, Int.natCast_inj]
  exact ⟨fun ⟨x, h1, h2⟩ => h2 ▸ h1, fun h => ⟨k, h, rfl⟩⟩
def insN (ks : List Nat) (k : Nat) : List Nat := if k ∈ ks then ks else ks ++ [k]
def ddN (xs : List Nat) : List Nat := xs.foldl insN []
theorem put_set (ks : List Nat) (k : Nat) : putK (setV ks) (Sum.inl (k : Int)) (.bl true) = setV (insN ks k) := by
  unfold putK insN
  rw [valV_any, val_set]
  by_cases h : k ∈ ks
  · rw [if_pos (by simp [h]), if_pos h]
    unfold setV
    rw [List.map_map]
    refine List.map_congr_left fun a _ => ?_
    simp only [Function.comp]
    split <;> rfl
  · rw [if_neg (by simp [h]), if_neg h]
    unfold setV
    rw [List.map_append]
    rfl
theorem insN_mem {ks : List Nat} {k j : Nat} : j ∈ insN ks k ↔ j ∈ ks ∨ j = k := by
  unfold insN
  by_cases h : k ∈ ks
  · rw [if_pos h]
    exact ⟨.inl, fun z => z.elim id fun e => e ▸ h⟩
  · rw [if_neg h]
    simp
theorem insN_nd {ks : List Nat} {k : Nat} (h : ks.Nodup) : (insN ks k).Nodup := by
  unfold insN
  by_cases hk : k ∈ ks
  · rw [if_pos hk]; exact h
  · rw [if_neg hk]
    exact List.nodup_append.mpr ⟨h, by simp, fun a ha b hb e => by simp at hb; subst hb; exact hk (e ▸ ha)⟩
theorem fold_ins (xs : List Nat) : ∀ ks : List Nat, (∀ j, j ∈ xs.foldl insN ks ↔ j ∈ ks ∨ j ∈ xs) ∧ (ks.Nodup → (xs.foldl insN ks).Nodup) ∧ (xs.foldl insN ks).length ≤ ks.length + xs.length := by
  induction xs with
  | nil => exact fun ks => ⟨fun j => by simp, id, by simp⟩
  | cons x xs ih =>
    intro ks
    obtain ⟨h1, h2, h3⟩ := ih (insN ks x)
    refine ⟨fun j => ?_, fun h => h2 (insN_nd h), ?_⟩
    · show j ∈ xs.foldl insN (insN ks x) ↔ _
      rw [h1, insN_mem, List.mem_cons]
      exact ⟨fun z => z.elim (fun z => z.elim .inl fun e => .inr (.inl e)) fun z => .inr (.inr z), fun z => z.elim (fun z => .inl (.inl z)) fun z => z.elim (fun e => .inl (.inr e)) .inr⟩
    · show (xs.foldl insN (insN ks x)).length ≤ _
      have : (insN ks x).length ≤ ks.length + 1 := by
        unfold insN
        split <;> simp
      simp only [List.length_cons]
      omega
theorem ddN_mem {xs : List Nat} {j : Nat} : j ∈ ddN xs ↔ j ∈ xs := by rw [ddN, (fold_ins xs []).1]; simp
theorem ddN_nd (xs : List Nat) : (ddN xs).Nodup := (fold_ins xs []).2.1 List.nodup_nil
theorem ddN_len (xs : List Nat) : (ddN xs).length ≤ xs.length := by have := (fold_ins xs []).2.2; simpa [ddN] using this
def srtN (ks : List Nat) : List Nat := ks.mergeSort fun a b => decide (a ≤ b)
def sortU (xs : List Nat) : List Nat := srtN (ddN xs)
theorem sortU_perm (xs : List Nat) : (sortU xs).Perm (ddN xs) := List.mergeSort_perm _ _
theorem sortU_mem {xs : List Nat} {j : Nat} : j ∈ sortU xs ↔ j ∈ xs := by rw [(sortU_perm xs).mem_iff, ddN_mem]
theorem sortU_nd (xs : List Nat) : (sortU xs).Nodup := (sortU_perm xs).nodup_iff.mpr (ddN_nd xs)
theorem srtN_le (xs : List Nat) : (srtN xs).Pairwise (· ≤ ·) := by
  have := List.pairwise_mergeSort (le := fun a b : Nat => decide (a ≤ b)) (fun a b c h1 h2 => by simp at *; omega) (fun a b => by simp; omega) xs
  exact this.imp fun {a b} h => by simpa using h
theorem sortU_le (xs : List Nat) : (sortU xs).Pairwise (· ≤ ·) := srtN_le _
theorem sortU_lt (xs : List Nat) : (sortU xs).Pairwise (· < ·) := by
  have := List.pairwise_and_iff.mpr ⟨sortU_le xs, sortU_nd xs⟩
  exact this.imp fun {a b} h => by omega
theorem sorted_uniq {xs ys : List Nat} (h1 : xs.Pairwise (· ≤ ·)) (h2 : ys.Pairwise (· ≤ ·)) (hp : xs.Perm ys) : xs = ys :=
  List.Perm.eq_of_pairwise (le := fun a b : Nat => a ≤ b) (fun a b _ _ h1 h2 => Nat.le_antisymm h1 h2) h1 h2 hp
section
variable {X : Cx} {ks : List Nat} {k : Nat}
theorem op_inK (hu : X.A.units + 64 < cLine) : OpR X (compareOp .In) (fun y x H Q => ∃ a o, x = .ref a ∧ DGet H a y o ∧ Q (.bl o.isSome) H) := by
  intro pins s σ H y x v u Q I ry rx h
  obtain ⟨a, o, rfl, g, q⟩ := h
  cases rx
  exact d_in (by omega) I g ry fun s' I' => ⟨.bl o.isSome, H, I', rfl, q⟩
theorem op_niK (hu : X.A.units + 64 < cLine) : OpR X (compareOp .NotIn) (fun y x H Q => ∃ a o, x = .ref a ∧ DGet H a y o ∧ Q (.bl (!o.isSome)) H) := by
  intro pins s σ H y x v u Q I ry rx h
  obtain ⟨a, o, rfl, g, q⟩ := h
  cases rx
  exact d_notIn (by omega) I g ry fun s' I' => ⟨.bl (!o.isSome), H, I', rfl, q⟩
theorem rp_set {F : Hp} {v : V} : Rp F (setD ks) v ↔ ∃ a, v = .ref a ∧ F a = some (.dK (setV ks)) := by
  constructor
  · rintro ⟨a, ps, h1, h2, h3⟩
    rw [kvr_set h3] at h2
    exact ⟨a, h1, h2⟩
  · rintro ⟨a, h1, h2⟩
    exact ⟨a, _, h1, h2, kvr_of ks⟩
theorem c_inK (hu : X.A.units + 64 < cLine) : CmpOk X .In (I_ (k : Nat)) (setD ks) (decide (k ∈ ks)) := ⟨_, op_inK hu, fun M H y x l hy hx Q q => by
  rw [rp_int] at hy
  rw [rp_set] at hx
  obtain ⟨a, rfl, h1⟩ := hx
  subst hy
  refine ⟨a, _, rfl, DGet.k (k := Sum.inl (k : Int)) (off_sub _ _ h1), ?_⟩
  rw [val_set]
  exact q _ H (Same.refl H) (by rw [rp_bl])⟩
theorem c_niK (hu : X.A.units + 64 < cLine) : CmpOk X .NotIn (I_ (k : Nat)) (setD ks) (!decide (k ∈ ks)) := ⟨_, op_niK hu, fun M H y x l hy hx Q q => by
  rw [rp_int] at hy
  rw [rp_set] at hx
  obtain ⟨a, rfl, h1⟩ := hx
  subst hy
  refine ⟨a, _, rfl, DGet.k (k := Sum.inl (k : Int)) (off_sub _ _ h1), ?_⟩
  rw [val_set]
  exact q _ H (Same.refl H) (by rw [rp_bl])⟩
theorem f_sortK (hc : X.calm = true) (h64 : ks.length < 64) : CalOk X (.builtin "sorted") [setD ks] (.d (.list ((srtN ks).map nD))) := ⟨_, call_sortedDI hc, fun M H vs l h Q q => by
  obtain ⟨v, rfl, hv⟩ := rpl_1 h
  rw [rp_set] at hv
  obtain ⟨a, rfl, h1⟩ := hv
  refine ⟨a, _, castL ks, rfl, .inl (off_sub _ _ h1), by unfold setV castL; rw [List.map_map, List.map_map]; rfl, by unfold castL; rw [List.length_map]; exact h64, fun ys p hp hs hn => ?_⟩
  obtain ⟨zs, rfl⟩ : ∃ zs : List Nat, ys = castL zs := by
    have : ∀ y ∈ ys, ∃ n : Nat, y = (n : Int) := fun y hy => by
      obtain ⟨n, _, e⟩ := List.mem_map.mp (hp.mem_iff.mp hy)
      exact ⟨n, e.symm⟩
    clear hp hs
    induction ys with
    | nil => exact ⟨[], rfl⟩
    | cons y ys ih =>
      obtain ⟨zs, e⟩ := ih fun y hy => this y (List.mem_cons_of_mem _ hy)
      obtain ⟨n, en⟩ := this y List.mem_cons_self
      exact ⟨n :: zs, by rw [en, e]; rfl⟩
  have hp' : zs.Perm ks := by
    have := hp.map Int.toNat
    have e : ∀ l : List Nat, (castL l).map Int.toNat = l := fun l => by
      unfold castL
      rw [List.map_map]
      exact (List.map_congr_left fun n _ => Int.toNat_natCast n).trans (List.map_id l)
    rwa [e, e] at this
  have hs' : zs.Pairwise (· ≤ ·) := (List.pairwise_map.mp hs).imp fun {a b} z => by omega
  have e : zs = srtN ks := sorted_uniq hs' (srtN_le ks) (hp'.trans (List.mergeSort_perm _ _).symm)
  rw [← e] at q
  have hd : DaL (off M H) (zs.map nD) ((castL zs).map V.int) := by
    rw [map_nD]
    exact DaL.ofInts
  exact yd_lst l hd q p hn⟩
end
/-- an own object's new contents (no addresses within) -/
theorem Cf.putR {a : Addr} {x o : HO} {W : List Ow} {ρ : Rho} {σ : L2.St} {H : Hp} (c : Cf (.raw a x :: W) ρ σ H) (ho : RawOk o := by exact ⟨(by intro xs e; cases e), (by intro xs e; cases e)⟩) : Cf (.raw a o :: W) ρ σ (upd H a o) ∧ Go (.raw a x :: W) (.raw a o :: W) H (upd H a o) := by
  have nd := c.hd.nd
  have sm : Same (off (adrs (Ow.raw a x :: W)) H) (off (adrs (Ow.raw a o :: W)) (upd H a o)) := fun b y e => by
    obtain ⟨h1, h2⟩ := off_some e
    have h1' : b ∉ adrs (Ow.raw a o :: W) := h1
    rw [off_out h1', upd_ne (fun z => h1 (by rw [z]; exact List.mem_cons_self))]
    exact h2
  have na : a ∉ adrs W := (List.nodup_cons.mp nd).1
  refine ⟨⟨c.len, ⟨nd, fun u hu => ?_⟩, fun i s e => ?_⟩, ⟨fun b y hb e => ?_, fun b hb => .inl hb⟩⟩
  · rcases List.mem_cons.mp hu with e | hu
    · subst e
      exact ⟨upd_same, ho⟩
    · have hh := c.hd.hold u (List.mem_cons_of_mem _ hu)
      have ne : u.addr ≠ a := fun z => na (by rw [← z]; exact List.mem_map.mpr ⟨u, hu, rfl⟩)
      cases u with
      | raw b y => exact ⟨(upd_ne ne).trans hh.1, hh.2⟩
      | lst b es =>
        obtain ⟨us, h1, h2⟩ := hh
        exact ⟨us, (upd_ne ne).trans h1, DaL.mono sm es us h2⟩
      | tab b q =>
        obtain ⟨ps, h1, h2, h3⟩ := hh
        exact ⟨ps, (upd_ne ne).trans h1, h2, fun pos cv hc => let ⟨c, q1, q2⟩ := h3 pos cv hc; ⟨c, q1, sm _ _ q2⟩⟩
  · obtain ⟨v, h1, h2⟩ := c.env i s e
    exact ⟨v, h1, h2.mono sm⟩
  · exact (upd_ne (fun z => hb (by rw [z]; exact List.mem_cons_self))).trans e
theorem Cf.newR {D : Addr} {o : HO} {W : List Ow} {ρ : Rho} {σ : L2.St} {H : Hp} (c : Cf W ρ σ H) (hD : H D = none) (ho : RawOk o := by exact ⟨(by intro xs e; cases e), (by intro xs e; cases e)⟩) : Cf (.raw D o :: W) ρ σ (upd H D o) ∧ Go W (.raw D o :: W) H (upd H D o) := by
  have hDW : D ∉ adrs W := fun m => c.hd.lv D m hD
  have sm : Same H (upd H D o) := upd_ext hD
  have sm2 : Same (off (adrs W) H) (off (adrs (.raw D o :: W)) (upd H D o)) := fun b x e => by
    obtain ⟨h1, h2⟩ := off_some e
    have : b ∉ adrs (Ow.raw D o :: W) := fun m => by
      rcases List.mem_cons.mp m with z | z
      · have z : b = D := z
        rw [z, hD] at h2; cases h2
      · exact h1 z
    rw [off_out this]
    exact sm b x h2
  refine ⟨⟨c.len, ⟨List.nodup_cons.mpr ⟨hDW, c.hd.nd⟩, fun u hu => ?_⟩, fun i s e => ?_⟩, ⟨fun b x hb e => sm b x e, fun b hb => ?_⟩⟩
  · rcases List.mem_cons.mp hu with e | hu
    · subst e
      exact ⟨upd_same, ho⟩
    · exact Ow.holds_mono sm2 sm (c.hd.hold u hu)
  · obtain ⟨v, h1, h2⟩ := c.env i s e
    exact ⟨v, h1, h2.mono sm2⟩
  · rcases List.mem_cons.mp hb with z | z
    · have z : b = D := z
      exact .inr (by rw [z]; exact hD)
    · exact .inl z
def pickN (p : Nat → Bool) (f : Nat → Nat) (n : Nat) : List Nat := ((List.range n).filter p).map f
theorem pickN_yes {p : Nat → Bool} {f : Nat → Nat} {n : Nat} (h : p n = true) : pickN p f (n + 1) = pickN p f n ++ [f n] := by
  unfold pickN
  rw [List.range_succ, List.filter_append, List.map_append, List.filter_cons, if_pos h]
  rfl
theorem pickN_no {p : Nat → Bool} {f : Nat → Nat} {n : Nat} (h : p n = false) : pickN p f (n + 1) = pickN p f n := by
  unfold pickN
  rw [List.range_succ, List.filter_append, List.filter_cons, if_neg (by rw [h]; decide)]
  simp
theorem pickN_len (p : Nat → Bool) (f : Nat → Nat) (n : Nat) : (pickN p f n).length ≤ n := by
  unfold pickN
  rw [List.length_map]
  have h := List.length_filter_le p (List.range n)
  rw [List.length_range] at h
  exact h
theorem ddN_app (xs : List Nat) (k : Nat) : ddN (xs ++ [k]) = insN (ddN xs) k := by unfold ddN; rw [List.foldl_append]; rfl
section
variable {X : Cx} {tg e iter kx vx : Expr} {ifs : List Expr} {pos : Pos} {W W0 W1 : List Ow} {ρ : Rho} {ds : List PyData}
theorem dc_read {t : TG} {vs is : List Nat} {g : PyData → Rho → Rho → Prop} {σ : L2.St} {Q : VK} {p : Nat → Bool} {f : Nat → Nat} {ρf : Nat → Rho} {J : It} {H1 : Hp} {Z : List Ow}
    (ht : TgS t X.K is g) (his : ∀ i ∈ is, i ∈ vs) (hρ : ∀ i d, ds[i]? = some d → g d (wipeR ρ vs) (ρf i)) (hz : ds.length < sizeLine)
    (c : Cf (Z ++ W0) ρ σ H1) (wk : WkD J ds (off (adrs (Z ++ W0)) H1)) (k : ∀ v H', Go (Z ++ W0) (Z ++ W0) H1 H' → Hd (Z ++ W0) H' → Rp (off (adrs (Z ++ W0)) H') (setD (ddN (pickN p f ds.length))) v → Q v H') :
    ∀ D, H1 D = none → ∃ W : Nat → Nat → Hp → Prop, (∃ m, W 0 m (upd H1 D (.dK []))) ∧ ∀ i m H, W i m H →
      (J.stop i H ∧ Q (.ref D) H) ∨ (J.go i H ∧ ∃ Nx : Hp → Prop, (∀ H', Nx H' → ∃ m', m' < m ∧ W (i + 1) m' H') ∧ ∀ x H', J.yld i H x H' → t x (L2.wipe σ vs) H' fun σ2 H2 => L2.wipe σ2 vs = L2.wipe σ vs ∧
        (∃ i, i < ds.length ∧ tT W0 (ρf i) (p i) W0 σ2 H2 fun b H3 => if b = true then (∃ i, i < ds.length ∧ p i = true ∧ tE W0 (ρf i) (I_ (f i : Nat)) W0 σ2 H3 fun y H4 => (∃ i, i < ds.length ∧ p i = true ∧ tE W0 (ρf i) (B_ true) W0 σ2 H4 fun z H5 => ∃ kvs k, y = kV k ∧ H5 D = some (.dK kvs) ∧ kvs.length < sizeLine ∧ Nx (upd H5 D (.dK (putK kvs k z))))) else Nx H3)) := by
  intro D hD
  let B : Nat → HO := fun i => .dK (setV (ddN (pickN p f i)))
  refine ⟨fun i m H' => m = ds.length - i ∧ i ≤ ds.length ∧ Cf (.raw D (B i) :: (Z ++ W0)) (wipeR ρ vs) (L2.wipe σ vs) H' ∧ Go (Z ++ W0) (.raw D (B i) :: (Z ++ W0)) H1 H', ⟨ds.length, by simp, Nat.zero_le _, ?_⟩, ?_⟩
  · exact (c.wipe vs).newR (o := B 0) hD
  · rintro i m H' ⟨rfl, hi, cf, go⟩
    have s0 : Same (off (adrs (Z ++ W0)) H1) (off (adrs (.raw D (B i) :: (Z ++ W0))) H') := go.off
    obtain ⟨w1, w2, w3⟩ := wk _ H' cf.hd.lv s0
    by_cases hlt : i < ds.length
    · refine .inr ⟨w1 i hlt, fun H'' => Cf (.raw D (B (i + 1)) :: (Z ++ W0)) (wipeR ρ vs) (L2.wipe σ vs) H'' ∧ Go (Z ++ W0) (.raw D (B (i + 1)) :: (Z ++ W0)) H1 H'', fun H'' ⟨a, b⟩ => ⟨ds.length - (i + 1), by omega, rfl, hlt, a, b⟩, fun x H2 y => ?_⟩
      obtain ⟨d, hd⟩ : ∃ d, ds[i]? = some d := ⟨_, List.getElem?_eq_getElem hlt⟩
      obtain ⟨sm, dx⟩ := w3 i d x H2 hd y
      have cf2 := cf.go (Go.same sm) (cf.hd.same sm)
      have go2 := go.trans (Go.same sm)
      refine ht _ _ _ d x _ H2 _ cf2 dx (hρ i d hd) fun σ' hl hk c3 => ⟨wipe_same his (by rw [hl]) hk, i, hlt, ?_⟩
      refine ⟨.raw D (B i) :: Z, c3, fun H3 g3 d3 => ?_⟩
      have c4 := cf2.go g3 d3
      have go3 := go2.trans g3
      cases hp : p i with
      | true =>
        show if true = true then _ else _
        rw [if_pos rfl]
        refine ⟨i, hlt, hp, .raw D (B i) :: Z, c3.go g3 d3, fun y H4 g4 d4 q4 => ?_⟩
        have c5 := c4.go g4 d4
        have go4 := go3.trans g4
        rw [rp_int] at q4
        refine ⟨i, hlt, hp, .raw D (B i) :: Z, (c3.go g3 d3).go g4 d4, fun z H5 g5 d5 q5 => ?_⟩
        rw [rp_bl] at q5
        subst q4 q5
        have c6 := c5.go g5 d5
        have go5 := go4.trans g5
        have hv : H5 D = some (B i) := (d5.hold (.raw D (B i)) List.mem_cons_self).1
        refine ⟨_, Sum.inl (f i : Int), rfl, hv, ?_, ?_⟩
        · unfold setV
          rw [List.length_map]
          have h1 := ddN_len (pickN p f i)
          have h2 := pickN_len p f i
          omega
        · rw [put_set, ← ddN_app, ← pickN_yes hp]
          obtain ⟨z1, z2⟩ := Cf.putR (o := B (i + 1)) c6
          exact ⟨z1, go5.trans z2⟩
      | false =>
        show if false = true then _ else _
        rw [if_neg (by decide)]
        have e : B (i + 1) = B i := by show HO.dK _ = HO.dK _; rw [pickN_no hp]
        rw [e]
        exact ⟨c4, go3⟩
    · have e : i = ds.length := by omega
      subst e
      refine .inl ⟨w2, k (.ref D) H' go.tail cf.hd.tail ?_⟩
      have hv : H' D = some (B ds.length) := (cf.hd.hold (.raw D (B ds.length)) List.mem_cons_self).1
      rw [rp_set]
      have hnD : D ∉ adrs (Z ++ W0) := (List.nodup_cons.mp cf.hd.nd).1
      exact ⟨D, rfl, by rw [off_out hnD]; exact hv⟩
theorem e_dcomp {scope : Scope} (own : List (Str × Nat)) {t : TG} {is : List Nat} {g : PyData → Rho → Rho → Prop} {p : Nat → Bool} {f : Nat → Nat} {ρf : Nat → Rho} (hi : PI X tg iter (tI W ρ ds W0)) (hN : X.N.Nodup) (ht : TgS t X.K is g) (his : ∀ i ∈ is, i ∈ own.map (·.2))
    (hρ : ∀ i d, ds[i]? = some d → g d (wipeR ρ (own.map (·.2))) (ρf i)) (hz : ds.length < sizeLine) (hg : ∀ s H C cl fp, PG (Bk X scope s H C cl fp) tg t)
    (htest : ∀ i, i < ds.length → ∀ s H C cl fp, PTs (Bk X scope s H C cl fp) ifs (tT W0 (ρf i) (p i) W0)) (hkey : ∀ i, i < ds.length → p i = true → ∀ s H C cl fp, PE (Bk X scope s H C cl fp) kx (tE W0 (ρf i) (I_ (f i : Nat)) W0))
    (hval : ∀ i, i < ds.length → p i = true → ∀ s H C cl fp, PE (Bk X scope s H C cl fp) vx (tE W0 (ρf i) (B_ true) W0))
    (hc : X.calm = true := by rfl) (ok : BlkOk X.N X.env.scope scope own := by exact blkOk_by (by kernel_rfl)) (hs : ∀ x, foldedSetIterable iter X.env x = pure x := by intro _; rfl) :
    PE X (.DictComp kx vx [⟨tg, iter, ifs, 0⟩] scope pos) (tE W ρ (setD (ddN (pickN p f ds.length))) W0) := by
  have p1 : ∀ s H C cl fp, PTs (Bk X scope s H C cl fp) ifs (fun σ H Q => ∃ i, i < ds.length ∧ tT W0 (ρf i) (p i) W0 σ H Q) := fun s H C cl fp => ⟨fun pins s' σ H' Q I ⟨i, h1, h2⟩ => (htest i h1 s H C cl fp).run pins s' σ H' Q I h2⟩
  have p2 : ∀ s H C cl fp, PE (Bk X scope s H C cl fp) kx (fun σ H Q => ∃ i, i < ds.length ∧ p i = true ∧ tE W0 (ρf i) (I_ (f i : Nat)) W0 σ H Q) := fun s H C cl fp => ⟨fun pins s' σ H' Q I ⟨i, h1, h2, h3⟩ => (hkey i h1 h2 s H C cl fp).run pins s' σ H' Q I h3⟩
  have p3 : ∀ s H C cl fp, PE (Bk X scope s H C cl fp) vx (fun σ H Q => ∃ i, i < ds.length ∧ p i = true ∧ tE W0 (ρf i) (B_ true) W0 σ H Q) := fun s H C cl fp => ⟨fun pins s' σ H' Q I ⟨i, h1, h2, h3⟩ => (hval i h1 h2 s H C cl fp).run pins s' σ H' Q I h3⟩
  refine PEto (pe_dc (pos := pos) hc hN hi ok hg p1 p2 p3 hs) fun σ H Q ⟨Z, c, k⟩ => ⟨Z, c, fun J H1 g1 d1 wk => ?_⟩
  exact dc_read ht his hρ hz (c.go g1 d1) wk fun v H' g2 d2 q2 => k v H' (g1.trans g2) d2 q2
theorem pickN_map {α : Type} (xs : List α) (p : α → Bool) (f : α → Nat) (p' : Nat → Bool) (f' : Nat → Nat) (hp : ∀ i a, xs[i]? = some a → p' i = p a) (hf : ∀ i a, xs[i]? = some a → f' i = f a) : pickN p' f' xs.length = (xs.filter p).map f := by
  have := pick_map xs p (fun a => nD (f a)) p' (fun i => nD (f' i)) hp (fun i a e => by rw [hf i a e])
  have h2 := congrArg (List.map fun d => match d with | PyData.int i => i.toNat | _ => 0) this
  unfold pick at h2
  rw [List.map_map, List.map_map] at h2
  have e1 : ((fun d => match d with | PyData.int i => i.toNat | _ => 0) ∘ fun i => nD (f' i)) = f' := by funext i; simp [nD]
  have e2 : ((fun d => match d with | PyData.int i => i.toNat | _ => 0) ∘ fun a => nD (f a)) = f := by funext i; simp [nD]
  rw [e1, e2] at h2
  exact h2
/-- over mapped things, a name as the target -/
theorem dcomp_N {α : Type} {scope : Scope} {x : Str} {px : Pos} (own : List (Str × Nat)) (i : Nat) {xs : List α} {gg : α → PyData} {p : α → Bool} {f : α → Nat} (hi : PI X (.Name x px) iter (tI W ρ (xs.map gg) W0)) (hN : X.N.Nodup) (hz : xs.length < sizeLine)
    (htest : ∀ a ∈ xs, ∀ s H C cl fp, PTs (Bk X scope s H C cl fp) ifs (tT W0 ((wipeR ρ (own.map (·.2))).set i (some (.d (gg a)))) (p a) W0))
    (hkey : ∀ a ∈ xs, p a = true → ∀ s H C cl fp, PE (Bk X scope s H C cl fp) kx (tE W0 ((wipeR ρ (own.map (·.2))).set i (some (.d (gg a)))) (I_ (f a : Nat)) W0))
    (hval : ∀ ρ' s H C cl fp, PE (Bk X scope s H C cl fp) vx (tE W0 ρ' (B_ true) W0))
    (hg : ∀ s H C cl fp, PG (Bk X scope s H C cl fp) (.Name x px) (gName i)) (his : i ∈ own.map (·.2) := by decide) (hc : X.calm = true := by rfl) (ok : BlkOk X.N X.env.scope scope own := by exact blkOk_by (by kernel_rfl)) (hs : ∀ x, foldedSetIterable iter X.env x = pure x := by intro _; rfl) :
    PE X (.DictComp kx vx [⟨.Name x px, iter, ifs, 0⟩] scope pos) (tE W ρ (setD (ddN ((xs.filter p).map f))) W0) := by
  have := e_dcomp (pos := pos) (kx := kx) (vx := vx) (ifs := ifs) (scope := scope) own (p := fun j => match xs[j]? with | some a => p a | none => false) (f := fun j => match xs[j]? with | some a => f a | none => 0)
    (ρf := fun j => match xs[j]? with | some a => (wipeR ρ (own.map (·.2))).set i (some (.d (gg a))) | none => []) hi hN (tgs_name i) (is := [i]) (fun k hk => by
      have : k = i := by simpa using hk
      rw [this]; exact his) (fun j d e => by
      rw [List.getElem?_map] at e
      cases q : xs[j]? with
      | none => rw [q] at e; cases e
      | some a =>
        rw [q] at e
        cases e
        simp only [gN, q]) (by rw [List.length_map]; exact hz) hg (fun j hj s H C cl fp => by
      rw [List.length_map] at hj
      have q : xs[j]? = some xs[j] := List.getElem?_eq_getElem hj
      simp only [q]
      exact htest _ (List.getElem_mem hj) s H C cl fp) (fun j hj hp s H C cl fp => by
      rw [List.length_map] at hj
      have q : xs[j]? = some xs[j] := List.getElem?_eq_getElem hj
      simp only [q] at hp ⊢
      exact hkey _ (List.getElem_mem hj) hp s H C cl fp) (fun j hj hp s H C cl fp => hval _ s H C cl fp) hc ok hs
  rw [List.length_map] at this
  rwa [pickN_map xs p f _ _ (fun j a e => by simp only [e]) (fun j a e => by simp only [e])] at this
theorem dcomp_P {α : Type} {scope : Scope} (own : List (Str × Nat)) (i j : Nat) {xs : List α} {g1 g2 : α → PyData} {p : α → Bool} {f : α → Nat} {es : List Expr} {kk : Nat} {tpos : Pos} (hi : PI X (.Tuple es kk tpos) iter (tI W ρ (xs.map fun a => .tuple [g1 a, g2 a]) W0)) (hN : X.N.Nodup) (hz : xs.length < sizeLine)
    (htest : ∀ a ∈ xs, ∀ s H C cl fp, PTs (Bk X scope s H C cl fp) ifs (tT W0 (((wipeR ρ (own.map (·.2))).set i (some (.d (g1 a)))).set j (some (.d (g2 a)))) (p a) W0))
    (hkey : ∀ a ∈ xs, p a = true → ∀ s H C cl fp, PE (Bk X scope s H C cl fp) kx (tE W0 (((wipeR ρ (own.map (·.2))).set i (some (.d (g1 a)))).set j (some (.d (g2 a)))) (I_ (f a : Nat)) W0))
    (hval : ∀ ρ' s H C cl fp, PE (Bk X scope s H C cl fp) vx (tE W0 ρ' (B_ true) W0))
    (hg : ∀ s H C cl fp, PG (Bk X scope s H C cl fp) (.Tuple es kk tpos) (gTup X.K 2 (gCons (gName i) (gCons (gName j) gNil)))) (his : i ∈ own.map (·.2) ∧ j ∈ own.map (·.2) := by decide) (hc : X.calm = true := by rfl) (ok : BlkOk X.N X.env.scope scope own := by exact blkOk_by (by kernel_rfl)) (hs : ∀ x, foldedSetIterable iter X.env x = pure x := by intro _; rfl) :
    PE X (.DictComp kx vx [⟨.Tuple es kk tpos, iter, ifs, 0⟩] scope pos) (tE W ρ (setD (ddN ((xs.filter p).map f))) W0) := by
  have := e_dcomp (pos := pos) (kx := kx) (vx := vx) (ifs := ifs) (scope := scope) own (p := fun m => match xs[m]? with | some a => p a | none => false) (f := fun m => match xs[m]? with | some a => f a | none => 0)
    (ρf := fun m => match xs[m]? with | some a => ((wipeR ρ (own.map (·.2))).set i (some (.d (g1 a)))).set j (some (.d (g2 a))) | none => []) hi hN (tgs_pair i j) (is := [i, j]) (fun k hk => by
      have : k = i ∨ k = j := by simpa using hk
      rcases this with z | z <;> rw [z]
      · exact his.1
      · exact his.2) (fun m d e => by
      rw [List.getElem?_map] at e
      cases q : xs[m]? with
      | none => rw [q] at e; cases e
      | some a =>
        rw [q] at e
        cases e
        simp only [gP]
        exact ⟨_, _, rfl, by simp only [q]⟩) (by rw [List.length_map]; exact hz) hg (fun m hj s H C cl fp => by
      rw [List.length_map] at hj
      have q : xs[m]? = some xs[m] := List.getElem?_eq_getElem hj
      simp only [q]
      exact htest _ (List.getElem_mem hj) s H C cl fp) (fun m hj hp s H C cl fp => by
      rw [List.length_map] at hj
      have q : xs[m]? = some xs[m] := List.getElem?_eq_getElem hj
      simp only [q] at hp ⊢
      exact hkey _ (List.getElem_mem hj) hp s H C cl fp) (fun m hj hp s H C cl fp => hval _ s H C cl fp) hc ok hs
  rw [List.length_map] at this
  rwa [pickN_map xs p f _ _ (fun j a e => by simp only [e]) (fun j a e => by simp only [e])] at this
end
end SG
set_option Elab.async false
set_option linter.all false
set_option maxRecDepth 100000
set_option maxHeartbeats 4000000
/-! comprehensions of two clauses (names, nothing changed, a test behind the second) -/
namespace SG
open PySem PySem.Spec PyProof.Rows L2
section
variable {X : Cx} {e iter iter1 elt test : Expr} {pos px px1 : Pos} {x x1 : Str} {W W0 : List Ow} {ρ : Rho}
theorem take_flat {α β : Type} (F : α → List β) (xs : List α) (i : Nat) (a : α) (h : xs[i]? = some a) : (xs.take (i + 1)).flatMap F = (xs.take i).flatMap F ++ F a := by
  rw [List.take_add_one, h, List.flatMap_append]
  simp
theorem take_pick {β γ : Type} (p : β → Bool) (f : β → γ) (ys : List β) (j : Nat) (b : β) (h : ys[j]? = some b) : ((ys.take (j + 1)).filter p).map f = ((ys.take j).filter p).map f ++ (if p b = true then [f b] else []) := by
  rw [List.take_add_one, h, List.filter_append, List.map_append]
  cases q : p b <;> simp [q]
theorem take_len {β γ : Type} (p : β → Bool) (f : β → γ) (ys : List β) (j : Nat) : (((ys.take j).filter p).map f).length ≤ ys.length := by
  rw [List.length_map]
  refine Nat.le_trans (List.length_filter_le _ _) ?_
  rw [List.length_take]
  omega
theorem flat_len {α β : Type} (F : α → List β) (n : Nat) (h : ∀ a, (F a).length ≤ n) : ∀ xs : List α, (xs.flatMap F).length ≤ xs.length * n
  | [] => by simp
  | a :: xs => by
    have h1 := flat_len F n h xs
    have h2 := h a
    rw [List.flatMap_cons, List.length_append, List.length_cons, Nat.add_mul]
    omega
theorem comp2_to {α β : Type} {scope : Scope} (own : List (Str × Nat)) (i1 i2 : Nat) {xs : List α} {ys : List β} {gg : α → PyData} {hh : β → PyData} {p : α → β → Bool} {f : α → β → PyData} (hi : PI X (.Name x px) iter (tI W ρ (xs.map gg) W0)) (hN : X.N.Nodup) (hz : xs.length * ys.length < sizeLine)
    (hi1 : ∀ a ∈ xs, ∀ s H C cl fp, PI (Bk X scope s H C cl fp) (.Name x1 px1) iter1 (tI W0 ((wipeR ρ (own.map (·.2))).set i1 (some (.d (gg a)))) (ys.map hh) W0))
    (htest : ∀ a ∈ xs, ∀ b ∈ ys, ∀ s H C cl fp, PT (Bk X scope s H C cl fp) test (tT W0 ((wipeR ((wipeR ρ (own.map (·.2))).set i1 (some (.d (gg a)))) [i2]).set i2 (some (.d (hh b)))) (p a b) W0))
    (helt : ∀ a ∈ xs, ∀ b ∈ ys, p a b = true → ∀ s H C cl fp, PE (Bk X scope s H C cl fp) elt (tE W0 ((wipeR ((wipeR ρ (own.map (·.2))).set i1 (some (.d (gg a)))) [i2]).set i2 (some (.d (hh b)))) (.d (f a b)) W0))
    (hg : ∀ s H C cl fp, PG (Bk X scope s H C cl fp) (.Name x px) (gName i1)) (hg1 : ∀ s H C cl fp, PG (Bk X scope s H C cl fp) (.Name x1 px1) (gName i2)) (his : i1 ∈ own.map (·.2) ∧ i2 ∈ own.map (·.2) := by decide)
    (hc : X.calm = true := by rfl) (ok : BlkOk X.N X.env.scope scope own := by exact blkOk_by (by kernel_rfl)) (hs : ∀ x, foldedSetIterable iter X.env x = pure x := by intro _; rfl) (hs1 : ∀ env x, foldedSetIterable iter1 env x = pure x := by intro _ _; rfl) :
    ∃ t, PE X (.ListComp elt [⟨.Name x px, iter, [], 0⟩, ⟨.Name x1 px1, iter1, [test], 0⟩] scope pos) t ∧ (∀ {i : Nat} {y : Str} {py spos : Pos}, X.N[i]? = some y → X.env.scope.names.lookup y = some .local →
      swapsWith (.ListComp elt [⟨.Name x px, iter, [], 0⟩, ⟨.Name x1 px1, iter1, [test], 0⟩] scope pos) (some (.Name y py)) spos.line X.env = pure true → PS X (.Assign [.Name y py] (.ListComp elt [⟨.Name x px, iter, [], 0⟩, ⟨.Name x1 px1, iter1, [test], 0⟩] scope pos) spos) (tAsg t (gName i))) ∧
      ∀ σ H Q, tE W ρ (.d (.list (xs.flatMap fun a => (ys.filter (p a)).map (f a)))) W0 σ H Q → t σ H Q := by
  let vs := own.map (·.2)
  let ρ1 : α → Rho := fun a => (wipeR ρ vs).set i1 (some (.d (gg a)))
  let ρ2 : α → β → Rho := fun a b => (wipeR (ρ1 a) [i2]).set i2 (some (.d (hh b)))
  have p0 : ∀ s H C cl fp, PTs (Bk X scope s H C cl fp) [] (fun σ H Q => ∃ a ∈ xs, tT W0 (ρ1 a) true W0 σ H Q) := fun s H C cl fp => ⟨fun pins s' σ H' Q I ⟨a, _, h2⟩ => (s_nil (W := W0) (ρ := ρ1 a)).run pins s' σ H' Q I h2⟩
  have p1 : ∀ s H C cl fp, PI (Bk X scope s H C cl fp) (.Name x1 px1) iter1 (fun σ H Q => ∃ a ∈ xs, tI W0 (ρ1 a) (ys.map hh) W0 σ H Q) := fun s H C cl fp => ⟨fun pins s' σ H' Q I ⟨a, h1, h2⟩ => (hi1 a h1 s H C cl fp).run pins s' σ H' Q I h2⟩
  have p2 : ∀ s H C cl fp, PTs (Bk X scope s H C cl fp) [test] (fun σ H Q => ∃ a ∈ xs, ∃ b ∈ ys, tT W0 (ρ2 a b) (p a b) W0 σ H Q) := fun s H C cl fp => ⟨fun pins s' σ H' Q I ⟨a, h1, b, h2, h3⟩ => (s_one (htest a h1 b h2 s H C cl fp)).run pins s' σ H' Q I h3⟩
  have p3 : ∀ s H C cl fp, PE (Bk X scope s H C cl fp) elt (fun σ H Q => ∃ a ∈ xs, ∃ b ∈ ys, p a b = true ∧ tE W0 (ρ2 a b) (.d (f a b)) W0 σ H Q) := fun s H C cl fp => ⟨fun pins s' σ H' Q I ⟨a, h1, b, h2, h3, h4⟩ => (helt a h1 b h2 h3 s H C cl fp).run pins s' σ H' Q I h4⟩
  have hv : ∀ i ∈ [i2], i ∈ own.map (·.2) := fun i h => by
    have : i = i2 := by simpa using h
    rw [this]; exact his.2
  refine ⟨_, pe_lc2 hc hN hi ok hv hg p0 p1 hg1 p2 p3 hs hs1, fun {i y py spos} hy hyl hsw => ps_setLc2 hc hN hy hyl hsw hi ok hv hg p0 p1 hg1 p2 p3 hs hs1, fun σ H Q ⟨Z, c0, k0⟩ => ⟨Z, c0, fun J H1 g1 d1 wk D hD => ?_⟩⟩
  have c := c0.go g1 d1
  let F : α → List PyData := fun a => (ys.filter (p a)).map (f a)
  let R : Nat → List PyData := fun i => (xs.take i).flatMap F
  have lF : ∀ a, (F a).length ≤ ys.length := fun a => by
    have := take_len (p a) (f a) ys ys.length
    rwa [List.take_length] at this
  have cw := c.wipe vs
  have sm : Same H1 (upd H1 D (.lst [])) := upd_ext hD
  have hDW : D ∉ adrs (Z ++ W0) := fun m => c.hd.lv D m hD
  refine ⟨fun i m H' => m = xs.length - i ∧ i ≤ xs.length ∧ Cf (.lst D (R i) :: (Z ++ W0)) (wipeR ρ vs) (L2.wipe σ vs) H' ∧ Go (Z ++ W0) (.lst D (R i) :: (Z ++ W0)) H1 H', ⟨xs.length, by simp, Nat.zero_le _, ?_⟩, ?_⟩
  · have sm2 : Same (off (adrs (Z ++ W0)) H1) (off (adrs (.lst D (R 0) :: (Z ++ W0))) (upd H1 D (.lst []))) := fun b y e => by
      obtain ⟨h1, h2⟩ := off_some e
      have : b ∉ adrs (Ow.lst D (R 0) :: (Z ++ W0)) := fun m => by
        rcases List.mem_cons.mp m with z | z
        · have z : b = D := z
          rw [z, hD] at h2; cases h2
        · exact h1 z
      rw [off_out this]
      exact sm b y h2
    refine ⟨⟨cw.len, ⟨List.nodup_cons.mpr ⟨hDW, cw.hd.nd⟩, fun u hu => ?_⟩, fun i s e => ?_⟩, ⟨fun b y hb e => sm b y e, fun b hb => ?_⟩⟩
    · rcases List.mem_cons.mp hu with e | hu
      · subst e
        exact ⟨[], upd_same, DaL.nil⟩
      · exact Ow.holds_mono sm2 sm (cw.hd.hold u hu)
    · obtain ⟨v, h1, h2⟩ := cw.env i s e
      exact ⟨v, h1, h2.mono sm2⟩
    · rcases List.mem_cons.mp hb with z | z
      · have z : b = D := z
        exact .inr (by rw [z]; exact hD)
      · exact .inl z
  · rintro i m H' ⟨rfl, hi, cf, go⟩
    obtain ⟨w1, w2, w3⟩ := wk _ H' cf.hd.lv go.off
    rw [List.length_map] at w1 w2
    by_cases hlt : i < xs.length
    · refine .inr ⟨w1 i hlt, fun H'' => Cf (.lst D (R (i + 1)) :: (Z ++ W0)) (wipeR ρ vs) (L2.wipe σ vs) H'' ∧ Go (Z ++ W0) (.lst D (R (i + 1)) :: (Z ++ W0)) H1 H'', fun H'' ⟨a, b⟩ => ⟨xs.length - (i + 1), by omega, rfl, hlt, a, b⟩, fun u H2 y => ?_⟩
      obtain ⟨a, ha⟩ : ∃ a, xs[i]? = some a := ⟨_, List.getElem?_eq_getElem hlt⟩
      have ma : a ∈ xs := List.mem_of_getElem? ha
      obtain ⟨sm, dx⟩ := w3 i (gg a) u H2 (by rw [List.getElem?_map, ha]; rfl) y
      have cf2 := cf.go (Go.same sm) (cf.hd.same sm)
      have go2 := go.trans (Go.same sm)
      refine tgs_name (K := X.K) i1 _ _ _ (gg a) u _ H2 _ cf2 dx (show gN i1 (gg a) (wipeR ρ vs) (ρ1 a) from rfl) fun σ' hl hk c3 => ⟨wipe_same (is := [i1]) (fun k hk => by
        have : k = i1 := by simpa using hk
        rw [this]; exact his.1) (by rw [hl]) hk, a, ma, ?_⟩
      refine ⟨.lst D (R i) :: Z, c3, fun H3 g3 d3 => ?_⟩
      show if true = true then _ else _
      rw [if_pos rfl]
      have c4 := cf2.go g3 d3
      have go3 := go2.trans g3
      refine ⟨a, ma, .lst D (R i) :: Z, c3.go g3 d3, fun J1 H4 g4 d4 wk1 => ?_⟩
      have c5 := c4.go g4 d4
      have c5' := (c3.go g3 d3).go g4 d4
      have go4 := go3.trans g4
      let S : Nat → List PyData := fun j => R i ++ ((ys.take j).filter (p a)).map (f a)
      have S0 : S 0 = R i := by show R i ++ _ = R i; simp
      refine ⟨fun j k H' => k = ys.length - j ∧ j ≤ ys.length ∧ Cf (.lst D (S j) :: (Z ++ W0)) (wipeR ρ vs) (L2.wipe σ vs) H' ∧ Cf (.lst D (S j) :: (Z ++ W0)) (wipeR (ρ1 a) [i2]) (L2.wipe σ' [i2]) H' ∧ Go (Z ++ W0) (.lst D (S j) :: (Z ++ W0)) H1 H' ∧ Go (.lst D (R i) :: (Z ++ W0)) (.lst D (S j) :: (Z ++ W0)) H4 H', ⟨ys.length, by simp, Nat.zero_le _, ?_⟩, ?_⟩
      · rw [S0]
        exact ⟨c5, c5'.wipe [i2], go4, Go.refl _ _⟩
      · rintro j k H5 ⟨rfl, hj, e1, e2, e3, e4⟩
        obtain ⟨v1, v2, v3⟩ := wk1 _ H5 e1.hd.lv e4.off
        rw [List.length_map] at v1 v2
        by_cases hjl : j < ys.length
        · refine .inr ⟨v1 j hjl, fun H'' => Cf (.lst D (S (j + 1)) :: (Z ++ W0)) (wipeR ρ vs) (L2.wipe σ vs) H'' ∧ Cf (.lst D (S (j + 1)) :: (Z ++ W0)) (wipeR (ρ1 a) [i2]) (L2.wipe σ' [i2]) H'' ∧ Go (Z ++ W0) (.lst D (S (j + 1)) :: (Z ++ W0)) H1 H'' ∧ Go (.lst D (R i) :: (Z ++ W0)) (.lst D (S (j + 1)) :: (Z ++ W0)) H4 H'', fun H'' ⟨a1, a2, a3, a4⟩ => ⟨ys.length - (j + 1), by omega, rfl, hjl, a1, a2, a3, a4⟩, fun u2 H6 y2 => ?_⟩
          obtain ⟨b, hb⟩ : ∃ b, ys[j]? = some b := ⟨_, List.getElem?_eq_getElem hjl⟩
          have mb : b ∈ ys := List.mem_of_getElem? hb
          obtain ⟨sm2, dx2⟩ := v3 j (hh b) u2 H6 (by rw [List.getElem?_map, hb]; rfl) y2
          have q1 := e1.go (Go.same sm2) (e1.hd.same sm2)
          have q2 := e2.go (Go.same sm2) (e2.hd.same sm2)
          have q3 := e3.trans (Go.same sm2)
          have q4 := e4.trans (Go.same (W := .lst D (S j) :: (Z ++ W0)) sm2)
          refine tgs_name (K := X.K) i2 _ _ _ (hh b) u2 _ H6 _ q2 dx2 (show gN i2 (hh b) (wipeR (ρ1 a) [i2]) (ρ2 a b) from rfl) fun σ3 hl3 hk3 c6 => ⟨wipe_same (is := [i2]) (fun k hk => hk) (by rw [hl3]) hk3, a, ma, b, mb, ?_⟩
          refine ⟨.lst D (S j) :: Z, c6, fun H7 g7 d7 => ?_⟩
          have r1 := q1.go g7 d7
          have r2 := q2.go g7 d7
          have r3 := q3.trans g7
          have r4 := q4.trans g7
          have St : S (j + 1) = S j ++ (if p a b = true then [f a b] else []) := by
            show R i ++ _ = (R i ++ _) ++ _
            rw [take_pick (p a) (f a) ys j b hb, List.append_assoc]
          cases hp : p a b with
          | true =>
            show if true = true then _ else _
            rw [if_pos rfl]
            refine ⟨a, ma, b, mb, hp, .lst D (S j) :: Z, c6.go g7 d7, fun u3 H8 g8 d8 x8 => ?_⟩
            obtain ⟨acc, hv1, hv2⟩ := d8.hold (.lst D (S j)) List.mem_cons_self
            have r1' := r1.go g8 d8
            have r2' := r2.go g8 d8
            have r3' := r3.trans g8
            have r4' := r4.trans g8
            refine ⟨acc, hv1, ?_, ?_⟩
            · rw [hv2.length]
              show (R i ++ _).length < _
              rw [List.length_append]
              have h1 : (R i).length ≤ (xs.take i).length * ys.length := flat_len F ys.length lF _
              have h2 : (((ys.take j).filter (p a)).map (f a)).length ≤ j := by
                rw [List.length_map]
                refine Nat.le_trans (List.length_filter_le _ _) ?_
                rw [List.length_take]
                omega
              rw [List.length_take] at h1
              have h3 : min i xs.length * ys.length + ys.length ≤ xs.length * ys.length := by
                rw [← Nat.succ_mul]
                exact Nat.mul_le_mul_right _ (by omega)
              omega
            · rw [St, hp, if_pos rfl]
              have dd := hv2.append (DaL.cons x8 DaL.nil)
              obtain ⟨z1, z2⟩ := Cf.put (a := D) (o := .lst D (S j)) (ds := S j ++ [f a b]) (vs := acc ++ [u3]) rfl r1' dd
              obtain ⟨z3, _⟩ := Cf.put (a := D) (o := .lst D (S j)) (ds := S j ++ [f a b]) (vs := acc ++ [u3]) rfl r2' dd
              exact ⟨z1, z3, r3'.trans z2, r4'.trans z2⟩
          | false =>
            show if false = true then _ else _
            rw [if_neg (by decide), St, hp, if_neg (by decide), List.append_nil]
            exact ⟨r1, r2, r3, r4⟩
        · have ej : j = ys.length := by omega
          subst ej
          refine .inl ⟨v2, ?_⟩
          have e : S ys.length = R (i + 1) := by
            show R i ++ _ = (xs.take (i + 1)).flatMap F
            rw [take_flat F xs i a ha, List.take_length]
          rw [e] at e1 e3
          exact ⟨e1, e3⟩
    · have e : i = xs.length := by omega
      subst e
      refine .inl ⟨w2, k0 (.ref D) H' (g1.trans go.tail) cf.hd.tail ?_⟩
      obtain ⟨acc, hv1, hv2⟩ := cf.hd.hold (.lst D (R xs.length)) List.mem_cons_self
      rw [rp_lst]
      have eR : R xs.length = xs.flatMap F := by show (xs.take xs.length).flatMap F = _; rw [List.take_length]
      rw [eR] at hv2
      have hnD : D ∉ adrs (Z ++ W0) := (List.nodup_cons.mp cf.hd.nd).1
      refine ⟨D, acc, rfl, by rw [off_out hnD]; exact hv1, ?_⟩
      have := DaL.mono (off_drop (o := .lst D (R xs.length)) (W := Z ++ W0) (H := H')) _ _ hv2
      exact this
theorem e_comp2 {α β : Type} {scope : Scope} (own : List (Str × Nat)) (i1 i2 : Nat) {xs : List α} {ys : List β} {gg : α → PyData} {hh : β → PyData} {p : α → β → Bool} {f : α → β → PyData} (hi : PI X (.Name x px) iter (tI W ρ (xs.map gg) W0)) (hN : X.N.Nodup) (hz : xs.length * ys.length < sizeLine)
    (hi1 : ∀ a ∈ xs, ∀ s H C cl fp, PI (Bk X scope s H C cl fp) (.Name x1 px1) iter1 (tI W0 ((wipeR ρ (own.map (·.2))).set i1 (some (.d (gg a)))) (ys.map hh) W0))
    (htest : ∀ a ∈ xs, ∀ b ∈ ys, ∀ s H C cl fp, PT (Bk X scope s H C cl fp) test (tT W0 ((wipeR ((wipeR ρ (own.map (·.2))).set i1 (some (.d (gg a)))) [i2]).set i2 (some (.d (hh b)))) (p a b) W0))
    (helt : ∀ a ∈ xs, ∀ b ∈ ys, p a b = true → ∀ s H C cl fp, PE (Bk X scope s H C cl fp) elt (tE W0 ((wipeR ((wipeR ρ (own.map (·.2))).set i1 (some (.d (gg a)))) [i2]).set i2 (some (.d (hh b)))) (.d (f a b)) W0))
    (hg : ∀ s H C cl fp, PG (Bk X scope s H C cl fp) (.Name x px) (gName i1)) (hg1 : ∀ s H C cl fp, PG (Bk X scope s H C cl fp) (.Name x1 px1) (gName i2)) (his : i1 ∈ own.map (·.2) ∧ i2 ∈ own.map (·.2) := by decide)
    (hc : X.calm = true := by rfl) (ok : BlkOk X.N X.env.scope scope own := by exact blkOk_by (by kernel_rfl)) (hs : ∀ x, foldedSetIterable iter X.env x = pure x := by intro _; rfl) (hs1 : ∀ env x, foldedSetIterable iter1 env x = pure x := by intro _ _; rfl) :
    PE X (.ListComp elt [⟨.Name x px, iter, [], 0⟩, ⟨.Name x1 px1, iter1, [test], 0⟩] scope pos) (tE W ρ (.d (.list (xs.flatMap fun a => (ys.filter (p a)).map (f a)))) W0) := by
  obtain ⟨t, h1, _, h2⟩ := comp2_to (pos := pos) own i1 i2 hi hN hz hi1 htest helt hg hg1 his hc ok hs hs1
  exact PEto h1 h2
theorem s_setC2 {α β : Type} {scope : Scope} (own : List (Str × Nat)) (i1 i2 k : Nat) {y : Str} {py spos : Pos} {xs : List α} {ys : List β} {gg : α → PyData} {hh : β → PyData} {p : α → β → Bool} {f : α → β → PyData} (hi : PI X (.Name x px) iter (tI W ρ (xs.map gg) W0)) (hN : X.N.Nodup) (hz : xs.length * ys.length < sizeLine)
    (hi1 : ∀ a ∈ xs, ∀ s H C cl fp, PI (Bk X scope s H C cl fp) (.Name x1 px1) iter1 (tI W0 ((wipeR ρ (own.map (·.2))).set i1 (some (.d (gg a)))) (ys.map hh) W0))
    (htest : ∀ a ∈ xs, ∀ b ∈ ys, ∀ s H C cl fp, PT (Bk X scope s H C cl fp) test (tT W0 ((wipeR ((wipeR ρ (own.map (·.2))).set i1 (some (.d (gg a)))) [i2]).set i2 (some (.d (hh b)))) (p a b) W0))
    (helt : ∀ a ∈ xs, ∀ b ∈ ys, p a b = true → ∀ s H C cl fp, PE (Bk X scope s H C cl fp) elt (tE W0 ((wipeR ((wipeR ρ (own.map (·.2))).set i1 (some (.d (gg a)))) [i2]).set i2 (some (.d (hh b)))) (.d (f a b)) W0))
    (hg : ∀ s H C cl fp, PG (Bk X scope s H C cl fp) (.Name x px) (gName i1)) (hg1 : ∀ s H C cl fp, PG (Bk X scope s H C cl fp) (.Name x1 px1) (gName i2)) (his : i1 ∈ own.map (·.2) ∧ i2 ∈ own.map (·.2) := by decide)
    (hc : X.calm = true := by rfl) (ok : BlkOk X.N X.env.scope scope own := by exact blkOk_by (by kernel_rfl)) (hs : ∀ x, foldedSetIterable iter X.env x = pure x := by intro _; rfl) (hs1 : ∀ env x, foldedSetIterable iter1 env x = pure x := by intro _ _; rfl)
    (hy : X.N[k]? = some y := by rfl) (hyl : X.env.scope.names.lookup y = some .local := by rfl) (hsw : swapsWith (.ListComp elt [⟨.Name x px, iter, [], 0⟩, ⟨.Name x1 px1, iter1, [test], 0⟩] scope pos) (some (.Name y py)) spos.line X.env = pure true := by exact sw_true rfl rfl rfl (by kernel_rfl)) :
    PS X (.Assign [.Name y py] (.ListComp elt [⟨.Name x px, iter, [], 0⟩, ⟨.Name x1 px1, iter1, [test], 0⟩] scope pos) spos) (oS W ρ (.nx W0 (ρ.set k (some (.d (.list (xs.flatMap fun a => (ys.filter (p a)).map (f a)))))))) := by
  obtain ⟨t, _, h1, h2⟩ := comp2_to (pos := pos) own i1 i2 hi hN hz hi1 htest helt hg hg1 his hc ok hs hs1
  exact PSto (h1 hy hyl hsw) fun D σ H ⟨Z, c, q⟩ => h2 σ H _ ⟨Z, c, fun v H1 g1 d1 q1 => q _ H1 g1 ((c.go g1 d1).set q1 k)⟩
end
section
variable {X : Cx} {e e2 : Expr} {pos : Pos} {W W1 : List Ow} {ρ : Rho} {elts : List Expr} {kk : Nat} {p tpos : Pos} {α β : Type} {xs : List α} {ys : List β} {g : α → PyData} {h : β → PyData}
theorem i_enT (hm : X.mg "enumerate" = none) (ha : PA X [e] (tA W ρ [.d (.tuple (xs.map g))] W1)) (hg : Gl X "enumerate" := by rfl) (hs : starEach [e] X.env = [(false, eval e X.env)] := by rfl) :
    PI X (.Tuple elts kk tpos) (.Call (.Name "enumerate" p) [e] [] pos) (tI W ρ (xs.zipIdx.map fun p => .tuple [nD p.2, g p.1]) W1) := by
  have := i_enumT (elts := elts) (kk := kk) (p := p) (tpos := tpos) (pos := pos) hm ha hg hs
  rwa [enumD_map] at this
theorem i_enL (hm : X.mg "enumerate" = none) (ha : PA X [e] (tA W ρ [.d (.list (xs.map g))] W1)) (hg : Gl X "enumerate" := by rfl) (hs : starEach [e] X.env = [(false, eval e X.env)] := by rfl) :
    PI X (.Tuple elts kk tpos) (.Call (.Name "enumerate" p) [e] [] pos) (tI W ρ (xs.zipIdx.map fun p => .tuple [nD p.2, g p.1]) W1) := by
  have := i_enumL (elts := elts) (kk := kk) (p := p) (tpos := tpos) (pos := pos) hm ha hg hs
  rwa [enumD_map] at this
theorem i_zT (hm : X.mg "zip" = none) (ha : PA X [e, e2] (tA W ρ [.d (.tuple (xs.map g)), .d (.tuple (ys.map h))] W1)) (hg : Gl X "zip" := by rfl)
    (hs : starEach [e, e2] X.env = (false, eval e X.env) :: starEach [e2] X.env := by rfl) (hpl : (backTo pos (starEach [e2] X.env)).any (·.1) = false := by rfl) :
    PI X (.Tuple elts kk tpos) (.Call (.Name "zip" p) [e, e2] [] pos) (tI W ρ ((xs.zip ys).map fun p => .tuple [g p.1, h p.2]) W1) := by
  have := i_zipT (elts := elts) (kk := kk) (p := p) (tpos := tpos) (pos := pos) hm ha hg hs hpl
  rwa [zipD_map] at this
theorem i_zM (hm : X.mg "zip" = none) (ha : PA X [e, e2] (tA W ρ [.d (.list (xs.map g)), .d (.tuple (ys.map h))] W1)) (hg : Gl X "zip" := by rfl)
    (hs : starEach [e, e2] X.env = (false, eval e X.env) :: starEach [e2] X.env := by rfl) (hpl : (backTo pos (starEach [e2] X.env)).any (·.1) = false := by rfl) :
    PI X (.Tuple elts kk tpos) (.Call (.Name "zip" p) [e, e2] [] pos) (tI W ρ ((xs.zip ys).map fun p => .tuple [g p.1, h p.2]) W1) := by
  have := i_zipM (elts := elts) (kk := kk) (p := p) (tpos := tpos) (pos := pos) hm ha hg hs hpl
  rwa [zipD_map] at this
end
section
variable {X : Cx} {e e1 e2 e3 : Expr} {es : List Expr} {pos p : Pos} {W W1 : List Ow} {ρ : Rho} {ds : List PyData} {a b c d : PyData} {k : Nat}
theorem small_le {n : Nat} (h : n ≤ 100) : n ≤ sizeLine := Nat.le_trans h (by decide)
theorem e_nilT : PE X (.Tuple [] k pos) (tE W ρ (.d (.tuple [])) W) := e_tup a_nil (ds := []) rfl (by decide)
theorem e_nilL : PE X (.List [] pos) (tE W ρ (.d (.list [])) W) := e_lst a_nil (ds := []) rfl (by decide)
theorem e_tup1 (h : PA X es (tA W ρ [.d a] W1)) : PE X (.Tuple es k pos) (tE W ρ (.d (.tuple [a])) W1) := e_tup h rfl (small_le (by simp))
theorem e_tup2 (h : PA X es (tA W ρ [.d a, .d b] W1)) : PE X (.Tuple es k pos) (tE W ρ (.d (.tuple [a, b])) W1) := e_tup h rfl (small_le (by simp))
theorem e_tup3 (h : PA X es (tA W ρ [.d a, .d b, .d c] W1)) : PE X (.Tuple es k pos) (tE W ρ (.d (.tuple [a, b, c])) W1) := e_tup h rfl (small_le (by simp))
theorem e_tup4 (h : PA X es (tA W ρ [.d a, .d b, .d c, .d d] W1)) : PE X (.Tuple es k pos) (tE W ρ (.d (.tuple [a, b, c, d])) W1) := e_tup h rfl (small_le (by simp))
theorem e_lst1 (h : PA X es (tA W ρ [.d a] W1)) : PE X (.List es pos) (tE W ρ (.d (.list [a])) W1) := e_lst h rfl (small_le (by simp))
theorem e_lst2 (h : PA X es (tA W ρ [.d a, .d b] W1)) : PE X (.List es pos) (tE W ρ (.d (.list [a, b])) W1) := e_lst h rfl (small_le (by simp))
theorem e_lst3 (h : PA X es (tA W ρ [.d a, .d b, .d c] W1)) : PE X (.List es pos) (tE W ρ (.d (.list [a, b, c])) W1) := e_lst h rfl (small_le (by simp))
theorem e_lst4 (h : PA X es (tA W ρ [.d a, .d b, .d c, .d d] W1)) : PE X (.List es pos) (tE W ρ (.d (.list [a, b, c, d])) W1) := e_lst h rfl (small_le (by simp))
theorem e_tupS (h : PA X es (tA W ρ (ds.map .d ++ [.d b]) W1)) (hz : ds.length + 1 ≤ sizeLine) : PE X (.Tuple es k pos) (tE W ρ (.d (.tuple (ds ++ [b]))) W1) := e_tup h (by rw [List.map_append]; rfl) (by simpa using hz)
end
section
variable {X : Cx} {α : Type} {xs : List α} {g : α → PyData} {l : List Nat}
theorem map_emp (g : α → PyData) : (xs.map g).isEmpty = xs.isEmpty := by cases xs <;> rfl
theorem c_mL0 (hu : X.A.units + 64 < cLine) (h : Sh (.list (xs.map g))) : CmpOk X .Eq (.d (.list (xs.map g))) (.d (.list [])) xs.isEmpty := by
  rw [← map_emp g]; exact c_nilL hu h
theorem c_mL0n (hu : X.A.units + 64 < cLine) (h : Sh (.list (xs.map g))) : CmpOk X .NotEq (.d (.list (xs.map g))) (.d (.list [])) (!xs.isEmpty) := by
  rw [← map_emp g]; exact c_nnilL hu h
theorem c_lot0 (hu : X.A.units + 64 < cLine) : CmpOk X .Eq (.d (lotD l)) (.d (.tuple [])) l.isEmpty := by
  rw [← map_emp nD]; exact c_nilT hu sh_lot
theorem c_lot0n (hu : X.A.units + 64 < cLine) : CmpOk X .NotEq (.d (lotD l)) (.d (.tuple [])) (!l.isEmpty) := by
  rw [← map_emp nD]; exact c_nnilT hu sh_lot
end
end SG
set_option Elab.async false
set_option linter.all false
set_option maxRecDepth 100000
set_option maxHeartbeats 4000000
/-! slices -/
namespace SG
open PySem PySem.Spec PyProof.Rows L2
section
variable {α : Type} (xs : List α) (n : Nat)
theorem sIx_nat (m d : Nat) : HT.sIx m d (some (n : Int)) = min n m := by
  simp [HT.sIx]
  omega
theorem sIx_none (m d : Nat) : HT.sIx m d none = d := by simp [HT.sIx]
theorem cutA_drop : cutA xs (some (n : Int)) none = xs.drop n := by
  unfold cutA
  rw [sIx_nat, sIx_none, ← List.drop_take, List.take_length]
  rcases Nat.le_total n xs.length with h | h
  · rw [Nat.min_eq_left h]
  · rw [Nat.min_eq_right h, List.drop_length, List.drop_eq_nil_of_le h]
theorem cutA_take : cutA xs none (some (n : Int)) = xs.take n := by
  unfold cutA
  rw [sIx_nat, sIx_none, List.drop_zero, Nat.sub_zero]
  rcases Nat.le_total n xs.length with h | h
  · rw [Nat.min_eq_left h]
  · rw [Nat.min_eq_right h, List.take_length, List.take_of_length_le h]
theorem cutA_init : cutA xs none (some (-1)) = xs.dropLast := by
  unfold cutA
  have e : HT.sIx xs.length xs.length (some (-1)) = xs.length - 1 := by
    simp [HT.sIx]
    omega
  rw [e, sIx_none, List.drop_zero, Nat.sub_zero, List.dropLast_eq_take]
end
section
variable {X : Cx} {ds : List PyData} {n : Nat} {l : List Nat}
theorem s_dropT : SlOk X (.d (.tuple ds)) (some (n : Int)) none (.d (.tuple (ds.drop n))) := cutA_drop ds n ▸ s_tup
theorem s_takeT : SlOk X (.d (.tuple ds)) none (some (n : Int)) (.d (.tuple (ds.take n))) := cutA_take ds n ▸ s_tup
theorem s_initT : SlOk X (.d (.tuple ds)) none (some (-1)) (.d (.tuple ds.dropLast)) := cutA_init ds ▸ s_tup
theorem s_dropL : SlOk X (.d (.list ds)) (some (n : Int)) none (.d (.list (ds.drop n))) := cutA_drop ds n ▸ s_lst
theorem s_takeL : SlOk X (.d (.list ds)) none (some (n : Int)) (.d (.list (ds.take n))) := cutA_take ds n ▸ s_lst
theorem s_dropN : SlOk X (.d (lotD l)) (some (n : Int)) none (.d (lotD (l.drop n))) := by
  unfold lotD; rw [List.map_drop]; exact s_dropT
theorem s_dropM {α : Type} {xs : List α} {g : α → PyData} : SlOk X (.d (.tuple (xs.map g))) (some (n : Int)) none (.d (.tuple ((xs.drop n).map g))) := by rw [List.map_drop]; exact s_dropT
theorem s_takeM {α : Type} {xs : List α} {g : α → PyData} : SlOk X (.d (.tuple (xs.map g))) none (some (n : Int)) (.d (.tuple ((xs.take n).map g))) := by rw [List.map_take]; exact s_takeT
theorem s_takeLM {α : Type} {xs : List α} {g : α → PyData} : SlOk X (.d (.list (xs.map g))) none (some (n : Int)) (.d (.list ((xs.take n).map g))) := by rw [List.map_take]; exact s_takeL
theorem f_isTupT : CalOk X (.builtin "isinstance") [.d (.tuple ds), .v (.ty "tuple")] (B_ true) := f_isTup fun k e => nomatch e
theorem lot_hz (h : l.length < sizeLine) : ∀ ds, lotD l = .tuple ds → ds.length < sizeLine := fun ds e => by
  unfold lotD at e
  injection e with e
  rw [← e, List.length_map]
  exact h
end
section
variable {X : Cx} {a b c : Expr} {pos : Pos} {W : List Ow} {ρ : Rho} {ra rb rc : Sl}
theorem t_chainP {op op' : CmpOp} {k z : Bool} (h : CmpOk X op ra rb k) (h' : CmpOk X op' rb rc z) (ha : PE X a (tE W ρ ra W)) (hb : PE X b (tE W ρ rb W)) (hc : PE X c (tE W ρ rc W))
    (hm : lastMarks [op, op'] [b, c] = false := by with_unfolding_all rfl) : PT X (.Compare a [op, op'] [b, c] pos) (tT W ρ (k && z) W) := by
  obtain ⟨t, ht, hy⟩ := h
  obtain ⟨t', ht', hy'⟩ := h'
  refine PTto (pt_chain ht ht' ha hb hc hm) fun σ H Q ⟨Z, cf, q⟩ => ?_
  refine ⟨Z, cf, fun x H1 g1 d1 q1 => ⟨Z, cf.go g1 d1, fun y H2 g2 d2 q2 => ?_⟩⟩
  refine (hy (adrs (Z ++ W)) H2 x y d2.lv (q1.mono g2.off) q2).use d2 fun v H3 g3 d3 q3 => ⟨k, by simpa only [Rp, Da] using q3, ?_⟩
  cases k with
  | true =>
    rw [if_pos rfl]
    refine ⟨Z, ((cf.go g1 d1).go g2 d2).go g3 d3, fun w' H4 g4 d4 q4 => ?_⟩
    refine (hy' (adrs (Z ++ W)) H4 y w' d4.lv (q2.mono (g3.trans g4).off) q4).use d4 fun v H5 g5 d5 q5 => ⟨z, by simpa only [Rp, Da] using q5, q H5 ((((g1.trans g2).trans g3).trans g4).trans g5) d5⟩
  | false =>
    rw [if_neg Bool.false_ne_true]
    exact ⟨false, rfl, q H3 ((g1.trans g2).trans g3) d3⟩
end
end SG
set_option Elab.async false
set_option linter.all false
set_option maxRecDepth 100000
/-! what the defs compute -/
namespace SG
open PySem PySem.Spec PyProof.Rows L2
def isInt (d : PyData) (a b : Int) : Bool := match d with
  | .int i => decide (a ≤ i) && decide (i ≤ b)
  | _ => false
def toI (d : PyData) : Int := match d with
  | .int i => i
  | _ => 0
def asc (ns : List Int) : Bool := (ns.zip (ns.drop 1)).all fun p => decide (p.1 < p.2)
def isLot (p : Int) (d : PyData) : Bool := match d with
  | .tuple ds => (ds.all fun d => isInt d 0 (p - 1)) && asc (ds.map toI)
  | _ => false
def mask (l : List Nat) : Nat := (l.map fun p => 2 ^ p).sum
def lotOf (m : Nat) : List Nat := (List.range 9).filter fun p => decide (m / 2 ^ p &&& 1 ≠ 0)
abbrev Sp2 : Type := Nat × List (List Nat)
def spanM (ms : List Nat) (n m : Nat) : Nat := ms.foldl (fun f o => if o &&& m = m then f &&& o else f) (2 ^ n - 1)
def spansM (S : Sp2) : List Nat := (List.range (2 ^ S.1)).map (spanM (S.2.map mask) S.1)
def coreM (ss : List Nat) (m : Nat) : Nat := (lotOf m).foldl (fun f p => f &&& ss.getD (m - 2 ^ p) 0) (ss.length - 1)
def strayM (ss : List Nat) (m : Nat) : Bool := decide (0 < m) && decide (coreM ss m = 0)
def strayIn (S : Sp2) : List (List Nat) := sortL (((List.range (2 ^ S.1)).filter (strayM (spansM S))).map lotOf)
def numberIn (S : Sp2) : Nat := maxL ((strayIn S).map List.length)
def restM (told crew : List Nat) : List Nat := sortU ((told.zipIdx.filter fun p => !decide (p.2 ∈ crew)).map (·.1))
def safeM (ss : List Nat) (rs : List (List Nat)) : Nat := rs.foldl (fun f l => f &&& ss.getD (mask l) 0) (ss.length - 1)
def safeIn (S G : Sp2) (told : List Nat) : List Nat := lotOf (safeM (spansM S) (G.2.map (restM told)))
def bare (G : Sp2) (ns : List Nat) : List Nat := (List.range G.1).filter fun t => !(ns.any fun k => decide (t ∈ G.2.getD k []))
def bigger (row : List Nat) (k : Nat) : Bool := row.isEmpty || decide (row.getLastD 0 < k)
def grown (m : Nat) (rows : List (List Nat)) : List (List Nat) := rows.flatMap fun row => ((List.range m).filter (bigger row)).map fun k => row ++ [k]
def rowsOf (m : Nat) : Nat → List (List Nat)
  | 0 => [[]]
  | n + 1 => grown m (rowsOf m n)
def coversWith (G : Sp2) (size : Nat) : List (List Nat) := (rowsOf G.2.length size).filter fun row => (bare G row).isEmpty
def with_ (G : Sp2) (t : Nat) : List Nat := (G.2.zipIdx.filter fun p => decide (t ∈ p.1)).map (·.2)
def stays (G : Sp2) : Nat → List Nat → Bool
  | 0, ns => !(bare G ns).isEmpty
  | n + 1, ns => match bare G ns with
    | [] => false
    | t :: _ => (with_ G t).all fun k => stays G n (ns ++ [k])
/-- a space as need_space wants it, few points -/
structure OkSp (S : Sp2) : Prop where
  pos : 1 ≤ S.1
  le : S.1 ≤ 5
  n : S.2.length ≤ 32
  asc : ∀ l ∈ S.2, l.Pairwise (· < ·)
  lt : ∀ l ∈ S.2, ∀ p ∈ l, p < S.1
  srt : S.2.Pairwise fun a b => ltN a b = true
  nil : [] ∈ S.2
  full : List.range S.1 ∈ S.2
  meet : ∀ a ∈ S.2, ∀ b ∈ S.2, (a.filter fun p => decide (p ∈ b)) ∈ S.2
/-- a system as need_system wants it, few tellers, few gangs -/
structure OkSys (G : Sp2) : Prop where
  pos : 1 ≤ G.1
  le : G.1 ≤ 5
  ne : 1 ≤ G.2.length
  n : G.2.length ≤ 5
  asc : ∀ l ∈ G.2, l.Pairwise (· < ·)
  lt : ∀ l ∈ G.2, ∀ p ∈ l, p < G.1
  srt : G.2.Pairwise fun a b => ltN a b = true
  anti : G.2.Pairwise fun a b => (∃ p ∈ a, p ∉ b) ∧ ∃ p ∈ b, p ∉ a
end SG
set_option Elab.async false
set_option linter.all false
set_option maxRecDepth 100000
namespace SG
open PySem PySem.Spec PyProof.Rows L2
def topS (i : Nat) : Stmt := PySem.Challenge.pw_safeground_k15_whole_covers.main.body.getD i (.Pass ⟨0, 0, 0, 0⟩)
abbrev bpI : Stmt := (C8.clsBody (topS 3)).getD 0 (.Pass ⟨0, 0, 0, 0⟩)
abbrev s_is_integer : Stmt := topS 9
abbrev s_is_lot : Stmt := topS 10
abbrev s_mask_of : Stmt := topS 11
abbrev s_lot_by : Stmt := topS 12
abbrev s_masks_of : Stmt := topS 13
abbrev s_span_by : Stmt := topS 14
abbrev s_spans_of : Stmt := topS 15
abbrev s_need_space : Stmt := topS 16
abbrev s_need_form : Stmt := topS 17
abbrev s_core_by : Stmt := topS 19
abbrev s_is_stray_by : Stmt := topS 20
abbrev s_stray_in : Stmt := topS 21
abbrev s_number_in : Stmt := topS 22
abbrev s_has_all : Stmt := topS 26
abbrev s_need_system : Stmt := topS 27
abbrev s_rest_of : Stmt := topS 28
abbrev s_rests_of : Stmt := topS 29
abbrev s_safe_by : Stmt := topS 30
abbrev s_safe_in : Stmt := topS 31
abbrev s_bare_tellers : Stmt := topS 35
abbrev s_covers_with : Stmt := topS 36
abbrev s_least_in : Stmt := topS 37
abbrev s_does_stay_bare : Stmt := topS 38
abbrev s_reserve : Stmt := topS 39
abbrev s_least_covers : Stmt := topS 40
abbrev s_is_borne : Stmt := topS 41
abbrev s_tree_of : Stmt := topS 42
abbrev s_dealt_by : Stmt := topS 43
abbrev s_borne_paper : Stmt := topS 44
abbrev s_is_tree : Stmt := topS 45
abbrev s_is_cover : Stmt := topS 46
abbrev s_is_bare_told : Stmt := topS 47
abbrev s_check_borne : Stmt := topS 48
abbrev s_dealt : Stmt := topS 49
abbrev s_law_mixed : Stmt := topS 51
abbrev s_law_begin : Stmt := topS 52
abbrev s_law_draw : Stmt := topS 53
abbrev s_law_of : Stmt := topS 54
abbrev s_law_lots : Stmt := topS 55
abbrev s_law_common : Stmt := topS 56
abbrev s_law_has : Stmt := topS 57
abbrev s_law_span : Stmt := topS 58
abbrev s_law_made : Stmt := topS 59
abbrev s_law_met : Stmt := topS 60
abbrev s_law_by_rules : Stmt := topS 61
abbrev s_law_lot : Stmt := topS 62
abbrev s_law_line : Stmt := topS 63
abbrev s_law_drawn : Stmt := topS 64
abbrev s_law_spans : Stmt := topS 65
abbrev s_law_without : Stmt := topS 66
abbrev s_law_core : Stmt := topS 67
abbrev s_law_strays : Stmt := topS 68
abbrev s_law_heard : Stmt := topS 69
abbrev s_law_is_int : Stmt := topS 70
abbrev s_law_is_lot : Stmt := topS 71
abbrev s_law_bent : Stmt := topS 72
abbrev s_law_system : Stmt := topS 73
abbrev s_law_rest : Stmt := topS 74
abbrev s_law_safe : Stmt := topS 75
abbrev s_law_all_told : Stmt := topS 76
abbrev s_law_is_cover : Stmt := topS 77
abbrev s_law_all_covers : Stmt := topS 78
abbrev s_law_covers : Stmt := topS 79
abbrev s_law_is_tree : Stmt := topS 80
abbrev s_law_are_told : Stmt := topS 81
abbrev s_law_due : Stmt := topS 82
abbrev s_law_things : Stmt := topS 83
abbrev s_law_dealt_right : Stmt := topS 84
abbrev s_law_told_right : Stmt := topS 85
abbrev s_law_right : Stmt := topS 86
abbrev s_law : Stmt := topS 87
/-- what is known of the names -/
structure Top (K : PySem.W.Frag) (mg : Str → Option Value) : Prop where
  s_is_integer : DfOk K mg "is_integer" s_is_integer
  s_is_lot : DfOk K mg "is_lot" s_is_lot
  s_mask_of : DfOk K mg "mask_of" s_mask_of
  s_lot_by : DfOk K mg "lot_by" s_lot_by
  s_masks_of : DfOk K mg "masks_of" s_masks_of
  s_span_by : DfOk K mg "span_by" s_span_by
  s_spans_of : DfOk K mg "spans_of" s_spans_of
  s_need_space : DfOk K mg "need_space" s_need_space
  s_need_form : DfOk K mg "need_form" s_need_form
  s_core_by : DfOk K mg "core_by" s_core_by
  s_is_stray_by : DfOk K mg "is_stray_by" s_is_stray_by
  s_stray_in : DfOk K mg "stray_in" s_stray_in
  s_number_in : DfOk K mg "number_in" s_number_in
  s_has_all : DfOk K mg "has_all" s_has_all
  s_need_system : DfOk K mg "need_system" s_need_system
  s_rest_of : DfOk K mg "rest_of" s_rest_of
  s_rests_of : DfOk K mg "rests_of" s_rests_of
  s_safe_by : DfOk K mg "safe_by" s_safe_by
  s_safe_in : DfOk K mg "safe_in" s_safe_in
  s_bare_tellers : DfOk K mg "bare_tellers" s_bare_tellers
  s_covers_with : DfOk K mg "covers_with" s_covers_with
  s_least_in : DfOk K mg "least_in" s_least_in
  s_does_stay_bare : DfOk K mg "does_stay_bare" s_does_stay_bare
  s_reserve : DfOk K mg "reserve" s_reserve
  s_least_covers : DfOk K mg "least_covers" s_least_covers
  s_is_borne : DfOk K mg "is_borne" s_is_borne
  s_tree_of : DfOk K mg "tree_of" s_tree_of
  s_dealt_by : DfOk K mg "dealt_by" s_dealt_by
  s_borne_paper : DfOk K mg "borne_paper" s_borne_paper
  s_is_tree : DfOk K mg "is_tree" s_is_tree
  s_is_cover : DfOk K mg "is_cover" s_is_cover
  s_is_bare_told : DfOk K mg "is_bare_told" s_is_bare_told
  s_check_borne : DfOk K mg "check_borne" s_check_borne
  s_dealt : DfOk K mg "dealt" s_dealt
  s_law_mixed : DfOk K mg "_law_mixed" s_law_mixed
  s_law_begin : DfOk K mg "_law_begin" s_law_begin
  s_law_draw : DfOk K mg "_law_draw" s_law_draw
  s_law_of : DfOk K mg "_law_of" s_law_of
  s_law_lots : DfOk K mg "_law_lots" s_law_lots
  s_law_common : DfOk K mg "_law_common" s_law_common
  s_law_has : DfOk K mg "_law_has" s_law_has
  s_law_span : DfOk K mg "_law_span" s_law_span
  s_law_made : DfOk K mg "_law_made" s_law_made
  s_law_met : DfOk K mg "_law_met" s_law_met
  s_law_by_rules : DfOk K mg "_law_by_rules" s_law_by_rules
  s_law_lot : DfOk K mg "_law_lot" s_law_lot
  s_law_line : DfOk K mg "_law_line" s_law_line
  s_law_drawn : DfOk K mg "_law_drawn" s_law_drawn
  s_law_spans : DfOk K mg "_law_spans" s_law_spans
  s_law_without : DfOk K mg "_law_without" s_law_without
  s_law_core : DfOk K mg "_law_core" s_law_core
  s_law_strays : DfOk K mg "_law_strays" s_law_strays
  s_law_heard : DfOk K mg "_law_heard" s_law_heard
  s_law_is_int : DfOk K mg "_law_is_int" s_law_is_int
  s_law_is_lot : DfOk K mg "_law_is_lot" s_law_is_lot
  s_law_bent : DfOk K mg "_law_bent" s_law_bent
  s_law_system : DfOk K mg "_law_system" s_law_system
  s_law_rest : DfOk K mg "_law_rest" s_law_rest
  s_law_safe : DfOk K mg "_law_safe" s_law_safe
  s_law_all_told : DfOk K mg "_law_all_told" s_law_all_told
  s_law_is_cover : DfOk K mg "_law_is_cover" s_law_is_cover
  s_law_all_covers : DfOk K mg "_law_all_covers" s_law_all_covers
  s_law_covers : DfOk K mg "_law_covers" s_law_covers
  s_law_is_tree : DfOk K mg "_law_is_tree" s_law_is_tree
  s_law_are_told : DfOk K mg "_law_are_told" s_law_are_told
  s_law_due : DfOk K mg "_law_due" s_law_due
  s_law_things : DfOk K mg "_law_things" s_law_things
  s_law_dealt_right : DfOk K mg "_law_dealt_right" s_law_dealt_right
  s_law_told_right : DfOk K mg "_law_told_right" s_law_told_right
  s_law_right : DfOk K mg "_law_right" s_law_right
  s_law : DfOk K mg "law" s_law
  b_ValueError : mg "ValueError" = none
  b_all : mg "all" = none
  b_any : mg "any" = none
  b_bool : mg "bool" = none
  b_dict : mg "dict" = none
  b_enumerate : mg "enumerate" = none
  b_int : mg "int" = none
  b_isinstance : mg "isinstance" = none
  b_len : mg "len" = none
  b_list : mg "list" = none
  b_max : mg "max" = none
  b_min : mg "min" = none
  b_range : mg "range" = none
  b_repr : mg "repr" = none
  b_set : mg "set" = none
  b_sorted : mg "sorted" = none
  b_str : mg "str" = none
  b_sum : mg "sum" = none
  b_super : mg "super" = none
  b_tuple : mg "tuple" = none
  b_zip : mg "zip" = none
  c_MOST_POINTS : ∃ t, mg "MOST_POINTS" = some (.int 9 t)
  c_MOST_TELLERS : ∃ t, mg "MOST_TELLERS" = some (.int 8 t)
  c_MOST_GANGS : ∃ t, mg "MOST_GANGS" = some (.int 70 t)
  c_BORNE : ∃ t, mg "BORNE" = some (.str "borne" t)
  c_OPEN : ∃ t, mg "OPEN" = some (.str "open" t)
end SG
set_option Elab.async false
set_option linter.all false
set_option maxRecDepth 100000
set_option maxHeartbeats 4000000
/-! the head's facts: BadPaper, the tables; the end -/
namespace SG.Hd
open PySem PySem.Spec PyProof.Rows L2
/-- the frag: what the module's names reach, and the statics -/
def asY (g : Addr → Option Obj) : List Addr := cStatics :: He.asD g 5
def frY (g : Addr → Option Obj) : PySem.W.Frag := He.frT g (asY g)
def bpC (K : PySem.W.Frag) : Addr := He.ga K "BadPaper"
def bpF (K : PySem.W.Frag) : Addr := He.ma K (bpC K) "__init__"
def clsB (K : PySem.W.Frag) (C : Addr) : Bool := match K.lookup C with
  | some ⟨.type "type", _, .cls cd, sl⟩ => (match cd.mro, sl.toList with
    | .ref C' :: bm, [_, _, _, _, some (.builtin n), _] => C' == C && n == "ValueError.__new__" && !cd.hasDel && cd.hasDict && PySem.HandSPX.refsVE bm
    | _, _ => false)
  | _ => false
theorem clsB_ok {K : PySem.W.Frag} {C : Addr} (q : clsB K C = true) : ∃ nm q N bs bm sn sub ab col dd k0 k1 k2 k3 k5, K.lookup C = some (PySem.excClassObj nm q C N bs bm true sn sub ab col dd k0 k1 k2 k3 k5 "ValueError.__new__") ∧ PySem.HandSPX.refsVE bm = true := by
  unfold clsB at q
  split at q
  · rename_i dd cd sl ho
    split at q
    · rename_i C' bm k0 k1 k2 k3 n k5 hm hs
      simp only [Bool.and_eq_true, beq_iff_eq, Bool.not_eq_true'] at q
      obtain ⟨⟨⟨⟨rfl, rfl⟩, hdel⟩, hdict⟩, ht⟩ := q
      obtain ⟨nm, bs, mro, ns, qn, hd, sn, sub, ab, col, del⟩ := cd
      dsimp only at hm hdel hdict
      subst hm hdel hdict
      have hsl : sl = #[k0, k1, k2, k3, some (.builtin "ValueError.__new__"), k5] := by
        obtain ⟨l⟩ := sl
        simp only at hs
        rw [hs]
      subst hsl
      exact ⟨nm, qn, ns, bs, bm, sn, sub, ab, col, dd, k0, k1, k2, k3, k5, ho, ht⟩
    · cases q
  · cases q
def fileB (K : PySem.W.Frag) : Value → Bool
  | .ref c => (match K.lookup c with
    | some ⟨_, _, .fields vs, _⟩ => (match (vs[2]? : Option Value) with
      | some (.str file _) => (PySem.Challenge.pw_safeground_k15_whole_covers.main.file : Str) == file
      | _ => false)
    | _ => false)
  | _ => false
def cellB (K : PySem.W.Frag) (C : Addr) : List (Str × Addr) → Bool
  | [(n, cc)] => decide (n = "__class__") && (match K.lookup cc with
    | some ⟨_, _, .cell (some (.ref C')), _⟩ => C' == C
    | _ => false)
  | _ => false
def isNn : Value → Bool
  | .none => true
  | _ => false
def fnB (K : PySem.W.Frag) (C f : Addr) : Bool := match K.lookup f with
  | some ⟨_, _, .func fd, _⟩ => PySem.W.codeIn K fd.code "BadPaper.__init__" && fileB K fd.code && cellB K C fd.closure && isNn fd.defaults && isNn fd.kwdefaults
  | _ => false
abbrev FnV : Type := Option (Str × Str × Arguments × FuncBody × Scope × Addr × Addr)
def fnV (K : PySem.W.Frag) (f : Addr) : FnV := match K.lookup f with
  | some ⟨_, _, .func fd, _⟩ => some (fd.name, fd.qualname, fd.params, fd.body, fd.scope, fd.globals, fd.builtins)
  | _ => none
def fnVal : FnV := some ("__init__", "BadPaper.__init__", C8.fnArgs bpI, .stmts (C8.fnBody bpI), C8.fnScope bpI, mainGlobals, builtinsNs)
theorem fnB_ok {K : PySem.W.Frag} {C f : Addr} (h : fnB K C f = true) (e : fnV K f = fnVal) : ∃ (oc : Value) (od : Option Addr) (doc pm : Value) (an : Option Addr) (cda cc : Addr) (ct : Value) (osl : Array (Option Value)) (cl : Value) (cld : Option Addr) (csl : Array (Option Value)) (ccl : Value) (cdd : Option Addr) (vs : Array Value) (ccs : Array (Option Value)) (file : Str) (tf : Tok),
    K.lookup f = some ⟨oc, od, .func (PySem.W.ksFn "__init__" "BadPaper.__init__" (C8.fnArgs bpI) (C8.fnBody bpI) (C8.fnScope bpI) .none .none doc pm an (.ref cda) ct cc), osl⟩ ∧ PySem.W.codeIn K (.ref cda) "BadPaper.__init__" = true ∧
    K.lookup cc = some ⟨cl, cld, .cell (some (.ref C)), csl⟩ ∧ K.lookup cda = some ⟨ccl, cdd, .fields vs, ccs⟩ ∧ vs[2]? = some (.str file tf) ∧ ((PySem.Challenge.pw_safeground_k15_whole_covers.main.file : Str) == file) = true := by
  unfold fnB at h
  unfold fnV at e
  cases q : K.lookup f with
  | none =>
    rw [q] at h
    cases h
  | some o =>
    obtain ⟨oc, od, dt, osl⟩ := o
    rw [q] at h e
    cases dt with
    | func fd =>
      obtain ⟨n1, n2, n3, n4, n5, n6, n7, n8, n9, n10, n11, n12, n13, n14, n15⟩ := fd
      have e2 : (some (n1, n2, n3, n4, n5, n6, n15) : FnV) = fnVal := e
      unfold fnVal at e2
      simp only [Option.some.injEq, Prod.mk.injEq] at e2
      obtain ⟨h1, h2, h3, h4, h5, h6, h8⟩ := e2
      subst h1 h2 h3 h4 h5 h6 h8
      have h : (PySem.W.codeIn K n13 "BadPaper.__init__" && fileB K n13 && cellB K C n7 && isNn n8 && isNn n9) = true := h
      simp only [Bool.and_eq_true] at h
      obtain ⟨⟨⟨⟨k1, k2⟩, k3⟩, k4⟩, k5⟩ := h
      cases n8 with
      | none =>
        cases n9 with
        | none =>
          obtain ⟨cda, rfl⟩ := He.codeIn_ref k1
          unfold cellB at k3
          split at k3
          · rename_i n cc
            rw [Bool.and_eq_true, decide_eq_true_eq] at k3
            obtain ⟨rfl, k3⟩ := k3
            split at k3
            · rename_i cl cld C' csl hcc
              have : C' = C := beq_iff_eq.mp k3
              subst this
              unfold fileB at k2
              simp only at k2
              split at k2
              · rename_i ccl cdd vs ccs hcd
                split at k2
                · rename_i file tf hv
                  exact ⟨oc, od, n10, n11, n12, cda, cc, n14, osl, cl, cld, csl, ccl, cdd, vs, ccs, file, tf, rfl, k1, hcc, hcd, hv, k2⟩
                · cases k2
              · cases k2
            · cases k3
          · cases k3
        | _ => cases k5
      | _ => cases k4
    | _ => cases h
def exB0 (K : PySem.W.Frag) : Bool := clsB K (bpC K) && He.eqO (PySem.W.findIn K (.ref (bpC K)) "__setattr__") (some (some (.builtin "object.__setattr__"))) && He.eqO (PySem.W.findIn K (.ref (bpC K)) "__getattribute__") (some (some (.builtin "BaseException.__getattribute__"))) &&
  He.eqO (PySem.W.findIn K (.ref (bpC K)) "__getattr__") (some none) && He.eqO (PySem.W.findIn K (.ref (bpC K)) "part") (some none) && He.eqO (PySem.W.findIn K (.ref (bpC K)) "__init__") (some (some (.ref (bpF K)))) && decide (PySem.W.typeIn K (.ref (bpF K)) = some (.type "function")) && PySem.W.keepIn K (.ref (bpC K)) &&
  decide (PySem.W.subIn K (.ref (bpC K)) (.type "BaseException") = some true) && decide (PySem.W.subIn K (.ref (bpC K)) (.type "ValueError") = some true) && decide (PySem.W.typeIn K (.ref (bpC K)) = some (.type "type")) && PySem.W.hasDictIn K (bpC K) && decide (PySem.W.exmOne K (.ref (bpC K)) (.ref (bpC K)) = some true) &&
  He.eqO (PySem.W.nsIn K cStatics "thirdparty.any") (some none) && He.eqO (PySem.W.ks_superIn K (bpC K) (bpC K) "__init__") (some (some (.builtin "ValueError.__init__"))) && He.eqO (PySem.W.nsIn K mainGlobals "super") (some none) && decide (PySem.W.mroIn K (bpC K) (.ref (bpC K)) = some true) && fnB K (bpC K) (bpF K)
def exB (K : PySem.W.Frag) : Bool := exB0 K && decide ((He.cT K ("_law_right", none)).2 ≠ (He.cT K ("law", none)).2)
end SG.Hd
set_option Elab.async false
set_option linter.all false
set_option maxRecDepth 100000
set_option maxHeartbeats 0
/-! the head: names, the Hook, the run -/
namespace SG.Hd
open PySem PySem.Spec PyProof.Rows L2
def mkD (x : Str) (s : Stmt) : He.DefD := ⟨(x, none), x, x, C8.fnArgs s, C8.fnBody s, C8.fnScope s, [], []⟩
def fnL : List He.DefD := [mkD "is_integer" s_is_integer, mkD "is_lot" s_is_lot, mkD "mask_of" s_mask_of, mkD "lot_by" s_lot_by, mkD "masks_of" s_masks_of, mkD "span_by" s_span_by, mkD "spans_of" s_spans_of, mkD "need_space" s_need_space, mkD "need_form" s_need_form, mkD "core_by" s_core_by, mkD "is_stray_by" s_is_stray_by, mkD "stray_in" s_stray_in, mkD "number_in" s_number_in, mkD "has_all" s_has_all, mkD "need_system" s_need_system, mkD "rest_of" s_rest_of, mkD "rests_of" s_rests_of, mkD "safe_by" s_safe_by, mkD "safe_in" s_safe_in, mkD "bare_tellers" s_bare_tellers, mkD "covers_with" s_covers_with, mkD "least_in" s_least_in, mkD "does_stay_bare" s_does_stay_bare, mkD "reserve" s_reserve, mkD "least_covers" s_least_covers, mkD "is_borne" s_is_borne, mkD "tree_of" s_tree_of, mkD "dealt_by" s_dealt_by, mkD "borne_paper" s_borne_paper, mkD "is_tree" s_is_tree, mkD "is_cover" s_is_cover, mkD "is_bare_told" s_is_bare_told, mkD "check_borne" s_check_borne, mkD "dealt" s_dealt, mkD "_law_mixed" s_law_mixed, mkD "_law_begin" s_law_begin, mkD "_law_draw" s_law_draw, mkD "_law_of" s_law_of, mkD "_law_lots" s_law_lots, mkD "_law_common" s_law_common, mkD "_law_has" s_law_has, mkD "_law_span" s_law_span, mkD "_law_made" s_law_made, mkD "_law_met" s_law_met, mkD "_law_by_rules" s_law_by_rules, mkD "_law_lot" s_law_lot, mkD "_law_line" s_law_line, mkD "_law_drawn" s_law_drawn, mkD "_law_spans" s_law_spans, mkD "_law_without" s_law_without, mkD "_law_core" s_law_core, mkD "_law_strays" s_law_strays, mkD "_law_heard" s_law_heard, mkD "_law_is_int" s_law_is_int, mkD "_law_is_lot" s_law_is_lot, mkD "_law_bent" s_law_bent, mkD "_law_system" s_law_system, mkD "_law_rest" s_law_rest, mkD "_law_safe" s_law_safe, mkD "_law_all_told" s_law_all_told, mkD "_law_is_cover" s_law_is_cover, mkD "_law_all_covers" s_law_all_covers, mkD "_law_covers" s_law_covers, mkD "_law_is_tree" s_law_is_tree, mkD "_law_are_told" s_law_are_told, mkD "_law_due" s_law_due, mkD "_law_things" s_law_things, mkD "_law_dealt_right" s_law_dealt_right, mkD "_law_told_right" s_law_told_right, mkD "_law_right" s_law_right, mkD "law" s_law]
def faL : List He.Fa := [.glo "is_integer", .glo "is_lot", .glo "mask_of", .glo "lot_by", .glo "masks_of", .glo "span_by", .glo "spans_of", .glo "need_space", .glo "need_form", .glo "core_by", .glo "is_stray_by", .glo "stray_in", .glo "number_in", .glo "has_all", .glo "need_system", .glo "rest_of", .glo "rests_of", .glo "safe_by", .glo "safe_in", .glo "bare_tellers", .glo "covers_with", .glo "least_in", .glo "does_stay_bare", .glo "reserve", .glo "least_covers", .glo "is_borne", .glo "tree_of", .glo "dealt_by", .glo "borne_paper", .glo "is_tree", .glo "is_cover", .glo "is_bare_told", .glo "check_borne", .glo "dealt", .glo "_law_mixed", .glo "_law_begin", .glo "_law_draw", .glo "_law_of", .glo "_law_lots", .glo "_law_common", .glo "_law_has", .glo "_law_span", .glo "_law_made", .glo "_law_met", .glo "_law_by_rules", .glo "_law_lot", .glo "_law_line", .glo "_law_drawn", .glo "_law_spans", .glo "_law_without", .glo "_law_core", .glo "_law_strays", .glo "_law_heard", .glo "_law_is_int", .glo "_law_is_lot", .glo "_law_bent", .glo "_law_system", .glo "_law_rest", .glo "_law_safe", .glo "_law_all_told", .glo "_law_is_cover", .glo "_law_all_covers", .glo "_law_covers", .glo "_law_is_tree", .glo "_law_are_told", .glo "_law_due", .glo "_law_things", .glo "_law_dealt_right", .glo "_law_told_right", .glo "_law_right", .glo "law", .glo "GroundError", .glo "BadSpace", .glo "BadPaper", .glo "BadLot", .glo "BadSystem", .glo "BadCover", .free "ValueError", .free "all", .free "any", .free "bool", .free "dict", .free "enumerate", .free "int", .free "isinstance", .free "len", .free "list", .free "max", .free "min", .free "range", .free "repr", .free "set", .free "sorted", .free "str", .free "sum", .free "super", .free "tuple", .free "zip", .int "MOST_POINTS" 9, .int "MOST_TELLERS" 8, .int "MOST_GANGS" 70, .str "BORNE" "borne", .str "OPEN" "open"]
def tfL : List He.Defn := [("_law_right", none), ("law", none)]
def nm0 : List Str := ["is_integer", "is_lot", "mask_of", "lot_by", "masks_of", "span_by", "spans_of", "need_space", "need_form", "core_by", "is_stray_by", "stray_in", "number_in", "has_all", "need_system", "rest_of", "rests_of", "safe_by", "safe_in", "bare_tellers", "covers_with", "least_in", "does_stay_bare", "reserve", "least_covers", "is_borne", "tree_of", "dealt_by", "borne_paper", "is_tree"]
def nm1 : List Str := ["is_cover", "is_bare_told", "check_borne", "dealt", "_law_mixed", "_law_begin", "_law_draw", "_law_of", "_law_lots", "_law_common", "_law_has", "_law_span", "_law_made", "_law_met", "_law_by_rules", "_law_lot", "_law_line", "_law_drawn", "_law_spans", "_law_without", "_law_core", "_law_strays", "_law_heard", "_law_is_int", "_law_is_lot", "_law_bent", "_law_system", "_law_rest", "_law_safe", "_law_all_told"]
def nm2 : List Str := ["_law_is_cover", "_law_all_covers", "_law_covers", "_law_is_tree", "_law_are_told", "_law_due", "_law_things", "_law_dealt_right", "_law_told_right", "_law_right", "GroundError", "BadSpace", "BadPaper", "BadLot", "BadSystem", "BadCover", "MOST_POINTS", "MOST_TELLERS", "MOST_GANGS", "BORNE", "OPEN"]
def names : List Str := nm0 ++ nm1 ++ nm2
abbrev R : PySem.W.OpenRow := PySem.W.OpenLaw.row PySem.Challenge.rw_safeground_k15_whole_covers
structure SaysY (w : World) (h : Heap) (K : PySem.W.Frag) : Prop where
  x : He.SaysX faL fnL [] tfL exB w h K
  f : fnV K (bpF K) = fnVal
abbrev AlY : Type := He.AlX × FnV
def obsY (g : Addr → Option Obj) : AlY := ((He.obsT faL fnL [] (frY g), exB (frY g) && He.tabsB g tfL (frY g)), fnV (frY g) (bpF (frY g)))
def valY (w : World) : AlY := (He.valX fnL [] w, fnVal)
theorem saysY_of {w : World} {h : Heap} (e : obsY h.get? = valY w) : SaysY w h (frY h.get?) := by
  have e0 : (He.obsT faL fnL [] (frY h.get?), exB (frY h.get?) && He.tabsB h.get? tfL (frY h.get?)) = He.valX fnL [] w := congrArg (fun z : AlY => z.1) e
  have e1 : He.obsT faL fnL [] (frY h.get?) = He.valT fnL [] w := congrArg (fun z : He.AlX => z.1) e0
  have e2 : (exB (frY h.get?) && He.tabsB h.get? tfL (frY h.get?)) = true := congrArg (fun z : He.AlX => z.2) e0
  obtain ⟨h1, h2⟩ := He.ba e2
  have key : ∀ p ∈ tfL, PySem.W.codeHdIn (frY h.get?) (He.cT (frY h.get?) p).1 (He.cT (frY h.get?) p).2 = true ∧ ∃ o, h.get? (He.cT (frY h.get?) p).2 = some o ∧ He.emptyTab o = true := fun p hp => by
    obtain ⟨h3, h4⟩ := He.ba (List.all_eq_true.mp h2 p hp)
    refine ⟨h3, ?_⟩
    cases q : h.get? (He.cT (frY h.get?) p).2 with
    | none =>
      rw [q] at h4
      cases h4
    | some o =>
      rw [q] at h4
      exact ⟨o, rfl, h4⟩
  exact ⟨⟨e1, h1, fun p hp => (key p hp).1, fun p hp => by
    obtain ⟨_, o, q, z⟩ := key p hp
    exact He.frT_none q z, fun p hp => by
    obtain ⟨_, o, q, z⟩ := key p hp
    rw [q, He.emptyTab_eq z]⟩, congrArg (fun z : AlY => z.2) e⟩
def hk : PySem.W.Hook where
  α := AlY
  obs := fun s => obsY s.heap.get?
  val := fun w => valY w
  says := fun w h => ∃ K : PySem.W.Frag, K.In h ∧ SaysY w h K
  of := fun _ _ e => ⟨_, He.frT_in, saysY_of e⟩
  keeps := fun _ _ _ ⟨K, hK, c⟩ k => ⟨K, PySem.W.Frag.In.keeps hK k, ⟨⟨c.x.t, c.x.more, c.x.hd, c.x.out, fun p hp => k _ _ (c.x.empty p hp)⟩, c.f⟩⟩
def ob (s : PySem.W.SharedT) : AlY := obsY (HandSHeadRun.getT s)
theorem ob_eq (s : PySem.W.SharedT) : ob s = hk.obs s.abs := by
  have e : HandSHeadRun.getT s = s.abs.heap.get? := funext (HandSHeadRun.getT_eq s)
  show obsY (HandSHeadRun.getT s) = obsY s.abs.heap.get?
  rw [e]
/-- the head's end. Its facts are told in three runs of the machine: one for all at once takes 1 to 2 GB more of Lean's memory (HANDIN allows 12,000 MB, the library's pages among them) -/
noncomputable def endS (w : World) (os : OsState) : Option PySem.W.SharedT := HandSHeadRun.endF (HandSHeadRun.stepQ (HandSHeadRun.denQ HandSHeadRun.tabQ) R.prog w) 20000 R.prog w os
def obA (s : PySem.W.SharedT) : He.AlT := He.obsT faL fnL [] (frY (HandSHeadRun.getT s))
def obB (s : PySem.W.SharedT) : Bool × FnV := (exB (frY (HandSHeadRun.getT s)) && He.tabsB (HandSHeadRun.getT s) tfL (frY (HandSHeadRun.getT s)), fnV (frY (HandSHeadRun.getT s)) (bpF (frY (HandSHeadRun.getT s))))
theorem runA (w : World) (os : OsState) : (endS w os).map obA = some (He.valT fnL [] w) := by
  kernel_rfl
theorem runB (w : World) (os : OsState) : (endS w os).map obB = some (true, fnVal) := by
  kernel_rfl
theorem runC (w : World) : HandSHeadRun.RunEq R (PySem.W.view R.prog [87]) PySem.W.Hook.none (fun _ => ()) 20000 names w := by
  intro os
  kernel_rfl
theorem of_three {S A B C D E F G : Type} {x : Option S} {c : S → C × D × E} {f : S → A} {g : S → B × G} {o : S → F} {c1 : C} {c2 : D} {c3 : E} {a : A} {b : B} {d : G} {mk : A → B → G → F}
    (hc : x.map c = some (c1, c2, c3)) (hf : x.map f = some a) (hg : x.map g = some (b, d)) (ho : ∀ s, o s = mk (f s) (g s).1 (g s).2) : x.map (fun s => ((c s).1, (c s).2.1, o s)) = some (c1, c2, mk a b d) := by
  cases x with
  | none => cases hf
  | some s =>
    have h1 : c s = (c1, c2, c3) := Option.some.inj hc
    have h2 : f s = a := Option.some.inj hf
    have h3 : g s = (b, d) := Option.some.inj hg
    show some ((c s).1, (c s).2.1, o s) = some (c1, c2, mk a b d)
    rw [ho s, h1, h2, h3]
theorem run (w : World) : HandSHeadRun.RunEq R (PySem.W.view R.prog [87]) hk ob 20000 names w := fun os =>
  of_three (mk := fun a b d => ((a, b), d)) (runC w os) (runA w os) (runB w os) fun _ => rfl
end SG.Hd
set_option Elab.async false
set_option linter.all false
set_option maxRecDepth 100000
set_option maxHeartbeats 4000000
namespace SG
open PySem PySem.Spec PyProof.Rows L2
section
variable {P : Program} {w : World} {K : PySem.W.Frag} {mg : Str → Option Value} {base : Heap}
inductive F_is_integer : Spec
  | mk {d : PyData} {a b : Int} (h : Sh d) : F_is_integer [] [.d d, I_ a, I_ b] (B_ (isInt d a b)) []
theorem sc_is_integer : FnScope ["thing", "least", "most"] ["thing", "least", "most"] (C8.fnScope s_is_integer) := ⟨rfl, rfl, rfl, by decide +kernel, rfl, by decide +kernel, by decide +kernel⟩
theorem f_is_integer (T : Top K mg) : Fn P w K mg base false 1 "is_integer" F_is_integer := by
  refine Fn.of T.s_is_integer sc_is_integer (fun _ _ _ _ _ _ us hl => match us, hl with | [_, _, _], _ => rfl) (by rintro _ _ _ _ ⟨⟩ <;> rfl) fun f cdv A outer s H E hr W rs r W' hF => ?_
  cases hF with | @mk d a b h =>
  refine h_one (s_ret ?_)
  by_cases hd : ∃ i, d = .int i
  · obtain ⟨i, rfl⟩ := hd
    refine (v_andT (r_calB (a_cons (e_var 0) (a_cons (e_bty T.b_int rfl) a_nil)) (f_isInt (Sh.nd (by first | assumption | omega | decide))) T.b_isinstance rfl) (v_andT (v_notT (r_calB (a_cons (e_var 0) (a_cons (e_bty T.b_bool rfl) a_nil)) (f_isBl (Sh.nd (by first | assumption | omega | decide))) T.b_isinstance rfl)) (v_one (e_chainP c_le c_le (e_var 1) (e_var 0) (e_var 2))))) <;> exact h
  · have e : isInt d a b = false := by cases d <;> first | rfl | exact absurd ⟨_, rfl⟩ hd
    rw [e]
    cases d with
    | int i => exact absurd ⟨_, rfl⟩ hd
    | bool k => refine (v_andT (r_calB (a_cons (e_var 0) (a_cons (e_bty T.b_int rfl) a_nil)) (f_isInt (Sh.nd (by first | assumption | omega | decide))) T.b_isinstance rfl) (v_andF (v_notF (r_calB (a_cons (e_var 0) (a_cons (e_bty T.b_bool rfl) a_nil)) (f_isBl (Sh.nd (by first | assumption | omega | decide))) T.b_isinstance rfl)))) <;> exact h
    | _ => refine (v_andF (r_calB (a_cons (e_var 0) (a_cons (e_bty T.b_int rfl) a_nil)) (f_isInt (Sh.nd (by first | assumption | omega | decide))) T.b_isinstance rfl)) <;> exact h
inductive F_mask_of : Spec
  | mk {l : List Nat} (h : ∀ p ∈ l, p ≤ 64) (hz : l.length < sizeLine) : F_mask_of [] [.d (lotD l)] (I_ (mask l : Nat)) []
theorem sc_mask_of : FnScope ["lot", "point"] ["lot"] (C8.fnScope s_mask_of) := ⟨rfl, rfl, rfl, by decide +kernel, rfl, by decide +kernel, by decide +kernel⟩
theorem f_mask_of (T : Top K mg) : Fn P w K mg base false 1 "mask_of" F_mask_of := by
  refine Fn.of T.s_mask_of sc_mask_of (fun _ _ _ _ _ _ us hl => match us, hl with | [_], _ => rfl) (by rintro _ _ _ _ ⟨⟩ <;> rfl) fun f cdv A outer s H E hr W rs r W' hF => ?_
  cases hF with | @mk l h hz =>
  refine h_one (s_ret ?_)
  refine (r_calB (a_cons (e_comp (comp_M [("point", 1)] 1 (f := fun p => nD (2 ^ p)) (xs := l) (i_tup (e_var 0)) sc_mask_of.nd (by first | assumption | omega | exact h _ ‹_› | decide) (fun a ha s H C cl fp => (r_bin e_nat (e_var 1) (b_shlN (by first | assumption | omega | exact h _ ‹_› | decide)))) (fun s H C cl fp => g_nm 1 sc_mask_of.nd))) a_nil) f_sumN T.b_sum rfl)
inductive F_lot_by : Spec
  | mk {m : Nat} : F_lot_by [] [I_ (m : Nat)] (.d (lotD (lotOf m))) []
theorem sc_lot_by : FnScope ["mask", "point"] ["mask"] (C8.fnScope s_lot_by) := ⟨rfl, rfl, rfl, by decide +kernel, rfl, by decide +kernel, by decide +kernel⟩
theorem f_lot_by (T : Top K mg) : Fn P w K mg base false 1 "lot_by" F_lot_by := by
  refine Fn.of T.s_lot_by sc_lot_by (fun _ _ _ _ _ _ us hl => match us, hl with | [_], _ => rfl) (by rintro _ _ _ _ ⟨⟩ <;> rfl) fun f cdv A outer s H E hr W rs r W' hF => ?_
  cases hF with | @mk m =>
  refine h_one (s_ret ?_)
  refine (r_calT (a_cons (e_comp (comp_N [("point", 1)] 1 (p := fun p => decide (m / 2 ^ p &&& 1 ≠ 0)) (f := fun p => nD p) (xs := List.range 9) ?_ sc_lot_by.nd (by first | assumption | omega | decide) (fun a ha s H C cl fp => s_one (t_nz (r_bin (r_bin (e_var 0) (e_var 1) b_shrN) e_nat b_andN))) (fun a ha hp s H C cl fp => (e_var 1)) (fun s H C cl fp => g_nm 1 sc_lot_by.nd))) a_nil) f_tuple T.b_tuple rfl)
  refine (i_rgN T.b_range (a_cons (e_gnat T.c_MOST_POINTS) a_nil) (by first | assumption | omega | decide))
end
end SG
set_option Elab.async false
set_option linter.all false
set_option maxRecDepth 100000
set_option maxHeartbeats 4000000
namespace SG
open PySem PySem.Spec PyProof.Rows L2
/-- few short lots of small points -/
structure Few (ls : List (List Nat)) : Prop where
  n : ls.length ≤ 70
  l : ∀ l ∈ ls, l.length ≤ 9
  p : ∀ l ∈ ls, ∀ p ∈ l, p < 9
theorem big : 1000000 < sizeLine := by decide
theorem Few.n' {ls : List (List Nat)} (h : Few ls) : ls.length < sizeLine := Nat.lt_trans (by have := h.n; omega) big
theorem Few.l' {ls : List (List Nat)} (h : Few ls) {l : List Nat} (m : l ∈ ls) : l.length < sizeLine := Nat.lt_trans (by have := h.l l m; omega) big
section
variable {P : Program} {w : World} {K : PySem.W.Frag} {mg : Str → Option Value} {base : Heap}
inductive F_masks_of : Spec
  | mk {S : Sp2} (h : Few S.2) : F_masks_of [] [.d (spD S)] (.d (.list ((S.2.map mask).map nD))) []
theorem sc_masks_of : FnScope ["space", "lot"] ["space"] (C8.fnScope s_masks_of) := ⟨rfl, rfl, rfl, by decide +kernel, rfl, by decide +kernel, by decide +kernel⟩
theorem f_masks_of (T : Top K mg) : Fn P w K mg base false 2 "masks_of" F_masks_of := by
  refine Fn.of T.s_masks_of sc_masks_of (fun _ _ _ _ _ _ us hl => match us, hl with | [_], _ => rfl) (by rintro _ _ _ _ ⟨⟩ <;> rfl) fun f cdv A outer s H E hr W rs r W' hF => ?_
  cases hF with | @mk S h =>
  rw [List.map_map]
  refine h_one (s_ret ?_)
  exact (e_comp (comp_M [("lot", 1)] 1 (f := fun l => nD (mask l)) (xs := S.2) (i_tup (r_ix (e_var 0) e_nat x_sp1)) sc_masks_of.nd (by first | assumption | omega | exact h.n' | exact h.l' ‹_› | exact (fun p hp => by have := h.p a ha p hp; omega) | decide) (fun a ha s H C cl fp => (r_callP (f_mask_of T) (hr.mono (by decide)) (a_cons (e_var 1) a_nil) (.mk (by first | assumption | omega | exact h.n' | exact h.l' ‹_› | exact (fun p hp => by have := h.p a ha p hp; omega) | decide) (by first | assumption | omega | exact h.n' | exact h.l' ‹_› | exact (fun p hp => by have := h.p a ha p hp; omega) | decide)))) (fun s H C cl fp => g_nm 1 sc_masks_of.nd)))
inductive F_span_by : Spec
  | mk {ms : List Nat} {n m : Nat} (h : n ≤ 64) : F_span_by [] [.d (.list (ms.map nD)), I_ (n : Nat), I_ (m : Nat)] (I_ (spanM ms n m : Nat)) []
theorem sc_span_by : FnScope ["masks", "points", "mask", "found", "one"] ["masks", "points", "mask"] (C8.fnScope s_span_by) := ⟨rfl, rfl, rfl, by decide +kernel, rfl, by decide +kernel, by decide +kernel⟩
theorem f_span_by (T : Top K mg) : Fn P w K mg base false 1 "span_by" F_span_by := by
  refine Fn.of T.s_span_by sc_span_by (fun _ _ _ _ _ _ us hl => match us, hl with | [_, _, _], _ => rfl) (by rintro _ _ _ _ ⟨⟩ <;> rfl) fun f cdv A outer s H E hr W rs r W' hF => ?_
  cases hF with | @mk ms n m h =>
  have h1 : 1 ≤ 2 ^ n := Nat.one_le_two_pow
  refine h_cons (s_set 3 (r_bin (r_bin e_nat (e_var 1) (b_shlN (by first | assumption | omega | decide))) e_nat (b_subN (by first | assumption | omega | decide))) sc_span_by.nd) ?_
  refine h_cons (s_forN (fun _ => True) (fun f o => if o &&& m = m then f &&& o else f) (fun _ => []) (fun f => [some (.d (.list (ms.map nD))), some (I_ (n : Nat)), some (I_ (m : Nat)), some (I_ (f : Nat)), none]) (2 ^ n - 1) 4 (xs := ms) (i_lst (e_var 0)) sc_span_by.nd trivial (by repeat (first | exact trivial | refine ⟨.inr rfl, ?_⟩ | refine ⟨.inl rfl, ?_⟩)) (fun _ _ _ _ => trivial) fun f o ho _ => ?_) ?_
  · by_cases q : o &&& m = m
    · rw [if_pos q]
      exact hs_wk (h_one (s_ifT (t_eq (rt_cmp (r_bin (e_var 4) (e_var 2) b_andN) (e_var 2) c_eqN) (by simp [q])) (h_one (s_set 3 (r_bin (e_var 3) (e_var 4) b_andN) sc_span_by.nd)))) (by repeat (first | exact trivial | refine ⟨.inr rfl, ?_⟩ | refine ⟨.inl rfl, ?_⟩))
    · rw [if_neg q]
      exact hs_wk (h_one (s_ifF (t_eq (rt_cmp (r_bin (e_var 4) (e_var 2) b_andN) (e_var 2) c_eqN) (by simp [q])) h_nil)) (by repeat (first | exact trivial | refine ⟨.inr rfl, ?_⟩ | refine ⟨.inl rfl, ?_⟩))
  · exact h_one (s_ret (e_var 3))
inductive F_spans_of : Spec
  | mk {S : Sp2} (h : Few S.2) (h1 : S.1 ≤ 9) : F_spans_of [] [.d (spD S)] (.d (.list ((spansM S).map nD))) []
theorem sc_spans_of : FnScope ["space", "masks", "mask"] ["space"] (C8.fnScope s_spans_of) := ⟨rfl, rfl, rfl, by decide +kernel, rfl, by decide +kernel, by decide +kernel⟩
theorem f_spans_of (T : Top K mg) : Fn P w K mg base false 3 "spans_of" F_spans_of := by
  refine Fn.of T.s_spans_of sc_spans_of (fun _ _ _ _ _ _ us hl => match us, hl with | [_], _ => rfl) (by rintro _ _ _ _ ⟨⟩ <;> rfl) fun f cdv A outer s H E hr W rs r W' hF => ?_
  cases hF with | @mk S h h1 =>
  have h2 : 2 ^ S.1 ≤ 2 ^ 9 := Nat.pow_le_pow_right (by decide) h1
  have h3 : (List.range (2 ^ S.1)).length < sizeLine := by rw [List.length_range]; exact Nat.lt_of_le_of_lt h2 (by decide)
  refine h_cons (s_set 1 (r_callP (f_masks_of T) (hr.mono (by decide)) (a_cons (e_var 0) a_nil) (.mk (by first | assumption | omega | decide))) sc_spans_of.nd) ?_
  exact h_one (s_retE (e_comp (comp_M [("mask", 2)] 2 (f := fun m => nD (spanM (S.2.map mask) S.1 m)) (xs := List.range (2 ^ S.1)) (i_rgN T.b_range (a_cons (r_bin e_nat (r_ix (e_var 0) e_nat x_sp0) (b_shlN (by first | assumption | omega | decide))) a_nil) (by first | assumption | omega | decide)) sc_spans_of.nd (by first | assumption | omega | decide) (fun a ha s H C cl fp => (r_callP (f_span_by T) (hr.mono (by decide)) (a_cons (e_var 1) (a_cons (r_ix (e_var 0) e_nat x_sp0) (a_cons (e_var 2) a_nil))) (.mk (by first | assumption | omega | decide)))) (fun s H C cl fp => g_nm 2 sc_spans_of.nd))) (by unfold spansM; rw [List.map_map]; rfl))
theorem lotOf_bit {m p : Nat} (h : p ∈ lotOf m) : m.testBit p = true := by
  unfold lotOf at h
  have := (List.mem_filter.mp h).2
  rw [decide_eq_true_eq, ← Nat.shiftRight_eq_div_pow] at this
  have e := Nat.and_one_is_mod (m >>> p)
  rw [Nat.testBit_eq_decide_div_mod_eq]
  rw [e, Nat.shiftRight_eq_div_pow] at this
  have := Nat.mod_two_eq_zero_or_one (m / 2 ^ p)
  simp; omega
theorem lotOf_len (m : Nat) : (lotOf m).length ≤ 9 := Nat.le_trans (List.length_filter_le _ _) (by simp)
theorem lotOf_lt {m p : Nat} (h : p ∈ lotOf m) : p < 9 := by
  unfold lotOf at h
  simpa using (List.mem_filter.mp h).1
inductive F_core_by : Spec
  | mk {ss : List Nat} {m : Nat} (h : m < ss.length) : F_core_by [] [.d (.list (ss.map nD)), I_ (m : Nat)] (I_ (coreM ss m : Nat)) []
theorem sc_core_by : FnScope ["spans", "mask", "found", "point"] ["spans", "mask"] (C8.fnScope s_core_by) := ⟨rfl, rfl, rfl, by decide +kernel, rfl, by decide +kernel, by decide +kernel⟩
theorem f_core_by (T : Top K mg) : Fn P w K mg base false 2 "core_by" F_core_by := by
  refine Fn.of T.s_core_by sc_core_by (fun _ _ _ _ _ _ us hl => match us, hl with | [_, _], _ => rfl) (by rintro _ _ _ _ ⟨⟩ <;> rfl) fun f cdv A outer s H E hr W rs r W' hF => ?_
  cases hF with | @mk ss m h =>
  have h1 : 1 ≤ ss.length := by omega
  refine h_cons (s_set 2 (r_bin (r_calB (a_cons (e_var 0) a_nil) f_lenM T.b_len rfl) e_nat (b_subN (by first | assumption | omega | decide))) sc_core_by.nd) ?_
  refine h_cons (s_forN (fun _ => True) (fun f p => f &&& ss.getD (m - 2 ^ p) 0) (fun _ => []) (fun f => [some (.d (.list (ss.map nD))), some (I_ (m : Nat)), some (I_ (f : Nat)), none]) (ss.length - 1) 3 (xs := lotOf m) (gg := nD) (i_tup (r_callP (f_lot_by T) (hr.mono (by decide)) (a_cons (e_var 1) a_nil) .mk)) sc_core_by.nd trivial (by repeat (first | exact trivial | refine ⟨.inr rfl, ?_⟩ | refine ⟨.inl rfl, ?_⟩)) (fun _ _ _ _ => trivial) fun f p hp _ => ?_) ?_
  · have hb := lotOf_bit hp
    have h9 := lotOf_lt hp
    have hlt : m - 2 ^ p < ss.length := Nat.lt_of_le_of_lt (Nat.sub_le ..) h
    exact hs_wk (h_one (s_set 2 (r_bin (e_var 2) (r_ix (e_var 0) (r_bin (e_var 1) (r_bin e_nat (e_var 3) (b_shlN (by first | assumption | omega | decide))) (b_clr (by first | assumption | omega | decide))) (x_nl (by first | assumption | omega | decide))) b_andN) sc_core_by.nd)) (by repeat (first | exact trivial | refine ⟨.inr rfl, ?_⟩ | refine ⟨.inl rfl, ?_⟩))
  · exact h_one (s_ret (e_var 2))
inductive F_is_stray_by : Spec
  | mk {ss : List Nat} {m : Nat} (h : m < ss.length) : F_is_stray_by [] [.d (.list (ss.map nD)), I_ (m : Nat)] (B_ (strayM ss m)) []
theorem sc_is_stray_by : FnScope ["spans", "mask"] ["spans", "mask"] (C8.fnScope s_is_stray_by) := ⟨rfl, rfl, rfl, by decide +kernel, rfl, by decide +kernel, by decide +kernel⟩
theorem f_is_stray_by (T : Top K mg) : Fn P w K mg base false 3 "is_stray_by" F_is_stray_by := by
  refine Fn.of T.s_is_stray_by sc_is_stray_by (fun _ _ _ _ _ _ us hl => match us, hl with | [_, _], _ => rfl) (by rintro _ _ _ _ ⟨⟩ <;> rfl) fun f cdv A outer s H E hr W rs r W' hF => ?_
  cases hF with | @mk ss m h =>
  exact h_one (s_ret (v_andP (r_cmp (e_var 1) e_nat c_gtN) (v_one (r_cmp (r_callP (f_core_by T) (hr.mono (by decide)) (a_cons (e_var 0) (a_cons (e_var 1) a_nil)) (.mk (by first | assumption | omega | decide))) e_nat c_eqN))))
theorem spansM_len (S : Sp2) : (spansM S).length = 2 ^ S.1 := by unfold spansM; simp
inductive F_stray_in : Spec
  | mk {S : Sp2} (h : Few S.2) (h1 : S.1 ≤ 9) : F_stray_in [] [.d (spD S)] (.d (.list ((strayIn S).map lotD))) []
theorem sc_stray_in : FnScope ["space", "spans", "mask"] ["space"] (C8.fnScope s_stray_in) := ⟨rfl, rfl, rfl, by decide +kernel, rfl, by decide +kernel, by decide +kernel⟩
theorem f_stray_in (T : Top K mg) : Fn P w K mg base false 4 "stray_in" F_stray_in := by
  refine Fn.of T.s_stray_in sc_stray_in (fun _ _ _ _ _ _ us hl => match us, hl with | [_], _ => rfl) (by rintro _ _ _ _ ⟨⟩ <;> rfl) fun f cdv A outer s H E hr W rs r W' hF => ?_
  cases hF with | @mk S h h1 =>
  have h2 : 2 ^ S.1 ≤ 2 ^ 9 := Nat.pow_le_pow_right (by decide) h1
  have hl := spansM_len S
  have h3 : (List.range (spansM S).length).length < sizeLine := by rw [List.length_range, hl]; exact Nat.lt_of_le_of_lt h2 (by decide)
  have h4 : (spansM S).length < 2 ^ 62 := by rw [hl]; exact Nat.lt_of_le_of_lt h2 (by decide)
  refine h_cons (s_set 1 (r_callP (f_spans_of T) (hr.mono (by decide)) (a_cons (e_var 0) a_nil) (.mk (by first | assumption | omega | decide) (by first | assumption | omega | decide))) sc_stray_in.nd) ?_
  refine h_one (s_ret ?_)
  refine e_calB (f_sortL hr.units) T.b_sorted rfl (a_cons (e_eq (r := .d (.list (((List.range (spansM S).length).filter (strayM (spansM S))).map fun m => lotD (lotOf m)))) ?_ (by unfold llD; rw [List.map_map, hl]; rfl)) a_nil)
  exact (e_comp (comp_N [("mask", 2)] 2 (p := strayM (spansM S)) (f := fun m => lotD (lotOf m)) (xs := List.range (spansM S).length) (i_rgN T.b_range (a_cons (r_calB (a_cons (e_var 1) a_nil) f_lenM T.b_len rfl) a_nil) (by first | assumption | omega | exact List.mem_range.mp ‹_› | decide)) sc_stray_in.nd (by first | assumption | omega | exact List.mem_range.mp ‹_› | decide) (fun a ha s H C cl fp => s_one (t_val (r_callP (f_is_stray_by T) (hr.mono (by decide)) (a_cons (e_var 1) (a_cons (e_var 2) a_nil)) (.mk (by first | assumption | omega | exact List.mem_range.mp ‹_› | decide))))) (fun a ha hp s H C cl fp => (r_callP (f_lot_by T) (hr.mono (by decide)) (a_cons (e_var 2) a_nil) .mk)) (fun s H C cl fp => g_nm 2 sc_stray_in.nd)))
inductive F_number_in : Spec
  | mk {S : Sp2} (h : Few S.2) (h1 : S.1 ≤ 9) (h2 : strayIn S ≠ []) : F_number_in [] [.d (spD S)] (I_ (numberIn S : Nat)) []
theorem sc_number_in : FnScope ["space", "lot"] ["space"] (C8.fnScope s_number_in) := ⟨rfl, rfl, rfl, by decide +kernel, rfl, by decide +kernel, by decide +kernel⟩
theorem f_number_in (T : Top K mg) : Fn P w K mg base false 5 "number_in" F_number_in := by
  refine Fn.of T.s_number_in sc_number_in (fun _ _ _ _ _ _ us hl => match us, hl with | [_], _ => rfl) (by rintro _ _ _ _ ⟨⟩ <;> rfl) fun f cdv A outer s H E hr W rs r W' hF => ?_
  cases hF with | @mk S h h1 h2 =>
  have h3 : 2 ^ S.1 ≤ 2 ^ 9 := Nat.pow_le_pow_right (by decide) h1
  have h4 : (strayIn S).length < sizeLine := by
    unfold strayIn
    rw [(sortL_perm _).length_eq, List.length_map]
    refine Nat.lt_of_le_of_lt (List.length_filter_le _ _) ?_
    rw [List.length_range]
    exact Nat.lt_of_le_of_lt h3 (by decide)
  refine h_one (s_ret ?_)
  exact (r_calB (a_cons (e_comp (comp_M [("lot", 1)] 1 (f := fun l => nD (List.length l)) (xs := strayIn S) (i_lst (r_callP (f_stray_in T) (hr.mono (by decide)) (a_cons (e_var 0) a_nil) (.mk (by first | assumption | omega | decide) (by first | assumption | omega | decide)))) sc_number_in.nd (by first | assumption | omega | decide) (fun a ha s H C cl fp => (r_calB (a_cons (e_var 1) a_nil) f_lenN T.b_len rfl)) (fun s H C cl fp => g_nm 1 sc_number_in.nd))) a_nil) (f_maxN (by first | assumption | omega | decide)) T.b_max rfl)
end
end SG
set_option Elab.async false
set_option linter.all false
set_option maxRecDepth 100000
set_option maxHeartbeats 4000000
namespace SG
open PySem PySem.Spec PyProof.Rows L2
section
variable {P : Program} {w : World} {K : PySem.W.Frag} {mg : Str → Option Value} {base : Heap}
inductive F_has_all : Spec
  | mk {c l : List Nat} (h : l.length < sizeLine) : F_has_all [] [.d (lotD c), .d (lotD l)] (B_ (l.all fun t => decide (t ∈ c))) []
theorem sc_has_all : FnScope ["crew", "part", "teller"] ["crew", "part"] (C8.fnScope s_has_all) := ⟨rfl, rfl, rfl, by decide +kernel, rfl, by decide +kernel, by decide +kernel⟩
theorem f_has_all (T : Top K mg) : Fn P w K mg base false 1 "has_all" F_has_all := by
  refine Fn.of T.s_has_all sc_has_all (fun _ _ _ _ _ _ us hl => match us, hl with | [_, _], _ => rfl) (by rintro _ _ _ _ ⟨⟩ <;> rfl) fun f cdv A outer s H E hr W rs r W' hF => ?_
  cases hF with | @mk c l h =>
  exact h_one (s_ret (r_calB (a_cons (e_comp (comp_M [("teller", 2)] 2 (f := fun t => PyData.bool (decide (t ∈ c))) (xs := l) (i_tup (e_var 1)) sc_has_all.nd (by first | assumption | omega | decide) (fun a ha s H C cl fp => (r_cmp (e_var 2) (e_var 0) c_inN)) (fun s H C cl fp => g_nm 2 sc_has_all.nd))) a_nil) f_allM T.b_all rfl))
inductive F_rest_of : Spec
  | mk {told c : List Nat} (h : told.length < 64) : F_rest_of [] [.d (lotD told), .d (lotD c)] (.d (lotD (restM told c))) []
theorem sc_rest_of : FnScope ["told", "crew", "teller", "point"] ["told", "crew"] (C8.fnScope s_rest_of) := ⟨rfl, rfl, rfl, by decide +kernel, rfl, by decide +kernel, by decide +kernel⟩
theorem f_rest_of (T : Top K mg) : Fn P w K mg base false 1 "rest_of" F_rest_of := by
  refine Fn.of T.s_rest_of sc_rest_of (fun _ _ _ _ _ _ us hl => match us, hl with | [_, _], _ => rfl) (by rintro _ _ _ _ ⟨⟩ <;> rfl) fun f cdv A outer s H E hr W rs r W' hF => ?_
  cases hF with | @mk told c h =>
  have h1 : (told.zipIdx).length < sizeLine := by rw [List.length_zipIdx]; exact Nat.lt_trans h (by decide)
  have h2 : (ddN ((told.zipIdx.filter fun p => !decide (p.2 ∈ c)).map (·.1))).length < 64 := by
    refine Nat.lt_of_le_of_lt (ddN_len _) ?_
    rw [List.length_map]
    exact Nat.lt_of_le_of_lt (List.length_filter_le _ _) (by rw [List.length_zipIdx]; exact h)
  exact h_one (s_ret (r_calT (a_cons (r_calB (a_cons (dcomp_P [("teller", 2), ("point", 3)] 2 3 (p := fun p => !decide (p.2 ∈ c)) (f := fun p => p.1) (xs := told.zipIdx) (i_enT T.b_enumerate (a_cons (e_var 0) a_nil)) sc_rest_of.nd (by first | assumption | omega | decide) (fun a ha s H C cl fp => s_one (rt_cmp (e_var 2) (e_var 1) c_niN)) (fun a ha hp s H C cl fp => (e_var 3)) (fun ρ' s H C cl fp => e_bl) (fun s H C cl fp => g_pr 2 3 sc_rest_of.nd)) a_nil) (f_sortK rfl (by first | assumption | omega | decide)) T.b_sorted rfl) a_nil) f_tuple T.b_tuple rfl))
theorem mask_bd : ∀ {l : List Nat} {n b : Nat}, l.Pairwise (· < ·) → (∀ p ∈ l, b ≤ p ∧ p < n) → b ≤ n → mask l + 2 ^ b ≤ 2 ^ n
  | [], n, b, _, _, h => by
    show 0 + 2 ^ b ≤ 2 ^ n
    rw [Nat.zero_add]
    exact Nat.pow_le_pow_right (by decide) h
  | a :: l, n, b, hp, hb, h => by
    obtain ⟨h1, h2⟩ := List.pairwise_cons.mp hp
    obtain ⟨h3, h4⟩ := hb a List.mem_cons_self
    have ih := mask_bd (l := l) (n := n) (b := a + 1) h2 (fun p hp => ⟨h1 p hp, (hb p (List.mem_cons_of_mem _ hp)).2⟩) h4
    have e : mask (a :: l) = 2 ^ a + mask l := rfl
    have h5 : 2 ^ b ≤ 2 ^ a := Nat.pow_le_pow_right (by decide) h3
    rw [Nat.pow_succ] at ih
    omega
theorem mask_lt {l : List Nat} {n : Nat} (hp : l.Pairwise (· < ·)) (hb : ∀ p ∈ l, p < n) : mask l < 2 ^ n := by
  have := mask_bd (b := 0) hp (fun p h => ⟨Nat.zero_le _, hb p h⟩) (Nat.zero_le n)
  omega
theorem restM_mem {told c : List Nat} {p : Nat} (h : p ∈ restM told c) : p ∈ told := by
  unfold restM at h
  rw [sortU_mem] at h
  obtain ⟨q, hq, rfl⟩ := List.mem_map.mp h
  exact List.fst_mem_of_mem_zipIdx (List.mem_filter.mp hq).1
theorem restM_lt (told c : List Nat) : (restM told c).Pairwise (· < ·) := sortU_lt _
theorem restM_len (told c : List Nat) : (restM told c).length ≤ told.length := by
  unfold restM
  rw [(sortU_perm _).length_eq]
  refine Nat.le_trans (ddN_len _) ?_
  rw [List.length_map]
  exact Nat.le_trans (List.length_filter_le _ _) (by rw [List.length_zipIdx]; exact Nat.le_refl _)
inductive F_rests_of : Spec
  | mk {G : Sp2} {told : List Nat} (h : told.length < 64) (h2 : G.2.length < sizeLine) : F_rests_of [] [.d (spD G), .d (lotD told)] (.d (.list ((G.2.map (restM told)).map lotD))) []
theorem sc_rests_of : FnScope ["system", "told", "crew"] ["system", "told"] (C8.fnScope s_rests_of) := ⟨rfl, rfl, rfl, by decide +kernel, rfl, by decide +kernel, by decide +kernel⟩
theorem f_rests_of (T : Top K mg) : Fn P w K mg base false 2 "rests_of" F_rests_of := by
  refine Fn.of T.s_rests_of sc_rests_of (fun _ _ _ _ _ _ us hl => match us, hl with | [_, _], _ => rfl) (by rintro _ _ _ _ ⟨⟩ <;> rfl) fun f cdv A outer s H E hr W rs r W' hF => ?_
  cases hF with | @mk G told h h2 =>
  exact h_one (s_retE (e_comp (comp_M [("crew", 2)] 2 (f := fun c => lotD (restM told c)) (xs := G.2) (i_tup (r_ix (e_var 0) e_nat x_sp1)) sc_rests_of.nd (by first | assumption | omega | decide) (fun a ha s H C cl fp => (r_callP (f_rest_of T) (hr.mono (by decide)) (a_cons (e_var 1) (a_cons (e_var 2) a_nil)) (.mk (by first | assumption | omega | decide)))) (fun s H C cl fp => g_nm 2 sc_rests_of.nd))) (by rw [List.map_map]; rfl))
inductive F_safe_by : Spec
  | mk {ss : List Nat} {rs : List (List Nat)} (h : ∀ l ∈ rs, (∀ p ∈ l, p ≤ 64) ∧ l.length < sizeLine ∧ mask l < ss.length) (h1 : 1 ≤ ss.length) : F_safe_by [] [.d (.list (ss.map nD)), .d (.list (rs.map lotD))] (I_ (safeM ss rs : Nat)) []
theorem sc_safe_by : FnScope ["spans", "rests", "found", "lot"] ["spans", "rests"] (C8.fnScope s_safe_by) := ⟨rfl, rfl, rfl, by decide +kernel, rfl, by decide +kernel, by decide +kernel⟩
theorem f_safe_by (T : Top K mg) : Fn P w K mg base false 2 "safe_by" F_safe_by := by
  refine Fn.of T.s_safe_by sc_safe_by (fun _ _ _ _ _ _ us hl => match us, hl with | [_, _], _ => rfl) (by rintro _ _ _ _ ⟨⟩ <;> rfl) fun f cdv A outer s H E hr W rs r W' hF => ?_
  cases hF with | @mk ss rs h h1 =>
  refine h_cons (s_set 2 (r_bin (r_calB (a_cons (e_var 0) a_nil) f_lenM T.b_len rfl) e_nat (b_subN (by first | assumption | omega | decide))) sc_safe_by.nd) ?_
  refine h_cons (s_forN (fun _ => True) (fun f l => f &&& ss.getD (mask l) 0) (fun _ => []) (fun f => [some (.d (.list (ss.map nD))), some (.d (.list (rs.map lotD))), some (I_ (f : Nat)), none]) (ss.length - 1) 3 (xs := rs) (gg := lotD) (i_lst (e_var 1)) sc_safe_by.nd trivial (by repeat (first | exact trivial | refine ⟨.inr rfl, ?_⟩ | refine ⟨.inl rfl, ?_⟩)) (fun _ _ _ _ => trivial) fun f l hl _ => ?_) ?_
  · obtain ⟨k1, k2, k3⟩ := h l hl
    exact hs_wk (h_one (s_set 2 (r_bin (e_var 2) (r_ix (e_var 0) (r_callP (f_mask_of T) (hr.mono (by decide)) (a_cons (e_var 3) a_nil) (.mk (by first | assumption | omega | decide) (by first | assumption | omega | decide))) (x_nl (by first | assumption | omega | decide))) b_andN) sc_safe_by.nd)) (by repeat (first | exact trivial | refine ⟨.inr rfl, ?_⟩ | refine ⟨.inl rfl, ?_⟩))
  · exact h_one (s_ret (e_var 2))
inductive F_safe_in : Spec
  | mk {S G : Sp2} {told : List Nat} (h : Few S.2) (h1 : S.1 ≤ 9) (h2 : told.length < 64) (h3 : ∀ p ∈ told, p < S.1) (h4 : G.2.length < sizeLine) : F_safe_in [] [.d (spD S), .d (spD G), .d (lotD told)] (.d (lotD (safeIn S G told))) []
theorem sc_safe_in : FnScope ["space", "system", "told"] ["space", "system", "told"] (C8.fnScope s_safe_in) := ⟨rfl, rfl, rfl, by decide +kernel, rfl, by decide +kernel, by decide +kernel⟩
theorem f_safe_in (T : Top K mg) : Fn P w K mg base false 4 "safe_in" F_safe_in := by
  refine Fn.of T.s_safe_in sc_safe_in (fun _ _ _ _ _ _ us hl => match us, hl with | [_, _, _], _ => rfl) (by rintro _ _ _ _ ⟨⟩ <;> rfl) fun f cdv A outer s H E hr W rs r W' hF => ?_
  cases hF with | @mk S G told h h1 h2 h3 h4 =>
  refine h_one (s_ret ?_)
  refine (r_callP (f_lot_by T) (hr.mono (by decide)) (a_cons (r_callP (f_safe_by T) (hr.mono (by decide)) (a_cons (r_callP (f_spans_of T) (hr.mono (by decide)) (a_cons (e_var 0) a_nil) (.mk (by first | assumption | omega | decide) (by first | assumption | omega | decide))) (a_cons (r_callP (f_rests_of T) (hr.mono (by decide)) (a_cons (e_var 1) (a_cons (e_var 2) a_nil)) (.mk (by first | assumption | omega | decide) (by first | assumption | omega | decide))) a_nil)) (.mk ?_ ?_)) a_nil) .mk)
  · intro l hl
    obtain ⟨c, hc, rfl⟩ := List.mem_map.mp hl
    have k1 : ∀ p ∈ restM told c, p < S.1 := fun p hp => h3 p (restM_mem hp)
    refine ⟨fun p hp => by have := k1 p hp; omega, Nat.lt_of_le_of_lt (restM_len _ _) (Nat.lt_trans h2 (by decide)), ?_⟩
    rw [spansM_len]
    exact mask_lt (restM_lt told c) k1
  · rw [spansM_len]
    exact Nat.one_le_two_pow
inductive F_bare_tellers : Spec
  | mk {G : Sp2} {ns : List Nat} (h : ∀ k ∈ ns, k < G.2.length) (h1 : G.1 < 2 ^ 20) (h2 : ns.length < sizeLine) : F_bare_tellers [] [.d (spD G), .d (lotD ns)] (.d (.list ((bare G ns).map nD))) []
  | mk2 {G : Sp2} {ns : List Nat} (h : ∀ k ∈ ns, k < G.2.length) (h1 : G.1 < 2 ^ 20) (h2 : ns.length < sizeLine) : F_bare_tellers [] [.d (spD G), .d (.list (ns.map nD))] (.d (.list ((bare G ns).map nD))) []
theorem sc_bare_tellers : FnScope ["system", "numbers", "teller", "one"] ["system", "numbers"] (C8.fnScope s_bare_tellers) := ⟨rfl, rfl, rfl, by decide +kernel, rfl, by decide +kernel, by decide +kernel⟩
theorem f_bare_tellers (T : Top K mg) : Fn P w K mg base false 1 "bare_tellers" F_bare_tellers := by
  refine Fn.of T.s_bare_tellers sc_bare_tellers (fun _ _ _ _ _ _ us hl => match us, hl with | [_, _], _ => rfl) (by rintro _ _ _ _ ⟨⟩ <;> rfl) fun f cdv A outer s H E hr W rs r W' hF => ?_
  cases hF with
  | @mk G ns h h1 h2 =>
    have h3 : (List.range G.1).length < sizeLine := by rw [List.length_range]; exact Nat.lt_trans h1 (by decide)
    refine h_one (s_ret ?_)
    exact (e_comp (comp_N [("teller", 2)] 2 (p := fun t => !(ns.any fun k => decide (t ∈ G.2.getD k []))) (f := nD) (xs := List.range G.1) (i_rgN T.b_range (a_cons (r_ix (e_var 0) e_nat x_sp0) a_nil) (by first | assumption | omega | exact h _ ‹_› | decide)) sc_bare_tellers.nd (by first | assumption | omega | exact h _ ‹_› | decide) (fun a ha s H C cl fp => s_one (t_not (t_val (r_calB (a_cons (e_comp (comp_M [("one", 3)] 3 (f := fun k => PyData.bool (decide (a ∈ G.2.getD k []))) (xs := ns) (i_tup (e_var 1)) sc_bare_tellers.nd (by first | assumption | omega | exact h _ ‹_› | decide) (fun a ha s H C cl fp => (r_cmp (e_var 2) (r_ix (r_ix (e_var 0) e_nat x_sp1) (e_var 3) (x_lots (by first | assumption | omega | exact h _ ‹_› | decide))) c_inN)) (fun s H C cl fp => g_nm 3 sc_bare_tellers.nd))) a_nil) f_anyM T.b_any rfl)))) (fun a ha hp s H C cl fp => (e_var 2)) (fun s H C cl fp => g_nm 2 sc_bare_tellers.nd)))
  | @mk2 G ns h h1 h2 =>
    have h3 : (List.range G.1).length < sizeLine := by rw [List.length_range]; exact Nat.lt_trans h1 (by decide)
    refine h_one (s_ret ?_)
    exact (e_comp (comp_N [("teller", 2)] 2 (p := fun t => !(ns.any fun k => decide (t ∈ G.2.getD k []))) (f := nD) (xs := List.range G.1) (i_rgN T.b_range (a_cons (r_ix (e_var 0) e_nat x_sp0) a_nil) (by first | assumption | omega | exact h _ ‹_› | decide)) sc_bare_tellers.nd (by first | assumption | omega | exact h _ ‹_› | decide) (fun a ha s H C cl fp => s_one (t_not (t_val (r_calB (a_cons (e_comp (comp_M [("one", 3)] 3 (f := fun k => PyData.bool (decide (a ∈ G.2.getD k []))) (xs := ns) (i_lst (e_var 1)) sc_bare_tellers.nd (by first | assumption | omega | exact h _ ‹_› | decide) (fun a ha s H C cl fp => (r_cmp (e_var 2) (r_ix (r_ix (e_var 0) e_nat x_sp1) (e_var 3) (x_lots (by first | assumption | omega | exact h _ ‹_› | decide))) c_inN)) (fun s H C cl fp => g_nm 3 sc_bare_tellers.nd))) a_nil) f_anyM T.b_any rfl)))) (fun a ha hp s H C cl fp => (e_var 2)) (fun s H C cl fp => g_nm 2 sc_bare_tellers.nd)))
end
end SG
set_option Elab.async false
set_option linter.all false
set_option maxRecDepth 100000
set_option maxHeartbeats 4000000
namespace SG
open PySem PySem.Spec PyProof.Rows L2
theorem rowsOf_mem {m : Nat} : ∀ {n : Nat} {row : List Nat}, row ∈ rowsOf m n → row.length = n ∧ (∀ k ∈ row, k < m) ∧ row.Pairwise (· < ·)
  | 0, row, h => by
    have : row = [] := by simpa [rowsOf] using h
    subst this
    exact ⟨rfl, (fun k hk => nomatch hk), List.Pairwise.nil⟩
  | n + 1, row, h => by
    obtain ⟨r, hr, h2⟩ := List.mem_flatMap.mp (show row ∈ (rowsOf m n).flatMap _ from h)
    obtain ⟨k, hk, rfl⟩ := List.mem_map.mp h2
    obtain ⟨h3, h4⟩ := List.mem_filter.mp hk
    obtain ⟨e1, e2, e3⟩ := rowsOf_mem hr
    have hkm : k < m := List.mem_range.mp h3
    refine ⟨by simp [e1], fun j hj => ?_, ?_⟩
    · rcases List.mem_append.mp hj with z | z
      · exact e2 j z
      · have : j = k := by simpa using z
        rw [this]; exact hkm
    · refine List.pairwise_append.mpr ⟨e3, List.pairwise_singleton _ _, fun a ha b hb => ?_⟩
      have : b = k := by simpa using hb
      subst this
      unfold bigger at h4
      cases q : r with
      | nil => rw [q] at ha; cases ha
      | cons x xs =>
        rw [q] at h4 e3 ha
        have hlast : (x :: xs).getLastD 0 < b := by simpa using h4
        have hmx : ∀ y ∈ x :: xs, y ≤ (x :: xs).getLastD 0 := by
          have key : ∀ (l : List Nat) (x : Nat), (x :: l).Pairwise (· < ·) → ∀ y ∈ x :: l, y ≤ (x :: l).getLastD 0 := by
            intro l
            induction l with
            | nil => intro x _ y hy; have : y = x := by simpa using hy
                     subst this; exact Nat.le_refl _
            | cons z l ih =>
              intro x hp y hy
              have hp2 := List.pairwise_cons.mp hp
              have e : (x :: z :: l).getLastD 0 = (z :: l).getLastD 0 := by simp [List.getLastD]
              rw [e]
              rcases List.mem_cons.mp hy with w | w
              · subst w
                have h1 := hp2.1 z List.mem_cons_self
                have h2 := ih z hp2.2 z List.mem_cons_self
                omega
              · exact ih z hp2.2 y w
          exact key xs x e3
        exact Nat.lt_of_le_of_lt (hmx a ha) hlast
/-- at most m * (m - 1) .. rows; a plain bound -/
theorem rowsOf_len (m : Nat) : ∀ n, (rowsOf m n).length ≤ m ^ n
  | 0 => by simp [rowsOf]
  | n + 1 => by
    have h1 := flat_len (fun row => ((List.range m).filter (bigger row)).map fun k => row ++ [k]) m (fun row => by
      rw [List.length_map]
      refine Nat.le_trans (List.length_filter_le _ _) ?_
      rw [List.length_range]
      exact Nat.le_refl _) (rowsOf m n)
    have h2 := rowsOf_len m n
    show (grown m (rowsOf m n)).length ≤ _
    rw [Nat.pow_succ]
    exact Nat.le_trans h1 (Nat.mul_le_mul_right _ h2)
section
variable {P : Program} {w : World} {K : PySem.W.Frag} {mg : Str → Option Value} {base : Heap}
theorem c_last {X : Cx} {l : List Nat} (h : l ≠ []) : IxOk X (.d (lotD l)) (I_ (-1)) (I_ (l.getLastD 0 : Nat)) := by
  obtain ⟨xs, x, rfl⟩ : ∃ xs x, l = xs ++ [x] := ⟨l.dropLast, l.getLast h, (List.dropLast_concat_getLast h).symm⟩
  refine x_tup ?_
  rw [List.map_append, List.map_singleton, atI_last]
  simp
inductive F_covers_with : Spec
  | mk {G : Sp2} {n : Nat} (h1 : G.1 < 2 ^ 20) (h2 : G.2.length ≤ 5) (h3 : n ≤ 5) : F_covers_with [] [.d (spD G), I_ (n : Nat)] (.d (.list ((coversWith G n).map lotD))) []
theorem sc_covers_with : FnScope ["system", "size", "found", "turn", "row", "one"] ["system", "size"] (C8.fnScope s_covers_with) := ⟨rfl, rfl, rfl, by decide +kernel, rfl, by decide +kernel, by decide +kernel⟩
theorem f_covers_with (T : Top K mg) : Fn P w K mg base false 2 "covers_with" F_covers_with := by
  refine Fn.of T.s_covers_with sc_covers_with (fun _ _ _ _ _ _ us hl => match us, hl with | [_, _], _ => rfl) (by rintro _ _ _ _ ⟨⟩ <;> rfl) fun f cdv A outer s H E hr W rs r W' hF => ?_
  cases hF with | @mk G n h1 h2 h3 =>
  have hm : (List.range G.2.length).length < sizeLine := by rw [List.length_range]; exact Nat.lt_of_le_of_lt h2 (by decide)
  have lenB : ∀ k, k ≤ 5 → (rowsOf G.2.length k).length ≤ 3125 := fun k hk => by
    refine Nat.le_trans (rowsOf_len _ _) ?_
    refine Nat.le_trans (Nat.pow_le_pow_left h2 k) ?_
    exact Nat.pow_le_pow_right (n := 5) (by decide) hk
  refine h_cons (s_set 2 (r := .d (.list ((rowsOf G.2.length 0).map lotD))) (e_lst1 (a_cons e_nilT a_nil)) sc_covers_with.nd) ?_
  refine h_cons (s_forI (fun _ => []) (fun k => [some (.d (spD G)), some (I_ (n : Nat)), some (.d (.list ((rowsOf G.2.length k).map lotD))), none, none, none]) 3 (xs := List.range n) (gg := nD) (i_rgN T.b_range (a_cons (e_var 1) a_nil) (by first | assumption | omega | decide)) sc_covers_with.nd (by repeat (first | exact trivial | refine ⟨.inr rfl, ?_⟩ | refine ⟨.inl rfl, ?_⟩)) (fun k j hkj => ?_)) ?_
  · have hk : k < n := by
      have := (List.getElem?_eq_some_iff.mp hkj).1
      rwa [List.length_range] at this
    have hl := lenB k (by omega)
    have hz : (rowsOf G.2.length k).length * (List.range G.2.length).length < sizeLine := by
      rw [List.length_range]
      exact Nat.lt_of_le_of_lt (Nat.mul_le_mul hl h2) (by decide)
    have hrow : ∀ a ∈ rowsOf G.2.length k, a.length + 1 ≤ sizeLine := fun a ha => by
      have := (rowsOf_mem ha).1
      exact small_le (by omega)
    refine hs_wk (h_one (s_setC2 [("row", 4), ("one", 5)] 4 5 2 (p := bigger) (f := fun row k => lotD (row ++ [k])) (xs := rowsOf G.2.length k) (ys := List.range G.2.length) (gg := lotD) (hh := nD) (i_lst (e_var 2)) sc_covers_with.nd (by first | assumption | omega | (rw [List.length_map]; exact hrow _ ‹_›) | decide) (fun a ha s H C cl fp => (i_rgN T.b_range (a_cons (r_calB (a_cons (r_ix (e_var 0) e_nat x_sp1) a_nil) f_lenNs T.b_len rfl) a_nil) (by first | assumption | omega | (rw [List.length_map]; exact hrow _ ‹_›) | decide))) (fun a ha b hb s H C cl fp => (PW.pt (w_or (k := a.isEmpty) (rt_cmp (e_var 4) e_nilT (c_lot0 hr.units)) (fun hx => w_or1 (t_eq (t_cmp c_gtN (e_var 5) (e_ix (c_last (l := a) (fun z => by rw [z] at hx; cases hx)) (e_var 4) (e_un u_neg e_nat))) (by unfold bigger; rw [hx]; rfl))) (fun hx => ⟨by unfold bigger; rw [hx]; rfl, rfl⟩)))) (fun a ha b hb hp s H C cl fp => (e_eq (e_tupS (a_star (e_var 4) (a_cons (e_var 5) a_nil)) (by first | assumption | omega | (rw [List.length_map]; exact hrow _ ‹_›) | decide)) (by unfold lotD; rw [List.map_append]; rfl))) (fun s H C cl fp => g_nm 4 sc_covers_with.nd) (fun s H C cl fp => g_nm 5 sc_covers_with.nd))) ?_
    refine ⟨.inr rfl, .inr rfl, .inr ?_, .inl rfl, .inl rfl, .inl rfl, trivial⟩
    show some (Sl.d (PyData.list ((rowsOf G.2.length k).flatMap fun row => ((List.range G.2.length).filter (bigger row)).map fun k => lotD (row ++ [k])))) = some (Sl.d (PyData.list ((grown G.2.length (rowsOf G.2.length k)).map lotD)))
    unfold grown
    rw [List.map_flatMap]
    congr 4
    funext row
    rw [List.map_map]
    rfl
  · rw [List.length_range]
    have hl := lenB n h3
    have hz : (rowsOf G.2.length n).length < sizeLine := Nat.lt_of_le_of_lt hl (by decide)
    exact h_one (s_ret (e_comp (comp_N [("row", 4)] 4 (p := fun row => (bare G row).isEmpty) (f := lotD) (xs := rowsOf G.2.length n) (i_lst (e_var 2)) sc_covers_with.nd (by first | assumption | omega | exact (rowsOf_mem ‹_›).2.1 _ ‹_› | exact (rowsOf_mem ‹_›).2.1 | exact Nat.lt_of_le_of_lt (Nat.le_trans (Nat.le_of_eq (rowsOf_mem ‹_›).1) h3) (by decide) | decide) (fun a ha s H C cl fp => s_one (rt_cmp (r_callP (f_bare_tellers T) (hr.mono (by decide)) (a_cons (e_var 0) (a_cons (e_var 4) a_nil)) (.mk (by first | assumption | omega | exact (rowsOf_mem ‹_›).2.1 _ ‹_› | exact (rowsOf_mem ‹_›).2.1 | exact Nat.lt_of_le_of_lt (Nat.le_trans (Nat.le_of_eq (rowsOf_mem ‹_›).1) h3) (by decide) | decide) (by first | assumption | omega | exact (rowsOf_mem ‹_›).2.1 _ ‹_› | exact (rowsOf_mem ‹_›).2.1 | exact Nat.lt_of_le_of_lt (Nat.le_trans (Nat.le_of_eq (rowsOf_mem ‹_›).1) h3) (by decide) | decide) (by first | assumption | omega | exact (rowsOf_mem ‹_›).2.1 _ ‹_› | exact (rowsOf_mem ‹_›).2.1 | exact Nat.lt_of_le_of_lt (Nat.le_trans (Nat.le_of_eq (rowsOf_mem ‹_›).1) h3) (by decide) | decide))) e_nilL (c_mL0 hr.units (by first | assumption | exact sh_lot | exact sh_nl | exact sh_ll | exact sh_lots | exact sh_int | exact sh_bool | exact sh_none | exact sh_nil | exact sh_nilT | exact sh_ones _)))) (fun a ha hp s H C cl fp => (e_var 4)) (fun s H C cl fp => g_nm 4 sc_covers_with.nd))))
end
end SG
set_option Elab.async false
set_option linter.all false
set_option maxRecDepth 100000
set_option maxHeartbeats 4000000
namespace SG
open PySem PySem.Spec PyProof.Rows L2
theorem with_lt {G : Sp2} {t k : Nat} (h : k ∈ with_ G t) : k < G.2.length := by
  obtain ⟨p, hp, rfl⟩ := List.mem_map.mp h
  have := List.snd_lt_of_mem_zipIdx (List.mem_filter.mp hp).1
  omega
theorem with_len (G : Sp2) (t : Nat) : (with_ G t).length ≤ G.2.length := by
  unfold with_
  rw [List.length_map]
  exact Nat.le_trans (List.length_filter_le _ _) (by rw [List.length_zipIdx]; exact Nat.le_refl _)
theorem wth_eq (G : Sp2) (t : Nat) : (some (Sl.d (PyData.list (List.map (fun p => nD p.2) (List.filter (fun p => decide (t ∈ p.1)) G.2.zipIdx)))) : Option Sl) = some (.d (.list ((with_ G t).map nD))) := by
  unfold with_
  rw [List.map_map]
  rfl
theorem bare_len (G : Sp2) (ns : List Nat) : (bare G ns).length ≤ G.1 := by
  unfold bare
  exact Nat.le_trans (List.length_filter_le _ _) (by rw [List.length_range]; exact Nat.le_refl _)
section
variable {P : Program} {w : World} {K : PySem.W.Frag} {mg : Str → Option Value} {base : Heap}
inductive F_does_stay_bare (d : Nat) : Spec
  | mk {G : Sp2} {n : Nat} {ns : List Nat} (h : ∀ k ∈ ns, k < G.2.length) (h1 : G.1 < 2 ^ 20) (h2 : ns.length + n ≤ 90) (h3 : G.2.length ≤ 70) (hd : n ≤ d) : F_does_stay_bare d [] [.d (spD G), I_ (n : Nat), .d (lotD ns)] (B_ (stays G n ns)) []
theorem sc_does_stay_bare : FnScope ["system", "size", "numbers", "some", "further", "one", "crew"] ["system", "size", "numbers"] (C8.fnScope s_does_stay_bare) := ⟨rfl, rfl, rfl, by decide +kernel, rfl, by decide +kernel, by decide +kernel⟩
theorem bi_does_stay_bare : BindsF "does_stay_bare" s_does_stay_bare ["system", "size", "numbers"] := fun _ _ _ _ _ _ us hl => match us, hl with | [_, _, _], _ => rfl
theorem f_dsb_step (T : Top K mg) (d : Nat) (ih : ∀ d', d = d' + 1 → Fn P w K mg base false (d' + 2) "does_stay_bare" (F_does_stay_bare d')) : Fn P w K mg base false (d + 2) "does_stay_bare" (F_does_stay_bare d) := by
  refine Fn.of T.s_does_stay_bare sc_does_stay_bare bi_does_stay_bare (by rintro _ _ _ _ ⟨⟩; rfl) fun f cdv A outer s H E hr W rs r W' hF => ?_
  cases hF with | @mk G n ns h h1 h2 h3 hd =>
  have hns : ns.length < sizeLine := Nat.lt_of_le_of_lt (show ns.length ≤ 90 by omega) (by decide)
  have hz : (G.2.zipIdx).length < sizeLine := by rw [List.length_zipIdx]; exact Nat.lt_of_le_of_lt h3 (by decide)
  have hr1 : Room 1 (bX P w K mg base _ _ _ f cdv A outer s H E).A := hr.mono (by omega)
  refine h_cons (s_set 3 (e_callP (f_bare_tellers T) (.mk h h1 hns) hr1 (a_cons (e_var 0) (a_cons (e_var 2) a_nil))) sc_does_stay_bare.nd) ?_
  cases hb : bare G ns with
  | nil =>
    have e : stays G n ns = false := by cases n <;> simp [stays, hb]
    rw [e]
    refine h_ifT (PW.pt (w_orT (t_eq (rt_cmp (e_var 3) e_nilL (c_mL0 hr.units (xs := ([] : List Nat)) (by first | assumption | exact sh_lot | exact sh_nl | exact sh_ll | exact sh_lots | exact sh_int | exact sh_bool | exact sh_none | exact sh_nil | exact sh_nilT | exact sh_ones _))) rfl))) ?_
    exact h_one (s_retE (r_cmp (e_var 3) e_nilL (c_mL0n hr.units (by first | assumption | exact sh_lot | exact sh_nl | exact sh_ll | exact sh_lots | exact sh_int | exact sh_bool | exact sh_none | exact sh_nil | exact sh_nilT | exact sh_ones _))) rfl)
  | cons t r =>
    cases n with
    | zero =>
      have e : stays G 0 ns = true := by simp [stays, hb]
      rw [e]
      refine h_ifT (PW.pt (w_orF (t_eq (rt_cmp (e_var 3) e_nilL (c_mL0 hr.units (xs := t :: r) (by first | assumption | exact sh_lot | exact sh_nl | exact sh_ll | exact sh_lots | exact sh_int | exact sh_bool | exact sh_none | exact sh_nil | exact sh_nilT | exact sh_ones _))) rfl) (w_or1 (t_eq (rt_cmp (e_var 1) e_nat c_eqN) rfl)))) ?_
      exact h_one (s_retE (r_cmp (e_var 3) e_nilL (c_mL0n hr.units (xs := t :: r) (by first | assumption | exact sh_lot | exact sh_nl | exact sh_ll | exact sh_lots | exact sh_int | exact sh_bool | exact sh_none | exact sh_nil | exact sh_nilT | exact sh_ones _))) rfl)
    | succ n =>
      have e : stays G (n + 1) ns = (with_ G t).all fun k => stays G n (ns ++ [k]) := by rw [stays, hb]
      rw [e]
      obtain ⟨d', rfl⟩ : ∃ d', d = d' + 1 := ⟨d - 1, by omega⟩
      have ihx := ih d' rfl
      refine h_ifF (PW.pt (w_orF (t_eq (rt_cmp (e_var 3) e_nilL (c_mL0 hr.units (xs := t :: r) (by first | assumption | exact sh_lot | exact sh_nl | exact sh_ll | exact sh_lots | exact sh_int | exact sh_bool | exact sh_none | exact sh_nil | exact sh_nilT | exact sh_ones _))) rfl) (w_or1 (t_eq (rt_cmp (e_var 1) e_nat c_eqN) (by simp))))) ?_
      refine h_cons (s_wk (s_setC 4 (comp_P [("one", 5), ("crew", 6)] 5 6 (p := fun p => decide (t ∈ p.1)) (f := fun p => nD p.2) (xs := G.2.zipIdx) (i_enT T.b_enumerate (a_cons (r_ix (e_var 0) e_nat x_sp1) a_nil)) sc_does_stay_bare.nd (by first | assumption | omega | (simp; done) | decide) (fun a ha s H C cl fp => s_one (t_cmp c_inN (e_ix (x_nl (ss := t :: r) (by simp)) (e_var 3) e_nat) (e_var 6))) (fun a ha hp s H C cl fp => (e_var 5)) (fun s H C cl fp => g_pr 5 6 sc_does_stay_bare.nd))) (ρ2 := [some (.d (spD G)), some (I_ ((n + 1 : Nat) : Int)), some (.d (lotD ns)), none, some (.d (.list ((with_ G t).map nD))), none, none]) ⟨.inr rfl, .inr rfl, .inr rfl, .inl rfl, .inr (wth_eq G t), .inr rfl, .inr rfl, trivial⟩) ?_
      have hwl : (with_ G t).length < sizeLine := Nat.lt_of_le_of_lt (Nat.le_trans (with_len G t) h3) (by decide)
      have hr2 : Room (d' + 2) (bX P w K mg base _ _ _ f cdv A outer s H E).A := hr
      have hk : ∀ k ∈ with_ G t, ∀ j ∈ ns ++ [k], j < G.2.length := fun k hk j hj => by
        rcases List.mem_append.mp hj with z | z
        · exact h j z
        · have : j = k := by simpa using z
          rw [this]; exact with_lt hk
      exact h_one (s_ret (r_calB (a_cons (e_comp (comp_M [("one", 5)] 5 (f := fun k => PyData.bool (stays G n (ns ++ [k]))) (xs := with_ G t) (i_lst (e_var 4)) sc_does_stay_bare.nd (by first | assumption | omega | (rw [List.length_map]; exact small_le (by omega)) | decide) (fun a ha s H C cl fp => (r_callP ihx hr2 (a_cons (e_var 0) (a_cons (r_bin (e_var 1) e_nat (b_subN (i := n + 1) (j := 1) (by omega))) (a_cons (e_to (.d (lotD (ns ++ [a]))) (e_tupS (a_star (e_var 2) (a_cons (e_var 5) a_nil)) (by first | assumption | omega | (rw [List.length_map]; exact small_le (by omega)) | decide)) (by unfold lotD; rw [List.map_append]; rfl)) a_nil))) (.mk (n := n) (hk a ha) h1 (by simp; omega) h3 (by omega)))) (fun s H C cl fp => g_nm 5 sc_does_stay_bare.nd))) a_nil) f_allM T.b_all rfl))
theorem f_does_stay_bare (T : Top K mg) (d : Nat) : Fn P w K mg base false (d + 2) "does_stay_bare" (F_does_stay_bare d) := by
  induction d with
  | zero => exact f_dsb_step T 0 fun d' e => by omega
  | succ d ih => exact f_dsb_step T (d + 1) fun d' e => (show d = d' from by omega) ▸ ih
end
end SG
set_option Elab.async false
set_option linter.all false
set_option maxRecDepth 100000
set_option maxHeartbeats 4000000
namespace SG
open PySem PySem.Spec PyProof.Rows L2
section
variable {P : Program} {w : World} {K : PySem.W.Frag} {mg : Str → Option Value} {base : Heap}
inductive F_is_lot : Spec
  | mk {p : Int} {d : PyData} (h : Sh d) (hz : ∀ ds, d = .tuple ds → ds.length < sizeLine) : F_is_lot [] [I_ p, .d d] (B_ (isLot p d)) []
theorem toI_map {ds : List PyData} (h : ∀ d ∈ ds, ∃ i, d = .int i) : ds = (ds.map toI).map .int := by
  rw [List.map_map]
  refine ((List.map_id ds).symm.trans (List.map_congr_left fun d hd => ?_))
  obtain ⟨i, rfl⟩ := h d hd
  rfl
theorem isInt_int {d : PyData} {a b : Int} (h : isInt d a b = true) : ∃ i, d = .int i := by cases d <;> first | exact ⟨_, rfl⟩ | cases h
theorem sc_is_lot : FnScope ["points", "thing", "one", "other"] ["points", "thing"] (C8.fnScope s_is_lot) := ⟨rfl, rfl, rfl, by decide +kernel, rfl, by decide +kernel, by decide +kernel⟩
theorem f_is_lot (T : Top K mg) : Fn P w K mg base false 2 "is_lot" F_is_lot := by
  refine Fn.of T.s_is_lot sc_is_lot (fun _ _ _ _ _ _ us hl => match us, hl with | [_, _], _ => rfl) (by rintro _ _ _ _ ⟨⟩ <;> rfl) fun f cdv A outer s H E hr W rs r W' hF => ?_
  cases hF with | @mk p d h hz =>
  by_cases ht : ∃ ds, d = .tuple ds
  · obtain ⟨ds, rfl⟩ := ht
    have hz' := hz ds rfl
    have hs : ∀ x ∈ ds, Sh x := sh_tup h
    refine h_ifR (k := !(ds.all fun d => isInt d 0 (p - 1))) (PW.pt (w_orF (t_notF (t_val (r_calB (a_cons (e_var 1) (a_cons (e_bty T.b_tuple rfl) a_nil)) (f_isTup (Sh.nd (by first | assumption | omega | exact hs _ ‹_› | decide))) T.b_isinstance rfl))) (w_or1 (t_not (t_val (r_calB (a_cons (e_comp (comp_M [("one", 2)] 2 (f := fun d => PyData.bool (isInt d 0 (p - ((1 : Nat) : Int)))) (xs := ds) (i_id (i_tup (e_var 1))) sc_is_lot.nd (by first | assumption | omega | exact hs _ ‹_› | decide) (fun a ha s H C cl fp => (r_callP (f_is_integer T) (hr.mono (by decide)) (a_cons (e_var 2) (a_cons e_nat (a_cons (r_bin (e_var 0) e_nat b_sub) a_nil))) (.mk (by first | assumption | omega | exact hs _ ‹_› | decide)))) (fun s H C cl fp => g_nm 2 sc_is_lot.nd))) a_nil) f_allM T.b_all rfl)))))) (fun h1 => h_one (s_retE e_bl ?_)) (fun h2 => ?_)
    · have e : (ds.all fun d => isInt d 0 (p - 1)) = false := by simpa using h1
      show B_ false = B_ (_ && _)
      rw [e]
      rfl
    · have e : (ds.all fun d => isInt d 0 (p - 1)) = true := by simpa using h2
      have hi : ∀ d ∈ ds, ∃ i, d = .int i := fun d hd => isInt_int (List.all_eq_true.mp e d hd)
      obtain ⟨ns, rfl⟩ : ∃ ns : List Int, ds = ns.map .int := ⟨_, toI_map hi⟩
      have en : (ns.map PyData.int).map toI = ns := by rw [List.map_map]; exact List.map_id _
      have hz2 : (ns.zip (ns.drop 1)).length < sizeLine := by
        rw [List.length_map] at hz'
        rw [List.length_zip]
        omega
      refine h_one (s_retE (r_calB (a_cons (e_comp (comp_PM [("one", 2), ("other", 3)] 2 3 (f := fun p => PyData.bool (decide (p.1 < p.2))) (xs := ns.zip (ns.drop 1)) (i_zT T.b_zip (a_cons (e_var 1) (a_cons (e_sl s_dropM (e_var 1) (p_some e_nat) p_none) a_nil))) sc_is_lot.nd (by first | assumption | omega | exact hs _ ‹_› | decide) (fun a ha s H C cl fp => (r_cmp (e_var 2) (e_var 3) c_lt)) (fun s H C cl fp => g_pr 2 3 sc_is_lot.nd))) a_nil) f_allM T.b_all rfl) ?_)
      show B_ _ = B_ (_ && asc _)
      rw [e, en]
      rfl
  · have e : isLot p d = false := by cases d <;> first | rfl | exact absurd ⟨_, rfl⟩ ht
    rw [e]
    refine h_ifT (PW.pt (w_orT (t_notT (t_val (k := false) (e_eq (r_calB (a_cons (e_var 1) (a_cons (e_bty T.b_tuple rfl) a_nil)) (f_isTup (Sh.nd (by first | assumption | omega | exact hs _ ‹_› | decide))) T.b_isinstance rfl) ?_))))) (h_one (s_ret e_bl))
    cases d <;> first | rfl | exact absurd ⟨_, rfl⟩ ht
end
end SG
set_option Elab.async false
set_option linter.all false
set_option maxRecDepth 100000
set_option maxHeartbeats 4000000
namespace SG
open PySem PySem.Spec PyProof.Rows L2
theorem geL_lex : ∀ a b : List Int, geL a b = !HT.lexLt a b
  | [], [] => by simp [geL, HT.lexLt]
  | _ :: _, [] => by simp [geL, HT.lexLt]
  | [], _ :: _ => by simp [geL, HT.lexLt]
  | x :: xs, y :: ys => by
    rw [HT.lexLt_cons]
    unfold geL
    by_cases h : x = y
    · rw [if_pos h, if_pos h]; exact geL_lex xs ys
    · rw [if_neg h, if_neg h, Bool.eq_iff_iff]; simp
theorem asc_lot : ∀ {l : List Nat}, l.Pairwise (· < ·) → asc (castL l) = true
  | [], _ => rfl
  | [a], _ => rfl
  | a :: b :: l, h => by
    have h2 := List.pairwise_cons.mp h
    have ih := asc_lot (l := b :: l) h2.2
    have := h2.1 b List.mem_cons_self
    unfold asc castL at ih ⊢
    simp only [List.map_cons, List.drop_succ_cons, List.drop_zero, List.zip_cons_cons, List.all_cons, Bool.and_eq_true, decide_eq_true_eq] at ih ⊢
    exact ⟨by omega, ih⟩
theorem isLot_lot {l : List Nat} {n : Nat} (h1 : l.Pairwise (· < ·)) (h2 : ∀ p ∈ l, p < n) : isLot (n : Int) (lotD l) = true := by
  unfold lotD isLot
  have e1 : ((l.map nD).all fun d => isInt d 0 ((n : Int) - 1)) = true := by
    rw [List.all_map, List.all_eq_true]
    intro p hp
    have := h2 p hp
    show (decide ((0 : Int) ≤ (p : Int)) && decide ((p : Int) ≤ (n : Int) - 1)) = true
    simp; omega
  have e2 : (l.map nD).map toI = castL l := by rw [List.map_map]; rfl
  show (_ && asc _) = true
  rw [e1, e2, asc_lot h1]
  rfl
theorem sh_sp {S : Sp2} : Sh (spD S) := by
  have h := shaped_iff.mp (sh_lots (ls := S.2))
  refine shaped_iff.mpr ⟨?_, ?_⟩
  · unfold spD
    simp only [PyData.canLay0, PyData.canLayAll0, h.1, Bool.and_self]
  · have h2 := (can_lots S.2).2
    unfold spD lotsD
    simp only [PyData.depth, PyData.depthAll]
    omega
theorem few_sp {S : Sp2} (h : OkSp S) : Few S.2 := by
  refine ⟨by have := h.n; omega, fun l hl => ?_, fun l hl p hp => by have := h.lt l hl p hp; have := h.le; omega⟩
  have hs : l ⊆ List.range 9 := fun p hp => List.mem_range.mpr (by have := h.lt l hl p hp; have := h.le; omega)
  have := List.Nodup.length_le_of_subset ((h.asc l hl).imp fun {a b} z => Nat.ne_of_lt z) hs
  rwa [List.length_range] at this
section
variable {X : Cx}
theorem c_geN2 (hu : X.A.units + 64 < cLine) {a b : List Nat} : CmpOk X .GtE (.d (lotD a)) (.d (lotD b)) (!ltN a b) := by
  have := c_geT hu (ns := castL a) (ms := castL b)
  rw [geL_lex] at this
  unfold lotD
  rw [map_nD, map_nD]
  exact this
end
section
variable {P : Program} {w : World} {K : PySem.W.Frag} {mg : Str → Option Value} {base : Heap}
inductive F_need_system : Spec
  | mk {G : Sp2} (h : OkSys G) : F_need_system [] [.d (spD G)] (.d (spD G)) []
theorem sc_need_system : FnScope ["thing", "tellers", "gangs", "number", "crew", "others", "other"] ["thing"] (C8.fnScope s_need_system) := ⟨rfl, rfl, rfl, by decide +kernel, rfl, by decide +kernel, by decide +kernel⟩
theorem f_need_system (T : Top K mg) : Fn P w K mg base false 3 "need_system" F_need_system := by
  refine Fn.of T.s_need_system sc_need_system (fun _ _ _ _ _ _ us hl => match us, hl with | [_], _ => rfl) (by rintro _ _ _ _ ⟨⟩ <;> rfl) fun f cdv A outer s H E hr W rs r W' hF => ?_
  cases hF with | @mk G h =>
  have hp := h.pos
  have hl := h.le
  have hn := h.n
  have h1 := h.ne
  refine h_cons (s_ifF (PW.pt (w_orF (t_notF (t_val (r_calB (a_cons (e_var 0) (a_cons (e_bty T.b_tuple rfl) a_nil)) f_isTupT T.b_isinstance rfl))) (w_orF (t_eq (rt_cmp (r_calB (a_cons (e_var 0) a_nil) f_lenT T.b_len rfl) e_nat c_neN) rfl) (w_or1 (t_notF (t_val (e_eq (r_callP (f_is_integer T) (hr.mono (by decide)) (a_cons (r_ix (e_var 0) e_nat x_sp0) (a_cons e_nat (a_cons (e_gnat T.c_MOST_TELLERS) a_nil))) (.mk sh_int)) ?_))))))) h_nil) ?_
  · show B_ (decide (((1 : Nat) : Int) ≤ (G.1 : Int)) && decide ((G.1 : Int) ≤ ((8 : Nat) : Int))) = B_ true
    rw [decide_eq_true (by omega), decide_eq_true (by omega)]
    rfl
  refine h_cons (s_unpack 1 2 (e_var 0) (g_pr 1 2 sc_need_system.nd)) ?_
  refine h_cons (s_ifF (PW.pt (w_orF (t_notF (t_val (r_calB (a_cons (e_var 2) (a_cons (e_bty T.b_tuple rfl) a_nil)) f_isTupT T.b_isinstance rfl))) (w_or1 (t_notF (t_eq (t_chainP c_le c_le e_nat (r_calB (a_cons (e_var 2) a_nil) f_lenNs T.b_len rfl) (e_gnat T.c_MOST_GANGS)) ?_))))) h_nil) ?_
  · show (decide (((1 : Nat) : Int) ≤ (G.2.length : Int)) && decide ((G.2.length : Int) ≤ ((70 : Nat) : Int))) = true
    rw [decide_eq_true (by omega), decide_eq_true (by omega)]
    rfl
  have few : Few G.2 := ⟨by omega, fun l hl => by
    have hs : l ⊆ List.range 9 := fun p hp => List.mem_range.mpr (by have := h.lt l hl p hp; omega)
    have := List.Nodup.length_le_of_subset ((h.asc l hl).imp fun {a b} z => Nat.ne_of_lt z) hs
    rwa [List.length_range] at this, fun l hl p hp => by have := h.lt l hl p hp; omega⟩
  refine h_cons (s_forP (fun _ => True) (fun (_ : Unit) _ => ()) (fun _ => []) (fun _ => [some (.d (spD G)), some (I_ (G.1 : Nat)), some (.d (lotsD G.2)), none, none, none, none]) () 3 4 (xs := G.2.zipIdx) (g1 := fun a => nD a.2) (g2 := fun a => lotD a.1) (i_enT T.b_enumerate (a_cons (e_var 2) a_nil)) trivial (by repeat (first | exact trivial | refine ⟨.inr rfl, ?_⟩ | refine ⟨.inl rfl, ?_⟩)) (fun _ _ _ _ => trivial) (fun _ a ha _ => ?_) (g_pr 3 4 sc_need_system.nd)) ?_
  · obtain ⟨l, i⟩ := a
    have hi : G.2[i]? = some l := by simpa using List.mem_zipIdx_iff_getElem?.mp ha
    have ml : l ∈ G.2 := List.mem_of_getElem? hi
    have hil : i < G.2.length := (List.getElem?_eq_some_iff.mp hi).1
    have e1 : isLot (G.1 : Int) (lotD l) = true := isLot_lot (h.asc l ml) (h.lt l ml)
    have hz := few.l' ml
    refine hs_wk (h_one (s_ifF (PW.pt (w_orF (t_notF (t_val (e_eq (r_callP (f_is_lot T) (hr.mono (by decide)) (a_cons (e_var 1) (a_cons (e_var 4) a_nil)) (.mk sh_lot (lot_hz (by first | assumption | omega | decide)))) (by rw [e1])))) (w_or1 ?_))) h_nil)) (by repeat (first | exact trivial | refine ⟨.inr rfl, ?_⟩ | refine ⟨.inl rfl, ?_⟩))
    by_cases h0 : i = 0
    · subst h0
      exact PW.pt (w_andF (t_eq (rt_cmp (e_var 3) e_nat c_gtN) rfl))
    · have h0' : 1 ≤ i := by omega
      have e2 : ltN (G.2.getD (i - 1) []) l = true := by
        have hs := List.pairwise_iff_getElem.mp h.srt (i - 1) i (by omega) hil (by omega)
        have e3 : G.2.getD (i - 1) [] = G.2[i - 1] := by rw [List.getD_eq_getElem?_getD, List.getElem?_eq_getElem (by omega)]; rfl
        have e4 : l = G.2[i] := by rw [List.getElem?_eq_getElem hil] at hi; exact (Option.some.inj hi).symm
        rw [e3, e4]
        exact hs
      exact PW.pt (w_andT (t_eq (rt_cmp (e_var 3) e_nat c_gtN) (by simp; omega)) (w_and1 (t_eq (rt_cmp (r_ix (e_var 2) (r_bin (e_var 3) e_nat (b_subN (i := i) (j := 1) h0')) (x_lots (by omega))) (e_var 4) (c_geN2 hr.units)) (by rw [e2]; rfl))))
  refine h_cons (s_forP (fun _ => True) (fun (_ : Unit) _ => ()) (fun _ => []) (fun _ => [some (.d (spD G)), some (I_ (G.1 : Nat)), some (.d (lotsD G.2)), none, none, none, none]) () 3 4 (xs := G.2.zipIdx) (g1 := fun a => nD a.2) (g2 := fun a => lotD a.1) (i_enT T.b_enumerate (a_cons (e_var 2) a_nil)) trivial (by repeat (first | exact trivial | refine ⟨.inr rfl, ?_⟩ | refine ⟨.inl rfl, ?_⟩)) (fun _ _ _ _ => trivial) (fun _ a ha _ => ?_) (g_pr 3 4 sc_need_system.nd)) ?_
  · obtain ⟨l, i⟩ := a
    have hi : G.2[i]? = some l := by simpa using List.mem_zipIdx_iff_getElem?.mp ha
    have ml : l ∈ G.2 := List.mem_of_getElem? hi
    have hil : i < G.2.length := (List.getElem?_eq_some_iff.mp hi).1
    let os := G.2.take i ++ G.2.drop (i + 1)
    have hos : ∀ o ∈ os, o ∈ G.2 ∧ (∃ p ∈ l, p ∉ o) ∧ ∃ p ∈ o, p ∉ l := fun o ho => by
      have e4 : l = G.2[i] := by rw [List.getElem?_eq_getElem hil] at hi; exact (Option.some.inj hi).symm
      rcases List.mem_append.mp ho with z | z
      · obtain ⟨j, hj, e⟩ := List.mem_iff_getElem.mp z
        rw [List.length_take] at hj
        rw [List.getElem_take] at e
        have := List.pairwise_iff_getElem.mp h.anti j i (by omega) hil (by omega)
        rw [e, ← e4] at this
        exact ⟨List.mem_of_mem_take z, this.2, this.1⟩
      · obtain ⟨j, hj, e⟩ := List.mem_iff_getElem.mp z
        rw [List.length_drop] at hj
        rw [List.getElem_drop] at e
        have := List.pairwise_iff_getElem.mp h.anti i (i + 1 + j) hil (by omega) (by omega)
        rw [e, ← e4] at this
        exact ⟨List.mem_of_mem_drop z, this.1, this.2⟩
    have los : os.length < sizeLine := by
      show (G.2.take i ++ G.2.drop (i + 1)).length < _
      rw [List.length_append, List.length_take, List.length_drop]
      exact Nat.lt_of_le_of_lt (show _ ≤ 5 by omega) (by decide)
    have hz := few.l' ml
    have hzo : ∀ o ∈ os, o.length < sizeLine := fun o ho => few.l' (hos o ho).1
    have hany : (os.any fun o => (o.all fun t => decide (t ∈ l)) || (l.all fun t => decide (t ∈ o))) = false := by
      rw [List.any_eq_false]
      intro o ho
      obtain ⟨_, ⟨p, hp1, hp2⟩, q, hq1, hq2⟩ := hos o ho
      have a1 : (o.all fun t => decide (t ∈ l)) = false := List.all_eq_false.mpr ⟨q, hq1, by simp [hq2]⟩
      have a2 : (l.all fun t => decide (t ∈ o)) = false := List.all_eq_false.mpr ⟨p, hp1, by simp [hp2]⟩
      rw [a1, a2]
      decide
    refine hs_wk (h_cons (s_set 5 (e_to (.d (lotsD os)) (r_bin (e_sl s_takeM (e_var 2) p_none (p_some (e_var 3))) (e_sl s_dropM (e_var 2) (p_some (r_bin (e_var 3) e_nat b_addN)) p_none) (b_catT (by first | assumption | omega | (simp only [List.length_map, List.length_take, List.length_drop]; exact small_le (by omega)) | exact hzo _ ‹_› | decide))) (by unfold lotsD; rw [List.map_append])) sc_need_system.nd) (h_one (s_ifF (t_eq (t_val (r_calB (a_cons (e_comp (comp_M [("other", 6)] 6 (f := fun o => PyData.bool ((o.all fun t => decide (t ∈ l)) || (l.all fun t => decide (t ∈ o)))) (xs := os) (i_tup (e_var 5)) sc_need_system.nd (by first | assumption | omega | (simp only [List.length_map, List.length_take, List.length_drop]; exact small_le (by omega)) | exact hzo _ ‹_› | decide) (fun a ha s H C cl fp => (v_orP (r_callP (f_has_all T) (hr.mono (by decide)) (a_cons (e_var 4) (a_cons (e_var 6) a_nil)) (.mk (by first | assumption | omega | (simp only [List.length_map, List.length_take, List.length_drop]; exact small_le (by omega)) | exact hzo _ ‹_› | decide))) (v_one (r_callP (f_has_all T) (hr.mono (by decide)) (a_cons (e_var 6) (a_cons (e_var 4) a_nil)) (.mk (by first | assumption | omega | (simp only [List.length_map, List.length_take, List.length_drop]; exact small_le (by omega)) | exact hzo _ ‹_› | decide)))))) (fun s H C cl fp => g_nm 6 sc_need_system.nd))) a_nil) f_anyM T.b_any rfl)) hany) h_nil))) (by repeat (first | exact trivial | refine ⟨.inr rfl, ?_⟩ | refine ⟨.inl rfl, ?_⟩))
  exact h_one (s_ret (e_var 0))
end
end SG
set_option Elab.async false
set_option linter.all false
set_option maxRecDepth 100000
set_option maxHeartbeats 4000000
namespace SG
open PySem PySem.Spec PyProof.Rows L2
theorem mask_shift : ∀ {l : List Nat} {b : Nat}, l.Pairwise (· < ·) → (∀ p ∈ l, b ≤ p) → ∃ k, mask l = 2 ^ b * k ∧ ∀ i, k.testBit i = decide (b + i ∈ l)
  | [], b, _, _ => ⟨0, by simp [mask], fun i => by simp⟩
  | a :: l, b, hp, hb => by
    obtain ⟨h1, h2⟩ := List.pairwise_cons.mp hp
    obtain ⟨k, e1, e2⟩ := mask_shift (l := l) (b := a + 1) h2 fun p hp => h1 p hp
    have hba := hb a List.mem_cons_self
    refine ⟨2 ^ (a - b) * (2 * k + 1), ?_, fun i => ?_⟩
    · have e3 : mask (a :: l) = 2 ^ a + mask l := rfl
      have e4 : 2 ^ a = 2 ^ b * 2 ^ (a - b) := by rw [← Nat.pow_add]; congr 1; omega
      rw [e3, e1, Nat.pow_succ, ← Nat.mul_assoc, ← e4, Nat.mul_add, Nat.mul_one, ← Nat.mul_assoc]
      omega
    · rw [Nat.testBit_two_pow_mul]
      by_cases hi : a - b ≤ i
      · rw [decide_eq_true hi, Bool.true_and]
        obtain ⟨j, rfl⟩ : ∃ j, i = (a - b) + j := ⟨i - (a - b), by omega⟩
        have e5 : a - b + j - (a - b) = j := by omega
        rw [e5]
        cases j with
        | zero =>
          have e6 : b + (a - b + 0) = a := by omega
          rw [e6]
          simp [Nat.testBit_zero]
        | succ j =>
          have e6 : b + (a - b + (j + 1)) = a + 1 + j := by omega
          rw [e6, Nat.testBit_succ]
          have e7 : (2 * k + 1) / 2 = k := by omega
          rw [e7, e2 j, Bool.eq_iff_iff]
          have : a + 1 + j ≠ a := by omega
          simp [this]
      · rw [decide_eq_false hi, Bool.false_and]
        have h3 : b + i ≠ a := by omega
        have h4 : b + i ∉ l := fun z => by have := h1 _ z; omega
        simp [h3, h4]
theorem mask_bit {l : List Nat} (h : l.Pairwise (· < ·)) (i : Nat) : (mask l).testBit i = decide (i ∈ l) := by
  obtain ⟨k, e1, e2⟩ := mask_shift (b := 0) h fun p _ => Nat.zero_le p
  rw [Nat.pow_zero, Nat.one_mul] at e1
  rw [e1, e2 i, Nat.zero_add]
theorem mask_and {a b : List Nat} (ha : a.Pairwise (· < ·)) (hb : b.Pairwise (· < ·)) : mask a &&& mask b = mask (a.filter fun p => decide (p ∈ b)) := by
  refine Nat.eq_of_testBit_eq fun i => ?_
  rw [Nat.testBit_and, mask_bit ha, mask_bit hb, mask_bit (ha.sublist List.filter_sublist), Bool.eq_iff_iff]
  simp [List.mem_filter]
theorem range_lt (n : Nat) : (List.range n).Pairwise (· < ·) := List.pairwise_lt_range
theorem mask_range (n : Nat) : mask (List.range n) = 2 ^ n - 1 := by
  refine Nat.eq_of_testBit_eq fun i => ?_
  rw [mask_bit (range_lt n), Nat.testBit_two_pow_sub_one]
  simp
section
variable {P : Program} {w : World} {K : PySem.W.Frag} {mg : Str → Option Value} {base : Heap}
inductive F_need_space : Spec
  | mk {S : Sp2} (h : OkSp S) : F_need_space [] [.d (spD S)] (.d (spD S)) []
theorem sc_need_space : FnScope ["thing", "points", "lots", "number", "lot", "masks", "known", "mask", "other"] ["thing"] (C8.fnScope s_need_space) := ⟨rfl, rfl, rfl, by decide +kernel, rfl, by decide +kernel, by decide +kernel⟩
theorem f_need_space (T : Top K mg) : Fn P w K mg base false 3 "need_space" F_need_space := by
  refine Fn.of T.s_need_space sc_need_space (fun _ _ _ _ _ _ us hl => match us, hl with | [_], _ => rfl) (by rintro _ _ _ _ ⟨⟩ <;> rfl) fun f cdv A outer s H E hr W rs r W' hF => ?_
  cases hF with | @mk G h =>
  have hp := h.pos
  have hl := h.le
  have hn := h.n
  refine h_cons (s_ifF (PW.pt (w_orF (t_notF (t_val (r_calB (a_cons (e_var 0) (a_cons (e_bty T.b_tuple rfl) a_nil)) f_isTupT T.b_isinstance rfl))) (w_orF (t_eq (rt_cmp (r_calB (a_cons (e_var 0) a_nil) f_lenT T.b_len rfl) e_nat c_neN) rfl) (w_or1 (t_notF (t_val (e_eq (r_callP (f_is_integer T) (hr.mono (by decide)) (a_cons (r_ix (e_var 0) e_nat x_sp0) (a_cons e_nat (a_cons (e_gnat T.c_MOST_POINTS) a_nil))) (.mk sh_int)) ?_))))))) h_nil) ?_
  · show B_ (decide (((1 : Nat) : Int) ≤ (G.1 : Int)) && decide ((G.1 : Int) ≤ ((9 : Nat) : Int))) = B_ true
    rw [decide_eq_true (by omega), decide_eq_true (by omega)]
    rfl
  refine h_cons (s_unpack 1 2 (e_var 0) (g_pr 1 2 sc_need_space.nd)) ?_
  refine h_cons (s_ifF (t_notF (t_val (r_calB (a_cons (e_var 2) (a_cons (e_bty T.b_tuple rfl) a_nil)) f_isTupT T.b_isinstance rfl))) h_nil) ?_
  have few : Few G.2 := few_sp h
  refine h_cons (s_forP (fun _ => True) (fun (_ : Unit) _ => ()) (fun _ => []) (fun _ => [some (.d (spD G)), some (I_ (G.1 : Nat)), some (.d (lotsD G.2)), none, none, none, none, none, none]) () 3 4 (xs := G.2.zipIdx) (g1 := fun a => nD a.2) (g2 := fun a => lotD a.1) (i_enT T.b_enumerate (a_cons (e_var 2) a_nil)) trivial (by repeat (first | exact trivial | refine ⟨.inr rfl, ?_⟩ | refine ⟨.inl rfl, ?_⟩)) (fun _ _ _ _ => trivial) (fun _ a ha _ => ?_) (g_pr 3 4 sc_need_space.nd)) ?_
  · obtain ⟨l, i⟩ := a
    have hi : G.2[i]? = some l := by simpa using List.mem_zipIdx_iff_getElem?.mp ha
    have ml : l ∈ G.2 := List.mem_of_getElem? hi
    have hil : i < G.2.length := (List.getElem?_eq_some_iff.mp hi).1
    have e1 : isLot (G.1 : Int) (lotD l) = true := isLot_lot (h.asc l ml) (h.lt l ml)
    have hz := few.l' ml
    refine hs_wk (h_one (s_ifF (PW.pt (w_orF (t_notF (t_val (e_eq (r_callP (f_is_lot T) (hr.mono (by decide)) (a_cons (e_var 1) (a_cons (e_var 4) a_nil)) (.mk sh_lot (lot_hz (by first | assumption | omega | decide)))) (by rw [e1])))) (w_or1 ?_))) h_nil)) (by repeat (first | exact trivial | refine ⟨.inr rfl, ?_⟩ | refine ⟨.inl rfl, ?_⟩))
    by_cases h0 : i = 0
    · subst h0
      exact PW.pt (w_andF (t_eq (rt_cmp (e_var 3) e_nat c_gtN) rfl))
    · have h0' : 1 ≤ i := by omega
      have e2 : ltN (G.2.getD (i - 1) []) l = true := by
        have hs := List.pairwise_iff_getElem.mp h.srt (i - 1) i (by omega) hil (by omega)
        have e3 : G.2.getD (i - 1) [] = G.2[i - 1] := by rw [List.getD_eq_getElem?_getD, List.getElem?_eq_getElem (by omega)]; rfl
        have e4 : l = G.2[i] := by rw [List.getElem?_eq_getElem hil] at hi; exact (Option.some.inj hi).symm
        rw [e3, e4]
        exact hs
      exact PW.pt (w_andT (t_eq (rt_cmp (e_var 3) e_nat c_gtN) (by simp; omega)) (w_and1 (t_eq (rt_cmp (r_ix (e_var 2) (r_bin (e_var 3) e_nat (b_subN (i := i) (j := 1) h0')) (x_lots (by omega))) (e_var 4) (c_geN2 hr.units)) (by rw [e2]; rfl))))
  refine h_cons (s_wk (s_setC 5 (comp_M [("lot", 4)] 4 (f := fun l => nD (mask l)) (xs := G.2) (i_tup (e_var 2)) sc_need_space.nd (by first | assumption | omega | exact few.n' | exact few.l' ‹_› | exact (fun p hp => by have := few.p a ha p hp; omega) | decide) (fun a ha s H C cl fp => (r_callP (f_mask_of T) (hr.mono (by decide)) (a_cons (e_var 4) a_nil) (.mk (by first | assumption | omega | exact few.n' | exact few.l' ‹_› | exact (fun p hp => by have := few.p a ha p hp; omega) | decide) (by first | assumption | omega | exact few.n' | exact few.l' ‹_› | exact (fun p hp => by have := few.p a ha p hp; omega) | decide)))) (fun s H C cl fp => g_nm 4 sc_need_space.nd))) (ρ2 := [some (.d (spD G)), some (I_ (G.1 : Nat)), some (.d (lotsD G.2)), none, none, some (.d (.list ((G.2.map mask).map nD))), none, none, none]) ⟨.inr rfl, .inr rfl, .inr rfl, .inr rfl, .inr rfl, .inr (by rw [List.map_map]; rfl), .inr rfl, .inr rfl, .inr rfl, trivial⟩) ?_
  have hml : (G.2.map mask).length < sizeLine := by rw [List.length_map]; exact few.n'
  refine h_cons (s_set 6 (dcomp_N [("mask", 7)] 7 (p := fun _ => true) (f := fun m => m) (xs := G.2.map mask) (i_lst (e_var 5)) sc_need_space.nd (by first | assumption | omega | exact few.n' | exact few.l' ‹_› | exact (fun p hp => by have := few.p a ha p hp; omega) | decide) (fun a ha s H C cl fp => s_nil) (fun a ha hp s H C cl fp => (e_var 7)) (fun ρ' s H C cl fp => e_bl) (fun s H C cl fp => g_nm 7 sc_need_space.nd)) sc_need_space.nd) ?_
  have kmem : ∀ m, m ∈ ddN (((G.2.map mask).filter fun _ => true).map fun m => m) ↔ m ∈ G.2.map mask := fun m => by
    rw [ddN_mem, ft_all]
    simp
  generalize ddN (((G.2.map mask).filter fun _ => true).map fun m => m) = kn at kmem ⊢
  have k0 : (0 : Nat) ∈ kn := (kmem 0).mpr (List.mem_map.mpr ⟨[], h.nil, rfl⟩)
  have k1 : (2 ^ G.1 - 1) ∈ kn := (kmem _).mpr (List.mem_map.mpr ⟨_, h.full, mask_range _⟩)
  have h2 : 1 ≤ 2 ^ G.1 := Nat.one_le_two_pow
  refine h_cons (s_ifF (PW.pt (w_orF (t_eq (rt_cmp e_nat (e_var 6) (c_niK hr.units (k := 0) (ks := kn))) (by simp [k0])) (w_or1 (t_eq (rt_cmp (r_bin (r_bin e_nat (e_var 1) (b_shlN (by first | assumption | omega | exact few.n' | exact few.l' ‹_› | exact (fun p hp => by have := few.p a ha p hp; omega) | decide))) e_nat (b_subN (by first | assumption | omega | exact few.n' | exact few.l' ‹_› | exact (fun p hp => by have := few.p a ha p hp; omega) | decide))) (e_var 6) (c_niK hr.units (k := 2 ^ G.1 - 1) (ks := kn))) (by simp [k1]))))) h_nil) ?_
  have hmz : (G.2.map mask).zipIdx.length < sizeLine := by rw [List.length_zipIdx]; exact hml
  refine h_cons (s_forP (fun _ => True) (fun (_ : Unit) _ => ()) (fun _ => []) (fun _ => [some (.d (spD G)), some (I_ (G.1 : Nat)), some (.d (lotsD G.2)), none, none, some (.d (.list ((G.2.map mask).map nD))), some (setD kn), none, none]) () 3 7 (xs := (G.2.map mask).zipIdx) (g1 := fun a => nD a.2) (g2 := fun a => nD a.1) (i_enL T.b_enumerate (a_cons (e_var 5) a_nil)) trivial (by repeat (first | exact trivial | refine ⟨.inr rfl, ?_⟩ | refine ⟨.inl rfl, ?_⟩)) (fun _ _ _ _ => trivial) (fun _ a ha _ => ?_) (g_pr 3 7 sc_need_space.nd)) ?_
  · obtain ⟨m, i⟩ := a
    have hi : (G.2.map mask)[i]? = some m := by simpa using List.mem_zipIdx_iff_getElem?.mp ha
    obtain ⟨a, ha1, rfl⟩ := List.mem_map.mp (List.mem_of_getElem? hi)
    have hall : (((G.2.map mask).take i).all fun o => decide (mask a &&& o ∈ kn)) = true := by
      rw [List.all_eq_true]
      intro o ho
      obtain ⟨b, hb, rfl⟩ := List.mem_map.mp (List.mem_of_mem_take ho)
      rw [mask_and (h.asc a ha1) (h.asc b hb), decide_eq_true_eq, kmem]
      exact List.mem_map.mpr ⟨_, h.meet a ha1 b hb, rfl⟩
    have hlt : ((G.2.map mask).take i).length < sizeLine := by rw [List.length_take]; omega
    exact hs_wk (h_one (s_ifF (t_notF (t_eq (t_val (r_calB (a_cons (e_comp (comp_M [("other", 8)] 8 (f := fun o => PyData.bool (decide (mask a &&& o ∈ kn))) (xs := (G.2.map mask).take i) (i_lst (e_sl s_takeLM (e_var 5) p_none (p_some (e_var 3)))) sc_need_space.nd (by first | assumption | omega | exact few.n' | exact few.l' ‹_› | exact (fun p hp => by have := few.p a ha p hp; omega) | decide) (fun a ha s H C cl fp => (r_cmp (r_bin (e_var 7) (e_var 8) b_andN) (e_var 6) (c_inK hr.units))) (fun s H C cl fp => g_nm 8 sc_need_space.nd))) a_nil) f_allM T.b_all rfl)) hall)) h_nil)) (by repeat (first | exact trivial | refine ⟨.inr rfl, ?_⟩ | refine ⟨.inl rfl, ?_⟩))
  exact h_one (s_ret (e_var 0))
end
end SG
set_option Elab.async false
set_option linter.all false
set_option maxRecDepth 100000
set_option maxHeartbeats 4000000
/-! ranges as lists, tuples; the least pair -/
namespace SG
open PySem PySem.Spec PyProof.Rows L2
section
variable {X : Cx} {e a : Expr} {pos p px : Pos} {W W1 : List Ow} {ρ : Rho} {n : Nat}
theorem rgV_nat (n : Nat) : rgV 0 (n : Int) = (castL (List.range n)).map V.int := by
  unfold rgV castL
  rw [Int.sub_zero, Int.toNat_natCast, List.map_map]
  refine List.map_congr_left fun i _ => ?_
  simp
theorem e_listRg {pr : Pos} (ha : PE X a (tE W ρ (I_ (n : Nat)) W1)) (hn : n ≤ 1000000) (hm : X.mg "list" = none) (hr : X.mg "range" = none) (hc : X.calm = true := by rfl) (hg : Gl X "list" := by rfl) (hg2 : Gl X "range" := by rfl)
    (na : starEach [a] X.env = (false, eval a X.env) :: starEach [] X.env := by rfl) (na2 : starEach [.Call (.Name "range" pr) [a] [] px] X.env = (false, eval (.Call (.Name "range" pr) [a] [] px) X.env) :: starEach [] X.env := by rfl) :
    PE X (.Call (.Name "list" p) [.Call (.Name "range" pr) [a] [] px] [] pos) (tE W ρ (.d (.list ((List.range n).map nD))) W1) :=
  PEto (pe_listRg hc hg hm (prg_1 hg2 hr ha na) na2) fun σ H Q ⟨Z, c, k⟩ => ⟨Z, c, fun v H1 g1 d1 q1 => by
    rw [rp_int] at q1
    refine ⟨n, q1, RgOk.of_le (by omega) (by omega) (by omega) (by omega), ?_⟩
    rw [rgV_nat]
    refine yd_lst d1.lv (ds := (List.range n).map nD) (by rw [map_nD]; exact DaL.ofInts) fun v H' e q => k v H' (g1.trans (Go.same e)) (d1.same e) q⟩
theorem e_tupRg {pr : Pos} (ha : PE X a (tE W ρ (I_ (n : Nat)) W1)) (hn : n ≤ 1000000) (hm : X.mg "tuple" = none) (hr : X.mg "range" = none) (hc : X.calm = true := by rfl) (hg : Gl X "tuple" := by rfl) (hg2 : Gl X "range" := by rfl)
    (na : starEach [a] X.env = (false, eval a X.env) :: starEach [] X.env := by rfl) (na2 : starEach [.Call (.Name "range" pr) [a] [] px] X.env = (false, eval (.Call (.Name "range" pr) [a] [] px) X.env) :: starEach [] X.env := by rfl) :
    PE X (.Call (.Name "tuple" p) [.Call (.Name "range" pr) [a] [] px] [] pos) (tE W ρ (.d (lotD (List.range n))) W1) :=
  PEto (pe_tupRg hc hg hm (prg_1 hg2 hr ha na) na2) fun σ H Q ⟨Z, c, k⟩ => ⟨Z, c, fun v H1 g1 d1 q1 => by
    rw [rp_int] at q1
    refine ⟨n, q1, RgOk.of_le (by omega) (by omega) (by omega) (by omega), ?_⟩
    rw [rgV_nat]
    refine yd_tup d1.lv (ds := (List.range n).map nD) (by rw [map_nD]; exact DaL.ofInts) fun v H' e q => k v H' (g1.trans (Go.same e)) (d1.same e) q⟩
end
theorem s_expr {X : Cx} {e : Expr} {pos : Pos} {W W1 : List Ow} {ρ : Rho} {r : Sl} (h : PE X e (tE W ρ r W1)) (hs : swapsWith e none pos.line X.env = pure false := by rfl) : PS X (.Expr e pos) (oS W ρ (.nx W1 ρ)) :=
  PSto (ps_expr h hs) fun D σ H ⟨Z, c, k⟩ => ⟨Z, c, fun v H1 g1 d1 q1 => k σ H1 g1 (c.go g1 d1)⟩
abbrev prD (p : Nat × Nat) : PyData := .tuple [nD p.1, nD p.2]
def ltP (p q : Nat × Nat) : Bool := decide (p.1 < q.1 ∨ (p.1 = q.1 ∧ p.2 < q.2))
def minP (p : Nat × Nat) (ps : List (Nat × Nat)) : Nat × Nat := ps.foldl (fun a y => if ltP y a then y else a) p
theorem minD_pr (ps : List (Nat × Nat)) : ∀ p, PySem.W.minD (prD p) (ps.map prD) = prD (minP p ps) := by
  induction ps with
  | nil => exact fun p => rfl
  | cons q ps ih =>
    intro p
    have e : PySem.W.dataLt (prD q) (prD p) = ltP q p := by
      rw [PySem.W.dataLt_ii]
      unfold ltP
      simp only [Int.ofNat_lt, Int.natCast_inj]
    show PySem.W.minD (if PySem.W.dataLt (prD q) (prD p) then prD q else prD p) (ps.map prD) = _
    rw [e]
    show _ = prD (minP (if ltP q p then q else p) ps)
    rw [← ih]
    cases ltP q p <;> rfl
theorem minP_mem (ps : List (Nat × Nat)) : ∀ p, minP p ps ∈ p :: ps := by
  induction ps with
  | nil => exact fun p => List.mem_cons_self
  | cons q ps ih =>
    intro p
    have := ih (if ltP q p then q else p)
    show minP (if ltP q p then q else p) ps ∈ _
    rcases List.mem_cons.mp this with z | z
    · rw [z]
      cases ltP q p
      · exact List.mem_cons_self
      · exact List.mem_cons_of_mem _ List.mem_cons_self
    · exact List.mem_cons_of_mem _ (List.mem_cons_of_mem _ z)
section
variable {X : Cx}
theorem cr_minPr (hc : X.calm = true) (hu : X.A.units + 64 < cLine) : CallR X (.builtin "min") (fun vs H Q => ∃ (a : Addr) (xs : List V) (p : Nat × Nat) (ps : List (Nat × Nat)), vs = [.ref a] ∧ H a = some (.lst xs) ∧ DaL H ((p :: ps).map prD) xs ∧
    ∀ (i : Nat) (v : V), xs[i]? = some v → ((p :: ps).map prD)[i]? = some (prD (minP p ps)) → Q v H) := by
  intro pins s σ H vs us Q I r h
  obtain ⟨a, xs, p, ps, rfl, ha, hd, q⟩ := h
  obtain ⟨its, rv, hl, _⟩ := I.list (SqL.of ha)
  rw [Vals.ref1 r]
  obtain ⟨as, hr⟩ := Dp.readsAll I _ _ _ (DaL.dp (K := X.K) _ _ hd) rv
  have hr' : ReadsAll s.heap its.toArray.toList (prD p :: ps.map prD) as := by simpa using hr
  have dep : ∀ l : List (Nat × Nat), PyData.depthAll (l.map prD) ≤ 1 := fun l => by
    induction l with
    | nil => simp [PyData.depthAll]
    | cons x l ih => simp [PyData.depthAll, PyData.depth]; omega
  have al : PySem.W.AlikeAll (prD p :: ps.map prD) := by
    have mem : ∀ d ∈ prD p :: ps.map prD, ∃ q, d = prD q := fun d hd => by
      obtain ⟨q, _, e⟩ := List.mem_map.mp (show d ∈ (p :: ps).map prD from hd)
      exact ⟨q, e.symm⟩
    refine ⟨fun x hx y hy => ?_, fun x hx => ?_⟩
    · obtain ⟨q, rfl⟩ := mem x hx
      obtain ⟨r, rfl⟩ := mem y hy
      simp [PySem.W.alike, PySem.W.alikeAll]
    · obtain ⟨q, rfl⟩ := mem x hx
      intro z; cases z
  refine PySem.W.min_list_data (I.ok.hd hc) hl.isList hr' al (by have := dep (p :: ps); show _ + 1 + PyData.depthAll ((p :: ps).map prD) < _; omega) fun i v h' tk bs hv hrd kp => ?_
  have hv' : its[i]? = some v := by simpa using hv
  obtain ⟨bs2, r2, hlt, _, _⟩ := PySem.W.readsAll_at (by simpa using hr' : ReadsAll s.heap its (prD p :: ps.map prD) as) i v hv'
  have r3 := PySem.W.reads_keeps kp r2
  rw [minD_pr] at hrd
  obtain ⟨e, _⟩ := Reads.unique r3 _ _ hrd
  have lx : xs.length = its.length := rv.length
  have hi : i < its.length := (List.getElem?_eq_some_iff.mp hv').1
  obtain ⟨x, hx⟩ : ∃ x, xs[i]? = some x := ⟨xs[i], List.getElem?_eq_getElem (by omega)⟩
  obtain ⟨u, hu1, hu2⟩ := rv.get hx
  rw [hv'] at hu1
  cases hu1
  refine ⟨x, H, I.kept kp, hu2, q i x hx ?_⟩
  have hlt' : i < ((p :: ps).map prD).length := hlt
  rw [List.getElem?_eq_getElem hlt', ← e]
  rw [List.getD_eq_getElem?_getD, List.getElem?_eq_getElem hlt]
  rfl
theorem f_minP (hu : X.A.units + 64 < cLine) {p : Nat × Nat} {ps : List (Nat × Nat)} (hc : X.calm = true := by rfl) : CalOk X (.builtin "min") [.d (.list ((p :: ps).map prD))] (.d (prD (minP p ps))) := ⟨_, cr_minPr hc hu, fun M H vs l h Q q => by
  obtain ⟨v, rfl, hv⟩ := rpl_1 h
  rw [rp_lst] at hv
  obtain ⟨a, xs, rfl, h1, h2⟩ := hv
  refine ⟨a, xs, p, ps, rfl, off_sub _ _ h1, DaL.mono off_sub _ _ h2, fun i v hx hd => q v H (Same.refl H) ?_⟩
  exact DaL.at h2 hd hx⟩
end
end SG
set_option Elab.async false
set_option linter.all false
set_option maxRecDepth 100000
set_option maxHeartbeats 4000000
namespace SG
open PySem PySem.Spec PyProof.Rows L2
/-- the rows that least_in gives -/
inductive LeastOk (G : Sp2) : List (List Nat) → Prop
  | none (hb : bare G (List.range G.2.length) ≠ []) : LeastOk G []
  | some {N : Nat} (hb : bare G (List.range G.2.length) = []) (h1 : 1 ≤ N) (h2 : N ≤ 5) (h3 : ∀ i, 1 ≤ i → i < N → stays G i [] = true) (h4 : stays G N [] = false) : LeastOk G (coversWith G N)
section
variable {P : Program} {w : World} {K : PySem.W.Frag} {mg : Str → Option Value} {base : Heap}
inductive F_least_in : Spec
  | mk {G : Sp2} {rows : List (List Nat)} (h : OkSys G) (hl : LeastOk G rows) : F_least_in [] [.d (spD G)] (.d (.list (rows.map lotD))) []
theorem sc_least_in : FnScope ["system", "size"] ["system"] (C8.fnScope s_least_in) := ⟨rfl, rfl, rfl, by decide +kernel, rfl, by decide +kernel, by decide +kernel⟩
theorem f_least_in (T : Top K mg) : Fn P w K mg base false 9 "least_in" F_least_in := by
  refine Fn.of T.s_least_in sc_least_in (fun _ _ _ _ _ _ us hl => match us, hl with | [_], _ => rfl) (by rintro _ _ _ _ ⟨⟩ <;> rfl) fun f cdv A outer s H E hr W rs r W' hF => ?_
  have key : ∀ G : Sp2, OkSys G → G.1 < 2 ^ 20 ∧ G.2.length < 2 ^ 62 ∧ G.2.length ≤ 1000000 ∧ (∀ k ∈ List.range G.2.length, k < G.2.length) ∧ (List.range G.2.length).length < sizeLine := fun G h => by
    have h1 := h.le
    have h2 := h.n
    refine ⟨by omega, by omega, by omega, fun k hk => List.mem_range.mp hk, ?_⟩
    rw [List.length_range]
    exact Nat.lt_of_le_of_lt h2 (by decide)
  cases hF with | @mk G rows h hl =>
  cases hl with
  | none hb =>
    obtain ⟨g1, g2, g3, g4, g5⟩ := key G h
    refine h_ifT (t_eq (rt_cmp (r_callP (f_bare_tellers T) (hr.mono (by decide)) (a_cons (e_var 0) (a_cons (e_listRg (r_calB (a_cons (r_ix (e_var 0) e_nat x_sp1) a_nil) f_lenNs T.b_len rfl) (by first | assumption | omega | decide) T.b_list T.b_range) a_nil)) (.mk2 (by first | assumption | omega | decide) (by first | assumption | omega | decide) (by first | assumption | omega | decide))) e_nilL (c_mL0n hr.units (by first | assumption | exact sh_lot | exact sh_nl | exact sh_ll | exact sh_lots | exact sh_int | exact sh_bool | exact sh_none | exact sh_nil | exact sh_nilT | exact sh_ones _))) ?_) (h_one (s_ret e_nilL))
    cases q : bare G (List.range G.2.length) with
    | nil => exact absurd q hb
    | cons t r => rfl
  | @some N hb h1 h2 h3 h4 =>
    obtain ⟨g1, g2, g3, g4, g5⟩ := key G h
    refine h_ifF (t_eq (rt_cmp (r_callP (f_bare_tellers T) (hr.mono (by decide)) (a_cons (e_var 0) (a_cons (e_listRg (r_calB (a_cons (r_ix (e_var 0) e_nat x_sp1) a_nil) f_lenNs T.b_len rfl) (by first | assumption | omega | decide) T.b_list T.b_range) a_nil)) (.mk2 (by first | assumption | omega | decide) (by first | assumption | omega | decide) (by first | assumption | omega | decide))) e_nilL (c_mL0n hr.units (by first | assumption | exact sh_lot | exact sh_nl | exact sh_ll | exact sh_lots | exact sh_int | exact sh_bool | exact sh_none | exact sh_nil | exact sh_nilT | exact sh_ones _))) (by rw [hb]; rfl)) ?_
    refine h_cons (s_set 1 e_nat sc_least_in.nd) ?_
    have hn := h.n
    have hr5 : Room (5 + 2) (bX P w K mg base _ _ _ f cdv A outer s H E).A := hr.mono (by decide)
    refine h_cons (s_while (N - 1) (fun _ => []) (fun _ => []) (fun i => [some (.d (spD G)), some (I_ ((1 + i : Nat) : Int))]) rfl (by repeat (first | exact trivial | refine ⟨.inr rfl, ?_⟩ | refine ⟨.inl rfl, ?_⟩)) (fun i hi => t_eq (t_val (r_callP (f_does_stay_bare T 5) hr5 (a_cons (e_var 0) (a_cons (e_var 1) (a_cons (e_to (.d (lotD [])) e_nilT rfl) a_nil))) (.mk (n := 1 + i) (fun k hk => nomatch hk) g1 (by simp; omega) (by omega) (by omega)))) ?_) (fun i hi => ?_)) ?_
    · by_cases q : i < N - 1
      · rw [decide_eq_true q]
        exact h3 _ (by omega) (by omega)
      · have : 1 + i = N := by omega
        rw [decide_eq_false q, this]
        exact h4
    · refine hs_wk (h_one (s_aug 1 ip_add e_int rfl sc_least_in.nd)) ⟨.inr rfl, .inr ?_, trivial⟩
      congr 3
    · have e : 1 + (N - 1) = N := by omega
      rw [e]
      have hn := h.n
      exact h_one (s_ret (r_callP (f_covers_with T) (hr.mono (by decide)) (a_cons (e_var 0) (a_cons (e_var 1) a_nil)) (.mk (by first | assumption | omega | decide) (by first | assumption | omega | decide) (by first | assumption | omega | decide))))
theorem least_len {G : Sp2} {rows : List (List Nat)} (h : OkSys G) (hl : LeastOk G rows) : rows.length ≤ 3125 := by
  cases hl with
  | none _ => exact Nat.zero_le _
  | @some N _ h1 h2 _ _ =>
    unfold coversWith
    refine Nat.le_trans (List.length_filter_le _ _) (Nat.le_trans (rowsOf_len _ _) ?_)
    refine Nat.le_trans (Nat.pow_le_pow_left h.n N) ?_
    exact Nat.pow_le_pow_right (n := 5) (by decide) h2
inductive F_reserve : Spec
  | mk {G : Sp2} {rows : List (List Nat)} (h : OkSys G) (hl : LeastOk G rows) : F_reserve [] [.d (spD G)] (.d (match rows with | [] => .none | r :: _ => nD r.length)) []
theorem sc_reserve : FnScope ["system", "some"] ["system"] (C8.fnScope s_reserve) := ⟨rfl, rfl, rfl, by decide +kernel, rfl, by decide +kernel, by decide +kernel⟩
theorem f_reserve (T : Top K mg) : Fn P w K mg base false 10 "reserve" F_reserve := by
  refine Fn.of T.s_reserve sc_reserve (fun _ _ _ _ _ _ us hl => match us, hl with | [_], _ => rfl) (by rintro _ _ _ _ ⟨⟩ <;> rfl) fun f cdv A outer s H E hr W rs r W' hF => ?_
  cases hF with | @mk G rows h hl =>
  refine h_cons (s_set 1 (r_callP (f_least_in T) (hr.mono (by decide)) (a_cons (r_callP (f_need_system T) (hr.mono (by decide)) (a_cons (e_var 0) a_nil) (.mk (by first | assumption | omega | decide))) a_nil) (.mk h hl)) sc_reserve.nd) ?_
  cases rows with
  | nil => exact h_one (s_ret (e_ifF (t_eq (rt_cmp (e_var 1) e_nilL (c_mL0n hr.units (by first | assumption | exact sh_lot | exact sh_nl | exact sh_ll | exact sh_lots | exact sh_int | exact sh_bool | exact sh_none | exact sh_nil | exact sh_nilT | exact sh_ones _))) rfl) e_non))
  | cons r rs =>
    refine h_one (s_ret (e_ifT (t_eq (rt_cmp (e_var 1) e_nilL (c_mL0n hr.units (xs := r :: rs) (by first | assumption | exact sh_lot | exact sh_nl | exact sh_ll | exact sh_lots | exact sh_int | exact sh_bool | exact sh_none | exact sh_nil | exact sh_nilT | exact sh_ones _))) rfl) ?_))
    exact r_calB (a_cons (r_ix (e_var 1) e_nat (x_lm (ls := r :: rs) (k := 0) (by simp))) a_nil) f_lenN T.b_len rfl
inductive F_least_covers : Spec
  | mk {G : Sp2} {rows : List (List Nat)} (h : OkSys G) (hl : LeastOk G rows) : F_least_covers [] [.d (spD G)] (.d (lotsD rows)) []
theorem sc_least_covers : FnScope ["system"] ["system"] (C8.fnScope s_least_covers) := ⟨rfl, rfl, rfl, by decide +kernel, rfl, by decide +kernel, by decide +kernel⟩
theorem f_least_covers (T : Top K mg) : Fn P w K mg base false 10 "least_covers" F_least_covers := by
  refine Fn.of T.s_least_covers sc_least_covers (fun _ _ _ _ _ _ us hl => match us, hl with | [_], _ => rfl) (by rintro _ _ _ _ ⟨⟩ <;> rfl) fun f cdv A outer s H E hr W rs r W' hF => ?_
  cases hF with | @mk G rows h hl =>
  exact h_one (s_ret (r_calT (a_cons (r_callP (f_least_in T) (hr.mono (by decide)) (a_cons (r_callP (f_need_system T) (hr.mono (by decide)) (a_cons (e_var 0) a_nil) (.mk (by first | assumption | omega | decide))) a_nil) (.mk h hl)) a_nil) f_tuple T.b_tuple rfl))
inductive F_is_borne : Spec
  | mk {S G : Sp2} (hS : OkSp S) (hG : OkSys G) (h1 : strayIn S ≠ []) (h2 : numberIn S ≤ 5) : F_is_borne [] [.d (spD S), .d (spD G)] (B_ (stays G (numberIn S) [])) []
theorem sc_is_borne : FnScope ["space", "system"] ["space", "system"] (C8.fnScope s_is_borne) := ⟨rfl, rfl, rfl, by decide +kernel, rfl, by decide +kernel, by decide +kernel⟩
theorem f_is_borne (T : Top K mg) : Fn P w K mg base false 9 "is_borne" F_is_borne := by
  refine Fn.of T.s_is_borne sc_is_borne (fun _ _ _ _ _ _ us hl => match us, hl with | [_, _], _ => rfl) (by rintro _ _ _ _ ⟨⟩ <;> rfl) fun f cdv A outer s H E hr W rs r W' hF => ?_
  cases hF with | @mk S G hS hG h1 h2 =>
  have few := few_sp hS
  have hle := hS.le
  have hn := hG.n
  have hg := hG.le
  have h9 : S.1 ≤ 9 := by omega
  refine h_cons (s_expr (r_callP (f_need_space T) (hr.mono (by decide)) (a_cons (e_var 0) a_nil) (.mk (by first | assumption | omega | decide)))) ?_
  refine h_cons (s_expr (r_callP (f_need_system T) (hr.mono (by decide)) (a_cons (e_var 1) a_nil) (.mk (by first | assumption | omega | decide)))) ?_
  have hr5 : Room (5 + 2) (bX P w K mg base _ _ _ f cdv A outer s H E).A := hr.mono (by decide)
  exact h_one (s_ret (r_callP (f_does_stay_bare T 5) hr5 (a_cons (e_var 1) (a_cons (r_callP (f_number_in T) (hr.mono (by decide)) (a_cons (e_var 0) a_nil) (.mk (by first | assumption | omega | decide) (by first | assumption | omega | decide) (by first | assumption | omega | decide))) (a_cons (e_to (.d (lotD [])) e_nilT rfl) a_nil))) (.mk (n := numberIn S) (fun k hk => nomatch hk) (by omega) (by simp; omega) (by omega) h2)))
end
end SG
set_option Elab.async false
set_option linter.all false
set_option maxRecDepth 100000
set_option maxHeartbeats 4000000
namespace SG
open PySem PySem.Spec PyProof.Rows L2
/-- no so many gangs more have all tellers -/
def Open (G : Sp2) (n : Nat) (ns : List Nat) : Prop := ∀ ks : List Nat, ks.length ≤ n → (∀ k ∈ ks, k < G.2.length) → bare G (ns ++ ks) ≠ []
theorem Open.bare {G : Sp2} {n : Nat} {ns : List Nat} (h : Open G n ns) : bare G ns ≠ [] := by
  have := h [] (Nat.zero_le _) (fun k hk => nomatch hk)
  rwa [List.append_nil] at this
theorem Open.more {G : Sp2} {n : Nat} {ns : List Nat} (h : Open G (n + 1) ns) {k : Nat} (hk : k < G.2.length) : Open G n (ns ++ [k]) := fun ks h1 h2 => by
  have := h (k :: ks) (by simp; omega) (fun j hj => by
    rcases List.mem_cons.mp hj with z | z
    · rw [z]; exact hk
    · exact h2 j z)
  rwa [List.append_assoc]
def szT (G : Sp2) (t : Nat) : Nat × Nat := ((G.2.filter fun c => decide (t ∈ c)).length, t)
def pickT (G : Sp2) (ns : List Nat) : Nat := match bare G ns with
  | [] => 0
  | t :: r => (minP (szT G t) (r.map (szT G))).2
def treeD (G : Sp2) : Nat → List Nat → PyData
  | 0, ns => .tuple [nD ((bare G ns).getD 0 0), .tuple []]
  | n + 1, ns => .tuple [nD (pickT G ns), .tuple ((with_ G (pickT G ns)).map fun k => treeD G n (ns ++ [k]))]
theorem pickT_mem {G : Sp2} {ns : List Nat} (h : bare G ns ≠ []) : pickT G ns ∈ bare G ns := by
  unfold pickT
  cases q : bare G ns with
  | nil => exact absurd q h
  | cons t r =>
    show (minP (szT G t) (r.map (szT G))).2 ∈ t :: r
    have := minP_mem (r.map (szT G)) (szT G t)
    rcases List.mem_cons.mp this with z | z
    · rw [z]; exact List.mem_cons_self
    · obtain ⟨u, hu, e⟩ := List.mem_map.mp z
      rw [← e]
      exact List.mem_cons_of_mem _ hu
section
variable {P : Program} {w : World} {K : PySem.W.Frag} {mg : Str → Option Value} {base : Heap}
inductive F_tree_of (d : Nat) : Spec
  | mk {G : Sp2} {n : Nat} {ns : List Nat} (h : ∀ k ∈ ns, k < G.2.length) (h1 : G.1 ≤ 5) (h2 : ns.length + n ≤ 90) (h3 : G.2.length ≤ 70) (hd : n ≤ d) (ho : Open G n ns) : F_tree_of d [] [.d (spD G), I_ (n : Nat), .d (lotD ns)] (.d (treeD G n ns)) []
theorem sc_tree_of : FnScope ["system", "depth", "numbers", "some", "sizes", "crew", "teller", "further", "one"] ["system", "depth", "numbers"] (C8.fnScope s_tree_of) := ⟨rfl, rfl, rfl, by decide +kernel, rfl, by decide +kernel, by decide +kernel⟩
theorem bi_tree_of : BindsF "tree_of" s_tree_of ["system", "depth", "numbers"] := fun _ _ _ _ _ _ us hl => match us, hl with | [_, _, _], _ => rfl
theorem f_tree_step (T : Top K mg) (d : Nat) (ih : ∀ d', d = d' + 1 → Fn P w K mg base false (d' + 2) "tree_of" (F_tree_of d')) : Fn P w K mg base false (d + 2) "tree_of" (F_tree_of d) := by
  refine Fn.of T.s_tree_of sc_tree_of bi_tree_of (by rintro _ _ _ _ ⟨⟩; rfl) fun f cdv A outer s H E hr W rs r W' hF => ?_
  cases hF with | @mk G n ns h h1 h2 h3 hd ho =>
  have hns : ns.length < sizeLine := Nat.lt_of_le_of_lt (show ns.length ≤ 90 by omega) (by decide)
  have hz : (G.2.zipIdx).length < sizeLine := by rw [List.length_zipIdx]; exact Nat.lt_of_le_of_lt h3 (by decide)
  have hz2 : G.2.length < sizeLine := Nat.lt_of_le_of_lt h3 (by decide)
  have hr1 : Room 1 (bX P w K mg base _ _ _ f cdv A outer s H E).A := hr.mono (by omega)
  have hbl : (bare G ns).length < sizeLine := Nat.lt_of_le_of_lt (bare_len G ns) (Nat.lt_of_le_of_lt h1 (by decide))
  refine h_cons (s_set 3 (e_callP (f_bare_tellers T) (.mk h (by omega) hns) hr1 (a_cons (e_var 0) (a_cons (e_var 2) a_nil))) sc_tree_of.nd) ?_
  refine h_cons (s_setC 4 (comp_M [("teller", 6)] 6 (f := fun t => prD (szT G t)) (xs := bare G ns) (i_lst (e_var 3)) sc_tree_of.nd (by first | assumption | omega | decide) (fun a ha s H C cl fp => (e_tup2 (a_cons (r_calB (a_cons (e_comp (comp_N [("crew", 5)] 5 (p := fun c => decide (a ∈ c)) (f := lotD) (xs := G.2) (i_tup (r_ix (e_var 0) e_nat x_sp1)) sc_tree_of.nd (by first | assumption | omega | decide) (fun a ha s H C cl fp => s_one (rt_cmp (e_var 6) (e_var 5) c_inN)) (fun a ha hp s H C cl fp => (e_var 5)) (fun s H C cl fp => g_nm 5 sc_tree_of.nd))) a_nil) f_lenM T.b_len rfl) (a_cons (e_var 6) a_nil)))) (fun s H C cl fp => g_nm 6 sc_tree_of.nd))) ?_
  cases hb : bare G ns with
  | nil => exact absurd hb ho.bare
  | cons t r =>
    cases n with
    | zero =>
      refine h_ifT (t_eq (rt_cmp (e_var 1) e_nat c_eqN) rfl) ?_
      refine h_one (s_retE (e_tup2 (a_cons (r_ix (e_var 3) e_nat (x_nl (ss := t :: r) (k := 0) (by simp))) (a_cons e_nilT a_nil))) ?_)
      simp only [treeD, hb]
    | succ n =>
      obtain ⟨d', rfl⟩ : ∃ d', d = d' + 1 := ⟨d - 1, by omega⟩
      have ihx := ih d' rfl
      have hr2 : Room (d' + 2) (bX P w K mg base _ _ _ f cdv A outer s H E).A := hr
      refine h_ifF (t_eq (rt_cmp (e_var 1) e_nat c_eqN) (by simp)) ?_
      have ep : pickT G ns = (minP (szT G t) (r.map (szT G))).2 := by unfold pickT; rw [hb]
      refine h_cons (s_set 6 (e_to (I_ (pickT G ns : Nat)) (r_ix (r_calB (a_cons (e_var 4 (r := .d (.list ((szT G t :: r.map (szT G)).map prD))) (by simp [hb]; rfl)) a_nil) (f_minP hr.units) T.b_min rfl) e_nat (x_tup (by rfl))) (by rw [ep])) sc_tree_of.nd) ?_
      refine h_cons (s_wk (s_setC 7 (comp_P [("one", 8), ("crew", 5)] 8 5 (p := fun p => decide (pickT G ns ∈ p.1)) (f := fun p => nD p.2) (xs := G.2.zipIdx) (i_enT T.b_enumerate (a_cons (r_ix (e_var 0) e_nat x_sp1) a_nil)) sc_tree_of.nd (by first | assumption | omega | decide) (fun a ha s H C cl fp => s_one (rt_cmp (e_var 6) (e_var 5) c_inN)) (fun a ha hp s H C cl fp => (e_var 8)) (fun s H C cl fp => g_pr 8 5 sc_tree_of.nd))) (ρ2 := [some (.d (spD G)), some (I_ ((n + 1 : Nat) : Int)), some (.d (lotD ns)), none, none, none, some (I_ (pickT G ns : Nat)), some (.d (.list ((with_ G (pickT G ns)).map nD))), none]) ⟨.inr rfl, .inr rfl, .inr rfl, .inl rfl, .inl rfl, .inl rfl, .inr rfl, .inr (wth_eq G _), .inr rfl, trivial⟩) ?_
      have et : treeD G (n + 1) ns = .tuple [nD (pickT G ns), .tuple ((with_ G (pickT G ns)).map fun k => treeD G n (ns ++ [k]))] := by rw [treeD]
      rw [et]
      clear et ep
      generalize pickT G ns = tt
      have hwl : (with_ G tt).length < sizeLine := Nat.lt_of_le_of_lt (Nat.le_trans (with_len G tt) h3) (by decide)
      have hk : ∀ k ∈ with_ G tt, ∀ j ∈ ns ++ [k], j < G.2.length := fun k hk j hj => by
        rcases List.mem_append.mp hj with z | z
        · exact h j z
        · have : j = k := by simpa using z
          rw [this]; exact with_lt hk
      exact h_one (s_ret (e_tup2 (a_cons (e_var 6) (a_cons (r_calT (a_cons (e_comp (comp_M [("one", 8)] 8 (f := fun k => treeD G n (ns ++ [k])) (xs := with_ G tt) (i_lst (e_var 7)) sc_tree_of.nd (by first | assumption | omega | (rw [List.length_map]; exact small_le (by omega)) | decide) (fun a ha s H C cl fp => (r_callP ihx hr2 (a_cons (e_var 0) (a_cons (r_bin (e_var 1) e_nat (b_subN (i := n + 1) (j := 1) (by omega))) (a_cons (e_to (.d (lotD (ns ++ [a]))) (e_tupS (a_star (e_var 2) (a_cons (e_var 8) a_nil)) (by first | assumption | omega | (rw [List.length_map]; exact small_le (by omega)) | decide)) (by unfold lotD; rw [List.map_append]; rfl)) a_nil))) (.mk (n := n) (hk a ha) h1 (by simp; omega) h3 (by omega) (ho.more (with_lt ha))))) (fun s H C cl fp => g_nm 8 sc_tree_of.nd))) a_nil) f_tuple T.b_tuple rfl) a_nil))))
theorem f_tree_of (T : Top K mg) (d : Nat) : Fn P w K mg base false (d + 2) "tree_of" (F_tree_of d) := by
  induction d with
  | zero => exact f_tree_step T 0 fun d' e => by omega
  | succ d ih => exact f_tree_step T (d + 1) fun d' e => (show d = d' from by omega) ▸ ih
end
end SG
set_option Elab.async false
set_option linter.all false
set_option maxRecDepth 100000
set_option maxHeartbeats 4000000
/-! own lists: made, filled, kept as data -/
namespace SG
open PySem PySem.Spec PyProof.Rows L2
theorem off_perm {M M' : List Addr} (h : ∀ a, a ∈ M ↔ a ∈ M') (H : Hp) : off M H = off M' H := funext fun a => by
  by_cases q : a ∈ M
  · rw [off_in q, off_in ((h a).mp q)]
  · rw [off_out q, off_out (fun z => q ((h a).mpr z))]
theorem adrs_perm {W W' : List Ow} (p : W.Perm W') (a : Addr) : a ∈ adrs W ↔ a ∈ adrs W' := (p.map Ow.addr).mem_iff
theorem Hd.perm {W W' : List Ow} {H : Hp} (p : W.Perm W') (h : Hd W H) : Hd W' H :=
  ⟨(p.map Ow.addr).nodup_iff.mp h.nd, fun o ho => by rw [← off_perm (adrs_perm p) H]; exact h.hold o (p.mem_iff.mpr ho)⟩
theorem Cf.perm {W W' : List Ow} {ρ : Rho} {σ : L2.St} {H : Hp} (p : W.Perm W') (c : Cf W ρ σ H) : Cf W' ρ σ H :=
  ⟨c.len, c.hd.perm p, fun i s e => by rw [← off_perm (adrs_perm p) H]; exact c.env i s e⟩
theorem Go.permL {W W' V : List Ow} {H H' : Hp} (p : W.Perm W') (g : Go W V H H') : Go W' V H H' :=
  ⟨fun a o n h => g.kp a o (fun z => n ((adrs_perm p a).mp z)) h, fun a h => (g.fr a h).imp (adrs_perm p a).mp id⟩
theorem Go.permR {W V V' : List Ow} {H H' : Hp} (p : V.Perm V') (g : Go W V H H') : Go W V' H H' := ⟨g.kp, fun a h => g.fr a ((adrs_perm p a).mpr h)⟩
theorem mid {Z W : List Ow} {o : Ow} : (Z ++ o :: W).Perm (o :: (Z ++ W)) := List.perm_middle
/-- a new own list -/
theorem Cf.newL {D : Addr} {W : List Ow} {ρ : Rho} {σ : L2.St} {H : Hp} (c : Cf W ρ σ H) (hD : H D = none) : Cf (.lst D [] :: W) ρ σ (upd H D (.lst [])) ∧ Go W (.lst D [] :: W) H (upd H D (.lst [])) := by
  have hDW : D ∉ adrs W := fun m => c.hd.lv D m hD
  have sm : Same H (upd H D (.lst [])) := upd_ext hD
  have sm2 : Same (off (adrs W) H) (off (adrs (.lst D [] :: W)) (upd H D (.lst []))) := fun b x e => by
    obtain ⟨h1, h2⟩ := off_some e
    have : b ∉ adrs (Ow.lst D [] :: W) := fun m => by
      rcases List.mem_cons.mp m with z | z
      · have z : b = D := z
        rw [z, hD] at h2; cases h2
      · exact h1 z
    rw [off_out this]
    exact sm b x h2
  refine ⟨⟨c.len, ⟨List.nodup_cons.mpr ⟨hDW, c.hd.nd⟩, fun u hu => ?_⟩, fun i s e => ?_⟩, ⟨fun b x hb e => sm b x e, fun b hb => ?_⟩⟩
  · rcases List.mem_cons.mp hu with e | hu
    · subst e
      exact ⟨[], upd_same, DaL.nil⟩
    · exact Ow.holds_mono sm2 sm (c.hd.hold u hu)
  · obtain ⟨v, h1, h2⟩ := c.env i s e
    exact ⟨v, h1, h2.mono sm2⟩
  · rcases List.mem_cons.mp hb with z | z
    · have z : b = D := z
      exact .inr (by rw [z]; exact hD)
    · exact .inl z
/-- an own list is data from now on -/
theorem Cf.frz {p : Addr} {ds : List PyData} {W : List Ow} {ρ : Rho} {σ : L2.St} {H : Hp} {k : Nat} (c : Cf (.lst p ds :: W) ρ σ H) (hk : ρ[k]? = some (some (.v (.ref p)))) : Cf W (ρ.set k (some (.d (.list ds)))) σ H := by
  refine ⟨by rw [List.length_set]; exact c.len, c.hd.tail, fun i s e => ?_⟩
  by_cases hi : i = k
  · subst hi
    have hlt : i < ρ.length := (List.getElem?_eq_some_iff.mp hk).1
    rw [List.getElem?_set_self hlt] at e
    cases e
    obtain ⟨v, h1, h2⟩ := c.env i _ hk
    have h2 : v = .ref p := h2
    subst h2
    obtain ⟨vs, h3, h4⟩ := c.hd.hold _ List.mem_cons_self
    refine ⟨_, h1, ?_⟩
    rw [rp_lst]
    have hn : p ∉ adrs W := (List.nodup_cons.mp c.hd.nd).1
    exact ⟨p, vs, rfl, by rw [off_out hn]; exact h3, DaL.mono off_drop _ _ h4⟩
  · rw [List.getElem?_set_ne (Ne.symm hi)] at e
    obtain ⟨v, h1, h2⟩ := c.env i s e
    exact ⟨v, h1, h2.mono off_drop⟩
theorem Go.drop {o : Ow} {W : List Ow} {H : Hp} : Go (o :: W) W H H := ⟨fun _ _ _ h => h, fun a h => .inl (List.mem_cons_of_mem _ h)⟩
section
variable {X : Cx} {e : Expr} {x : Str} {pos px lp xp ap cp : Pos} {sts : List Stmt} {W W1 : List Ow} {ρ : Rho} {o : Oc} {p : Addr} {ds es : List PyData} {d : PyData}
theorem h_new (i : Nat) (h : ∀ p, PSs X sts (oS (.lst p [] :: W) (ρ.set i (some (.v (.ref p)))) o)) (hN : X.N.Nodup) (hs : swapsWith (.List [] lp) (some (.Name x px)) pos.line X.env = pure false := by rfl) (hi : X.N[i]? = some x := by rfl) (hx : Loc X.env.scope x := by first | exact Or.inl rfl | exact Or.inr rfl)
    (hf : X.fn x = true ∨ X.env.scope.names.lookup x = some .local := by first | exact .inl rfl | exact .inr rfl) : PSs X (.Assign [.Name x px] (.List [] lp) pos :: sts) (oS W ρ o) := by
  have h' : PSs X sts (fun D σ H => ∃ p, oS (.lst p [] :: W) (ρ.set i (some (.v (.ref p)))) o D σ H) := ⟨fun pins s σ H D I ⟨p, q⟩ => (h p).run pins s σ H D I q⟩
  refine PSsto (pss_cons (ps_set hN hi hx (pe_lst (pos := lp) pa_nil) hs hf) h') fun D σ H q => ?_
  have go : ∀ (Z : List Ow) (p : Addr), Cf (Z ++ W) ρ σ H → H p = none → Cf (Z ++ .lst p [] :: W) (ρ.set i (some (.v (.ref p)))) (σ.set i (some (.ref p))) (upd H p (.lst [])) ∧ Go (Z ++ W) (Z ++ .lst p [] :: W) H (upd H p (.lst [])) := fun Z p c hp => by
    obtain ⟨c1, g1⟩ := c.newL hp
    exact ⟨(c1.set (s := .v (.ref p)) rfl i).perm mid.symm, g1.permR mid.symm⟩
  cases o with
  | nx W2 ρ2 =>
    obtain ⟨Z, c, k⟩ := q
    refine ⟨by decide, fun p hp => ?_⟩
    obtain ⟨c1, g1⟩ := go Z p c hp
    exact ⟨p, Z, c1, fun σ2 H2 g2 c2 => k σ2 H2 (g1.trans g2) c2⟩
  | rt r W2 =>
    obtain ⟨Z, c, k⟩ := q
    refine ⟨by decide, fun p hp => ?_⟩
    obtain ⟨c1, g1⟩ := go Z p c hp
    exact ⟨p, Z, c1, fun v H2 g2 d2 q2 => k v H2 (g1.trans g2) d2 q2⟩
theorem h_frz (k : Nat) (h : PSs X sts (oS W (ρ.set k (some (.d (.list ds)))) o)) (hk : ρ[k]? = some (some (.v (.ref p))) := by rfl) : PSs X sts (oS (.lst p ds :: W) ρ o) := by
  refine PSsto h fun D σ H q => ?_
  cases o with
  | nx W2 ρ2 =>
    obtain ⟨Z, c, q⟩ := q
    exact ⟨Z, (c.perm mid).frz hk, fun σ2 H2 g2 c2 => q σ2 H2 ((Go.drop.permL mid.symm).trans g2) c2⟩
  | rt r W2 =>
    obtain ⟨Z, c, q⟩ := q
    exact ⟨Z, (c.perm mid).frz hk, fun v H2 g2 d2 q2 => q v H2 ((Go.drop.permL mid.symm).trans g2) d2 q2⟩
theorem s_append (k : Nat) (he : PE X e (tE (.lst p ds :: W) ρ (.d d) (.lst p ds :: W1))) (hz : ds.length < sizeLine) (hk : ρ[k]? = some (some (.v (.ref p))) := by rfl) (hN : X.N[k]? = some x := by rfl) (hv : Vis X.env.scope x := by first | exact Or.inl rfl | exact Or.inr (Or.inl rfl) | exact Or.inr (Or.inr rfl))
    (hd : (x == ("__debug__" : Str)) = false := by decide) (hcd : (x == ("__classdict__" : Str)) = false := by decide) (hsw : swapsWith (.Call (.Attribute (.Name x xp) "append" ap) [e] [] cp) none pos.line X.env = pure false := by rfl)
    (hbase : attributeBase (.Name x xp) "append" X.env (eval (.Name x xp) X.env) = eval (.Name x xp) X.env := by rfl)
    (hfew : ((backTo cp (starEach [e] X.env)).all (fun x => !x.1) && (backToKw cp (keywordEach [] X.env)).all (fun x => x.1.isSome) && decide ([e].length + ([] : List Keyword).length + (if ([] : List Keyword).isEmpty then 0 else 1) < 30)) = true := by rfl)
    (hline : (ap.endLine == cp.line) = true := by rfl) (hst : starEach [e] X.env = (false, eval e X.env) :: starEach [] X.env := by rfl) (hpl : (backTo cp (starEach [] X.env)).any (·.1) = false := by rfl) :
    PS X (.Expr (.Call (.Attribute (.Name x xp) "append" ap) [e] [] cp) pos) (oS (.lst p ds :: W) ρ (.nx (.lst p (ds ++ [d]) :: W1) ρ)) := by
  refine PSto (ps_expr (pe_bm PySem.F.plainAttrs_list PySem.F.slot_list_append PySem.F.type_list_append mt_append (e_var (W := .lst p ds :: W) k hk hN hv hd hcd) (a_cons he a_nil hst) hbase hfew hline hst hpl) hsw) fun D σ H ⟨Z, c, q⟩ => ?_
  refine ⟨Z, c, fun v H1 g1 d1 q1 => ?_⟩
  have q1 : v = .ref p := q1
  subst q1
  obtain ⟨vs0, w1, w2⟩ := d1.hold (.lst p ds) (by simp)
  refine ⟨.inl ⟨rfl, _, SqL.of w1⟩, Z, c.go g1 d1, fun vs H2 g2 d2 q2 => ?_⟩
  obtain ⟨y, rfl, hy⟩ := rpl_1 q2
  have c2 := ((c.go g1 d1).go g2 d2).perm mid
  obtain ⟨acc, e1, e2⟩ := c2.hd.hold (.lst p ds) List.mem_cons_self
  rw [off_perm (adrs_perm mid) H2] at hy
  obtain ⟨z1, z2⟩ := Cf.put (a := p) (o := .lst p ds) (ds := ds ++ [d]) (vs := acc ++ [y]) rfl c2 (e2.append (DaL.cons hy DaL.nil))
  refine ⟨p, acc, y, rfl, rfl, e1, by rw [e2.length]; exact hz, ?_⟩
  exact q σ _ ((g1.trans g2).trans ((z2.permL mid.symm).permR mid.symm)) (z1.perm mid.symm)
theorem s_extend (k : Nat) (he : PE X e (tE (.lst p ds :: W) ρ (.d (.list es)) (.lst p ds :: W1))) (hz : ds.length + es.length ≤ sizeLine) (hk : ρ[k]? = some (some (.v (.ref p))) := by rfl) (hN : X.N[k]? = some x := by rfl) (hv : Vis X.env.scope x := by first | exact Or.inl rfl | exact Or.inr (Or.inl rfl) | exact Or.inr (Or.inr rfl))
    (hd : (x == ("__debug__" : Str)) = false := by decide) (hcd : (x == ("__classdict__" : Str)) = false := by decide) (hsw : swapsWith (.Call (.Attribute (.Name x xp) "extend" ap) [e] [] cp) none pos.line X.env = pure false := by rfl)
    (hbase : attributeBase (.Name x xp) "extend" X.env (eval (.Name x xp) X.env) = eval (.Name x xp) X.env := by rfl)
    (hfew : ((backTo cp (starEach [e] X.env)).all (fun x => !x.1) && (backToKw cp (keywordEach [] X.env)).all (fun x => x.1.isSome) && decide ([e].length + ([] : List Keyword).length + (if ([] : List Keyword).isEmpty then 0 else 1) < 30)) = true := by rfl)
    (hline : (ap.endLine == cp.line) = true := by rfl) (hst : starEach [e] X.env = (false, eval e X.env) :: starEach [] X.env := by rfl) (hpl : (backTo cp (starEach [] X.env)).any (·.1) = false := by rfl) :
    PS X (.Expr (.Call (.Attribute (.Name x xp) "extend" ap) [e] [] cp) pos) (oS (.lst p ds :: W) ρ (.nx (.lst p (ds ++ es) :: W1) ρ)) := by
  refine PSto (ps_expr (pe_bm PySem.F.plainAttrs_list PySem.F.slot_list_extend PySem.F.type_list_extend mt_extend (e_var (W := .lst p ds :: W) k hk hN hv hd hcd) (a_cons he a_nil hst) hbase hfew hline hst hpl) hsw) fun D σ H ⟨Z, c, q⟩ => ?_
  refine ⟨Z, c, fun v H1 g1 d1 q1 => ?_⟩
  have q1 : v = .ref p := q1
  subst q1
  obtain ⟨vs0, w1, w2⟩ := d1.hold (.lst p ds) (by simp)
  refine ⟨.inl ⟨rfl, _, SqL.of w1⟩, Z, c.go g1 d1, fun vs H2 g2 d2 q2 => ?_⟩
  obtain ⟨y, rfl, hy⟩ := rpl_1 q2
  have c2 := ((c.go g1 d1).go g2 d2).perm mid
  obtain ⟨acc, e1, e2⟩ := c2.hd.hold (.lst p ds) List.mem_cons_self
  rw [off_perm (adrs_perm mid) H2, rp_lst] at hy
  obtain ⟨b, zs, rfl, hb1, hb2⟩ := hy
  obtain ⟨z1, z2⟩ := Cf.put (a := p) (o := .lst p ds) (ds := ds ++ es) (vs := acc ++ zs) rfl c2 (e2.append hb2)
  refine ⟨p, b, acc, zs, rfl, rfl, e1, off_sub _ _ hb1, by rw [e2.length, hb2.length]; exact hz, ?_⟩
  exact q σ _ ((g1.trans g2).trans ((z2.permL mid.symm).permR mid.symm)) (z1.perm mid.symm)
end
end SG
set_option Elab.async false
set_option linter.all false
set_option maxRecDepth 100000
set_option maxHeartbeats 4000000
namespace SG
open PySem PySem.Spec PyProof.Rows L2
theorem fold_app {α β : Type} (f : α → β) : ∀ (xs : List α) (acc : List β), xs.foldl (fun acc a => acc ++ [f a]) acc = acc ++ xs.map f
  | [], acc => by simp
  | a :: xs, acc => by
    show xs.foldl _ (acc ++ [f a]) = _
    rw [fold_app f xs, List.map_cons, List.append_assoc]
    rfl
def dealsTo (G : Sp2) (cover lot : List Nat) (t : Nat) : List Nat := ((cover.zip lot).filter fun p => decide (t ∈ G.2.getD p.1 [])).map (·.2)
def dealtM (G : Sp2) (cover lot : List Nat) : List Nat := (List.range G.1).map fun t => (dealsTo G cover lot t).getD 0 0
theorem cov_of {G : Sp2} {cover : List Nat} (hb : bare G cover = []) {t : Nat} (ht : t < G.1) : ∃ k ∈ cover, t ∈ G.2.getD k [] := by
  false_or_by_contra
  rename_i hn
  have : t ∈ bare G cover := by
    unfold bare
    refine List.mem_filter.mpr ⟨List.mem_range.mpr ht, ?_⟩
    rw [Bool.not_eq_true', List.any_eq_false]
    intro k hk hd
    exact hn ⟨k, hk, of_decide_eq_true hd⟩
  rw [hb] at this
  cases this
theorem zip_fst {α β : Type} : ∀ {xs : List α} {ys : List β} {a : α}, xs.length = ys.length → a ∈ xs → ∃ b, (a, b) ∈ xs.zip ys
  | [], _, _, _, h => nomatch h
  | x :: xs, [], _, h, _ => by cases h
  | x :: xs, y :: ys, a, h, m => by
    rcases List.mem_cons.mp m with z | z
    · exact ⟨y, by rw [z]; exact List.mem_cons_self⟩
    · obtain ⟨b, hb⟩ := zip_fst (xs := xs) (ys := ys) (Nat.succ.inj h) z
      exact ⟨b, List.mem_cons_of_mem _ hb⟩
theorem deals_ne {G : Sp2} {cover lot : List Nat} (hb : bare G cover = []) (hl : cover.length = lot.length) {t : Nat} (ht : t < G.1) : dealsTo G cover lot t ≠ [] := by
  obtain ⟨k, hk, hm⟩ := cov_of hb ht
  obtain ⟨b, hz⟩ := zip_fst hl hk
  intro z
  have : b ∈ dealsTo G cover lot t := List.mem_map.mpr ⟨(k, b), List.mem_filter.mpr ⟨hz, decide_eq_true hm⟩, rfl⟩
  rw [z] at this
  cases this
section
variable {P : Program} {w : World} {K : PySem.W.Frag} {mg : Str → Option Value} {base : Heap}
inductive F_dealt_by : Spec
  | mk {G : Sp2} {cover lot : List Nat} (hG : OkSys G) (h : ∀ k ∈ cover, k < G.2.length) (hb : bare G cover = []) (hl : cover.length = lot.length) (hz : cover.length ≤ 90) : F_dealt_by [] [.d (spD G), .d (lotD cover), .d (lotD lot)] (.d (lotD (dealtM G cover lot))) []
theorem sc_dealt_by : FnScope ["system", "cover", "lot", "found", "teller", "point", "one"] ["system", "cover", "lot"] (C8.fnScope s_dealt_by) := ⟨rfl, rfl, rfl, by decide +kernel, rfl, by decide +kernel, by decide +kernel⟩
theorem f_dealt_by (T : Top K mg) : Fn P w K mg base false 1 "dealt_by" F_dealt_by := by
  refine Fn.of T.s_dealt_by sc_dealt_by (fun _ _ _ _ _ _ us hl => match us, hl with | [_, _, _], _ => rfl) (by rintro _ _ _ _ ⟨⟩ <;> rfl) fun f cdv A outer s H E hr W rs r W' hF => ?_
  cases hF with | @mk G cover lot hG h hb hl hz =>
  have hg := hG.le
  have hz2 : (cover.zip lot).length < sizeLine := by
    rw [List.length_zip]
    exact Nat.lt_of_le_of_lt (show _ ≤ 90 by omega) (by decide)
  refine h_new 3 (fun p => ?_) sc_dealt_by.nd
  refine h_cons (s_forI (fun j => [.lst p ((List.range j).map fun t => nD ((dealsTo G cover lot t).getD 0 0))]) (fun _ => [some (.d (spD G)), some (.d (lotD cover)), some (.d (lotD lot)), some (.v (.ref p)), none, none, none]) 4 (xs := List.range G.1) (gg := nD) (i_rgN T.b_range (a_cons (r_ix (e_var 0) e_nat x_sp0) a_nil) (by first | assumption | omega | decide)) sc_dealt_by.nd (by repeat (first | exact trivial | refine ⟨.inr rfl, ?_⟩ | refine ⟨.inl rfl, ?_⟩)) (fun j t hj => ?_)) ?_
  · obtain ⟨ht, e⟩ := List.getElem?_eq_some_iff.mp hj
    rw [List.length_range] at ht
    rw [List.getElem_range] at e
    subst e
    have hne : 0 < (dealsTo G cover lot j).length := List.length_pos_iff.mpr (deals_ne hb hl ht)
    have hsz : ((List.range j).map fun t => nD ((dealsTo G cover lot t).getD 0 0)).length < sizeLine := by
      rw [List.length_map, List.length_range]
      exact Nat.lt_of_le_of_lt (show j ≤ 5 by omega) (by decide)
    rw [List.range_succ, List.map_append, List.map_singleton]
    have hk : ∀ a ∈ cover.zip lot, a.1 < G.2.length := fun a ha => h _ (List.of_mem_zip (a := a.1) (b := a.2) ha).1
    exact hs_wk (h_one (s_append 3 (r_ix (e_to (.d (.list ((dealsTo G cover lot j).map nD))) (e_comp (comp_P [("one", 6), ("point", 5)] 6 5 (p := fun p => decide (j ∈ G.2.getD p.1 [])) (f := fun p => nD p.2) (xs := cover.zip lot) (i_zT T.b_zip (a_cons (e_var 1) (a_cons (e_var 2) a_nil))) sc_dealt_by.nd (by first | assumption | omega | exact hk _ ‹_› | decide) (fun a ha s H C cl fp => s_one (rt_cmp (e_var 4) (r_ix (r_ix (e_var 0) e_nat x_sp1) (e_var 6) (x_lots (by first | assumption | omega | exact hk _ ‹_› | decide))) c_inN)) (fun a ha hp s H C cl fp => (e_var 5)) (fun s H C cl fp => g_pr 6 5 sc_dealt_by.nd))) (by unfold dealsTo; rw [List.map_map]; rfl)) e_nat (x_nl hne)) hsz)) (by repeat (first | exact trivial | refine ⟨.inr rfl, ?_⟩ | refine ⟨.inl rfl, ?_⟩))
  · refine h_frz 3 ?_
    refine h_one (s_retE (r_calT (a_cons (e_var 3) a_nil) f_tuple T.b_tuple rfl) ?_)
    rw [List.length_range]
    unfold dealtM lotD
    rw [List.map_map]
    rfl
end
end SG
set_option Elab.async false
set_option linter.all false
set_option maxRecDepth 100000
set_option maxHeartbeats 4000000
namespace SG
open PySem PySem.Spec PyProof.Rows L2
def lotN (d : PyData) : List Nat := match d with
  | .tuple ds => ds.map fun d => (toI d).toNat
  | _ => []
def isCov (G : Sp2) (d : PyData) : Bool := isLot (G.2.length : Int) d && (bare G (lotN d)).isEmpty
def isBT (S G : Sp2) (d : PyData) : Bool := match d with
  | .tuple ds => decide (ds.length = G.1) && ((ds.all fun d => isInt d 0 ((S.1 : Int) - 1)) && (safeIn S G (lotN d)).isEmpty)
  | _ => false
def isTree (G : Sp2) : Nat → List Nat → PyData → Bool
  | n, ns, .tuple [a, .tuple ds] => isInt a 0 ((G.1 : Int) - 1) && (decide ((toI a).toNat ∈ bare G ns) && (match n with
    | 0 => ds.isEmpty
    | n + 1 => decide (ds.length = (with_ G (toI a).toNat).length) && ((with_ G (toI a).toNat).zip ds).all fun p => isTree G n (ns ++ [p.1]) p.2))
  | _, _, _ => false
theorem ints_lot {ds : List PyData} {n : Nat} (h : (ds.all fun d => isInt d 0 ((n : Int) - 1)) = true) : PyData.tuple ds = lotD (lotN (.tuple ds)) ∧ ∀ p ∈ lotN (.tuple ds), p < n := by
  have key : ∀ d ∈ ds, ∃ k : Nat, d = nD k ∧ k < n := fun d hd => by
    have hi := List.all_eq_true.mp h d hd
    obtain ⟨i, rfl⟩ := isInt_int hi
    have : (decide (0 ≤ i) && decide (i ≤ (n : Int) - 1)) = true := hi
    rw [Bool.and_eq_true, decide_eq_true_eq, decide_eq_true_eq] at this
    exact ⟨i.toNat, by show PyData.int i = PyData.int _; congr 1; omega, by omega⟩
  unfold lotD lotN
  refine ⟨?_, fun p hp => ?_⟩
  · congr 1
    rw [List.map_map]
    refine (List.map_id ds).symm.trans (List.map_congr_left fun d hd => ?_)
    obtain ⟨k, rfl, _⟩ := key d hd
    show nD k = nD (toI (nD k)).toNat
    simp [toI]
  · obtain ⟨d, hd, rfl⟩ := List.mem_map.mp hp
    obtain ⟨k, rfl, hk⟩ := key d hd
    simpa [toI] using hk
theorem asc_pw : ∀ {l : List Nat}, asc (castL l) = true → l.Pairwise (· < ·)
  | [], _ => List.Pairwise.nil
  | [a], _ => List.pairwise_singleton _ _
  | a :: b :: l, h => by
    unfold asc castL at h
    simp only [List.map_cons, List.drop_succ_cons, List.drop_zero, List.zip_cons_cons, List.all_cons, Bool.and_eq_true, decide_eq_true_eq] at h
    have ih := asc_pw (l := b :: l) (by
      unfold asc castL
      simp only [List.map_cons, List.drop_succ_cons, List.drop_zero]
      exact h.2)
    refine List.pairwise_cons.mpr ⟨fun c hc => ?_, ih⟩
    rcases List.mem_cons.mp hc with z | z
    · rw [z]; omega
    · have := (List.pairwise_cons.mp ih).1 c z
      omega
theorem isLot_inv {n : Nat} {d : PyData} (h : isLot (n : Int) d = true) : d = lotD (lotN d) ∧ (lotN d).Pairwise (· < ·) ∧ ∀ p ∈ lotN d, p < n := by
  cases d with
  | tuple ds =>
    have h' : ((ds.all fun d => isInt d 0 ((n : Int) - 1)) && asc (ds.map toI)) = true := h
    rw [Bool.and_eq_true] at h'
    obtain ⟨h1, h2⟩ := ints_lot h'.1
    refine ⟨h1, asc_pw ?_, h2⟩
    have e : ds.map toI = castL (lotN (.tuple ds)) := by
      have : ds = (lotN (.tuple ds)).map nD := by
        have := h1
        unfold lotD at this
        exact PyData.tuple.inj this
      rw [this]
      unfold lotN
      simp only [List.map_map]
      unfold castL
      rw [List.map_map]
      refine List.map_congr_left fun a _ => ?_
      simp [toI]
    rw [← e]
    exact h'.2
  | _ => cases h
theorem len_lt {l : List Nat} {n : Nat} (h : l.Pairwise (· < ·)) (hb : ∀ p ∈ l, p < n) : l.length ≤ n := by
  have hs : l ⊆ List.range n := fun p hp => List.mem_range.mpr (hb p hp)
  have := List.Nodup.length_le_of_subset (h.imp fun {a b} z => Nat.ne_of_lt z) hs
  rwa [List.length_range] at this
section
variable {P : Program} {w : World} {K : PySem.W.Frag} {mg : Str → Option Value} {base : Heap}
inductive F_is_cover : Spec
  | mk {G : Sp2} {d : PyData} (hG : OkSys G) (h : Sh d) (hz : ∀ ds, d = .tuple ds → ds.length < sizeLine) : F_is_cover [] [.d (spD G), .d d] (B_ (isCov G d)) []
theorem sc_is_cover : FnScope ["system", "thing"] ["system", "thing"] (C8.fnScope s_is_cover) := ⟨rfl, rfl, rfl, by decide +kernel, rfl, by decide +kernel, by decide +kernel⟩
theorem f_is_cover (T : Top K mg) : Fn P w K mg base false 3 "is_cover" F_is_cover := by
  refine Fn.of T.s_is_cover sc_is_cover (fun _ _ _ _ _ _ us hl => match us, hl with | [_, _], _ => rfl) (by rintro _ _ _ _ ⟨⟩ <;> rfl) fun f cdv A outer s H E hr W rs r W' hF => ?_
  cases hF with | @mk G d hG h hz =>
  have hg := hG.le
  have hn := hG.n
  refine h_one (s_ret ?_)
  cases hL : isLot (G.2.length : Int) d with
  | false =>
    have e : isCov G d = false := by unfold isCov; rw [hL]; rfl
    rw [e]
    exact v_andF (e_to (B_ false) (r_callP (f_is_lot T) (hr.mono (by decide)) (a_cons (r_calB (a_cons (r_ix (e_var 0) e_nat x_sp1) a_nil) f_lenNs T.b_len rfl) (a_cons (e_var 1) a_nil)) (.mk (by first | assumption | omega | decide) (by first | assumption | omega | decide))) (by rw [hL]))
  | true =>
    obtain ⟨e1, e2, e3⟩ := isLot_inv hL
    have hlen := len_lt e2 e3
    have e : isCov G d = (bare G (lotN d)).isEmpty := by unfold isCov; rw [hL]; rfl
    rw [e]
    generalize lotN d = l at e1 e2 e3 hlen
    subst e1
    have hlz : l.length < sizeLine := Nat.lt_of_le_of_lt (Nat.le_trans hlen hn) (by decide)
    exact v_andT (e_to (B_ true) (r_callP (f_is_lot T) (hr.mono (by decide)) (a_cons (r_calB (a_cons (r_ix (e_var 0) e_nat x_sp1) a_nil) f_lenNs T.b_len rfl) (a_cons (e_var 1) a_nil)) (.mk sh_lot (lot_hz (by first | assumption | omega | decide)))) (by rw [hL])) (v_one (r_cmp (r_callP (f_bare_tellers T) (hr.mono (by decide)) (a_cons (e_var 0) (a_cons (e_var 1) a_nil)) (.mk (by first | assumption | omega | decide) (by first | assumption | omega | decide) (by first | assumption | omega | decide))) e_nilL (c_mL0 hr.units (by first | assumption | exact sh_lot | exact sh_nl | exact sh_ll | exact sh_lots | exact sh_int | exact sh_bool | exact sh_none | exact sh_nil | exact sh_nilT | exact sh_ones _))))
inductive F_is_bare_told : Spec
  | mk {S G : Sp2} {d : PyData} (hS : OkSp S) (hG : OkSys G) (h : Sh d) (hz : ∀ ds, d = .tuple ds → ds.length < sizeLine) : F_is_bare_told [] [.d (spD S), .d (spD G), .d d] (B_ (isBT S G d)) []
theorem sc_is_bare_told : FnScope ["space", "system", "thing", "point"] ["space", "system", "thing"] (C8.fnScope s_is_bare_told) := ⟨rfl, rfl, rfl, by decide +kernel, rfl, by decide +kernel, by decide +kernel⟩
theorem f_is_bare_told (T : Top K mg) : Fn P w K mg base false 5 "is_bare_told" F_is_bare_told := by
  refine Fn.of T.s_is_bare_told sc_is_bare_told (fun _ _ _ _ _ _ us hl => match us, hl with | [_, _, _], _ => rfl) (by rintro _ _ _ _ ⟨⟩ <;> rfl) fun f cdv A outer s H E hr W rs r W' hF => ?_
  cases hF with | @mk S G d hS hG h hz =>
  have hg := hG.le
  have hs := hS.le
  have few := few_sp hS
  by_cases ht : ∃ ds, d = .tuple ds
  · obtain ⟨ds, rfl⟩ := ht
    have hz' := hz ds rfl
    have hsh : ∀ x ∈ ds, Sh x := sh_tup h
    refine h_ifR (k := !decide (ds.length = G.1)) (PW.pt (w_orF (t_notF (t_val (r_calB (a_cons (e_var 2) (a_cons (e_bty T.b_tuple rfl) a_nil)) f_isTupT T.b_isinstance rfl))) (w_or1 (rt_cmp (r_calB (a_cons (e_var 2) a_nil) f_lenT T.b_len rfl) (r_ix (e_var 1) e_nat x_sp0) c_neN)))) (fun h1 => h_one (s_retE e_bl ?_)) (fun h2 => ?_)
    · have e : decide (ds.length = G.1) = false := by simpa using h1
      show B_ false = B_ (_ && _)
      rw [e]
      rfl
    · have el : ds.length = G.1 := by simpa using h2
      refine h_ifR (k := !(ds.all fun d => isInt d 0 ((S.1 : Int) - 1))) (t_not (t_val (r_calB (a_cons (e_comp (comp_M [("point", 3)] 3 (f := fun d => PyData.bool (isInt d 0 ((S.1 : Int) - ((1 : Nat) : Int)))) (xs := ds) (i_id (i_tup (e_var 2))) sc_is_bare_told.nd (by first | assumption | omega | exact hsh _ ‹_› | decide) (fun a ha s H C cl fp => (r_callP (f_is_integer T) (hr.mono (by decide)) (a_cons (e_var 3) (a_cons e_nat (a_cons (r_bin (r_ix (e_var 0) e_nat x_sp0) e_nat b_sub) a_nil))) (.mk (by first | assumption | omega | exact hsh _ ‹_› | decide)))) (fun s H C cl fp => g_nm 3 sc_is_bare_told.nd))) a_nil) f_allM T.b_all rfl))) (fun h3 => h_one (s_retE e_bl ?_)) (fun h4 => ?_)
      · have e : (ds.all fun d => isInt d 0 ((S.1 : Int) - 1)) = false := by simpa using h3
        show B_ false = B_ (_ && (_ && _))
        rw [e]
        simp
      · have e : (ds.all fun d => isInt d 0 ((S.1 : Int) - 1)) = true := by simpa using h4
        obtain ⟨e1, e2⟩ := ints_lot e
        have hlen : (lotN (.tuple ds)).length = G.1 := by
          unfold lotN
          rw [List.length_map]
          exact el
        have e3 : isBT S G (.tuple ds) = (safeIn S G (lotN (.tuple ds))).isEmpty := by
          show (decide (ds.length = G.1) && (_ && _)) = _
          rw [e, decide_eq_true el]
          simp
        rw [e3]
        generalize hl : lotN (.tuple ds) = l at e1 e2 hlen
        have e4 : (some (Sl.d (PyData.tuple ds)) : Option Sl) = some (.d (lotD l)) := by rw [e1]
        have hl64 : l.length < 64 := by omega
        have hgz : G.2.length < sizeLine := Nat.lt_of_le_of_lt hG.n (by decide)
        have hs9 : S.1 ≤ 9 := by omega
        refine PSsto (h_one (s_ret (W := []) (ρ := [some (.d (spD S)), some (.d (spD G)), some (.d (lotD l)), none]) (r_cmp (r_callP (f_safe_in T) (hr.mono (by decide)) (a_cons (e_var 0) (a_cons (e_var 1) (a_cons (e_var 2) a_nil))) (.mk (by first | assumption | omega | exact hsh _ ‹_› | decide) (by first | assumption | omega | exact hsh _ ‹_› | decide) (by first | assumption | omega | exact hsh _ ‹_› | decide) (by first | assumption | omega | exact hsh _ ‹_› | decide) (by first | assumption | omega | exact hsh _ ‹_› | decide))) e_nilT (c_lot0 hr.units)))) fun D σ H q => ?_
        have e5 : st0 ["space", "system", "thing", "point"] [.d (spD S), .d (spD G), .d (.tuple ds)] = [some (.d (spD S)), some (.d (spD G)), some (.d (lotD l)), none] := by rw [e1]; rfl
        rw [← e5]
        exact q
  · have e : isBT S G d = false := by cases d <;> first | rfl | exact absurd ⟨_, rfl⟩ ht
    rw [e]
    refine h_ifT (PW.pt (w_orT (t_notT (t_val (k := false) (e_eq (r_calB (a_cons (e_var 2) (a_cons (e_bty T.b_tuple rfl) a_nil)) (f_isTup (Sh.nd (by first | assumption | omega | exact hsh _ ‹_› | decide))) T.b_isinstance rfl) ?_))))) (h_one (s_ret e_bl))
    cases d <;> first | rfl | exact absurd ⟨_, rfl⟩ ht
end
end SG
set_option Elab.async false
set_option linter.all false
set_option maxRecDepth 100000
set_option maxHeartbeats 4000000
namespace SG
open PySem PySem.Spec PyProof.Rows L2
section
variable {P : Program} {w : World} {K : PySem.W.Frag} {mg : Str → Option Value} {base : Heap}
theorem isCov_lot {G : Sp2} {l : List Nat} (h1 : l.Pairwise (· < ·)) (h2 : ∀ p ∈ l, p < G.2.length) : isCov G (lotD l) = (bare G l).isEmpty := by
  unfold isCov
  rw [isLot_lot h1 h2]
  have e : lotN (lotD l) = l := by
    unfold lotD lotN
    simp only [List.map_map]
    refine (List.map_congr_left fun a _ => ?_).trans (List.map_id l)
    simp [toI]
  rw [e]
  rfl
inductive F_dealt : Spec
  | mk {S G : Sp2} {cover lot : List Nat} (hS : OkSp S) (hG : OkSys G) (c1 : cover.Pairwise (· < ·)) (c2 : ∀ k ∈ cover, k < G.2.length) (c3 : bare G cover = []) (l1 : lot.Pairwise (· < ·)) (l2 : ∀ p ∈ lot, p < S.1) (hl : cover.length = lot.length) (hs : strayM (spansM S) (mask lot) = true) :
      F_dealt [] [.d (spD S), .d (spD G), .d (lotD cover), .d (lotD lot)] (.d (lotD (dealtM G cover lot))) []
theorem sc_dealt : FnScope ["space", "system", "cover", "lot"] ["space", "system", "cover", "lot"] (C8.fnScope s_dealt) := ⟨rfl, rfl, rfl, by decide +kernel, rfl, by decide +kernel, by decide +kernel⟩
theorem f_dealt (T : Top K mg) : Fn P w K mg base false 6 "dealt" F_dealt := by
  refine Fn.of T.s_dealt sc_dealt (fun _ _ _ _ _ _ us hl => match us, hl with | [_, _, _, _], _ => rfl) (by rintro _ _ _ _ ⟨⟩ <;> rfl) fun f cdv A outer s H E hr W rs r W' hF => ?_
  cases hF with | @mk S G cover lot hS hG c1 c2 c3 l1 l2 hl hs =>
  have few := few_sp hS
  have hle := hS.le
  have hn := hG.n
  have hg := hG.le
  have h9 : S.1 ≤ 9 := by omega
  have hcl := len_lt c1 c2
  have hll := len_lt l1 l2
  have hcz : cover.length < sizeLine := Nat.lt_of_le_of_lt (Nat.le_trans hcl hn) (by decide)
  have hlz : lot.length < sizeLine := Nat.lt_of_le_of_lt (Nat.le_trans hll hle) (by decide)
  have hc90 : cover.length ≤ 90 := by omega
  have e1 : isLot (S.1 : Int) (lotD lot) = true := isLot_lot l1 l2
  have e2 : isCov G (lotD cover) = true := by rw [isCov_lot c1 c2, c3]; rfl
  have hm : mask lot < (spansM S).length := by rw [spansM_len]; exact mask_lt l1 l2
  have h64 : ∀ p ∈ lot, p ≤ 64 := fun p hp => by have := l2 p hp; omega
  refine h_cons (s_expr (r_callP (f_need_space T) (hr.mono (by decide)) (a_cons (e_var 0) a_nil) (.mk (by first | assumption | omega | decide)))) ?_
  refine h_cons (s_expr (r_callP (f_need_system T) (hr.mono (by decide)) (a_cons (e_var 1) a_nil) (.mk (by first | assumption | omega | decide)))) ?_
  refine h_cons (s_ifF (t_notF (t_val (e_to (B_ true) (r_callP (f_is_cover T) (hr.mono (by decide)) (a_cons (e_var 1) (a_cons (e_var 2) a_nil)) (.mk (by first | assumption | omega | decide) sh_lot (lot_hz (by first | assumption | omega | decide)))) (by rw [e2])))) h_nil) ?_
  refine h_cons (s_ifF (PW.pt (w_orF (t_notF (t_val (e_to (B_ true) (r_callP (f_is_lot T) (hr.mono (by decide)) (a_cons (r_ix (e_var 0) e_nat x_sp0) (a_cons (e_var 3) a_nil)) (.mk sh_lot (lot_hz (by first | assumption | omega | decide)))) (by rw [e1])))) (w_orF (t_eq (rt_cmp (r_calB (a_cons (e_var 3) a_nil) f_lenN T.b_len rfl) (r_calB (a_cons (e_var 2) a_nil) f_lenN T.b_len rfl) c_neN) (by simp [hl])) (w_or1 (t_notF (t_val (e_to (B_ true) (r_callP (f_is_stray_by T) (hr.mono (by decide)) (a_cons (r_callP (f_spans_of T) (hr.mono (by decide)) (a_cons (e_var 0) a_nil) (.mk (by first | assumption | omega | decide) (by first | assumption | omega | decide))) (a_cons (r_callP (f_mask_of T) (hr.mono (by decide)) (a_cons (e_var 3) a_nil) (.mk (by first | assumption | omega | decide) (by first | assumption | omega | decide))) a_nil)) (.mk (by first | assumption | omega | decide))) (by rw [hs])))))))) h_nil) ?_
  exact h_one (s_ret (r_callP (f_dealt_by T) (hr.mono (by decide)) (a_cons (e_var 1) (a_cons (e_var 2) (a_cons (e_var 3) a_nil))) (.mk (by first | assumption | omega | decide) (by first | assumption | omega | decide) (by first | assumption | omega | decide) (by first | assumption | omega | decide) (by first | assumption | omega | decide))))
def paperO (G : Sp2) (cover lot : List Nat) : PyData := .tuple [.str "open", lotD cover, lotD (dealtM G cover lot)]
inductive F_borne_paper : Spec
  | mk1 {S G : Sp2} (hS : OkSp S) (hG : OkSys G) (h1 : strayIn S ≠ []) (h2 : numberIn S ≤ 5) (hb : stays G (numberIn S) [] = true) (ho : Open G (numberIn S) []) :
      F_borne_paper [] [.d (spD S), .d (spD G)] (.d (.tuple [.str "borne", treeD G (numberIn S) []])) []
  | mk2 {S G : Sp2} {cover lot : List Nat} {rows ls : List (List Nat)} (hS : OkSp S) (hG : OkSys G) (h1 : strayIn S ≠ []) (h2 : numberIn S ≤ 5) (hb : stays G (numberIn S) [] = false) (hl : LeastOk G (cover :: rows)) (c2 : ∀ k ∈ cover, k < G.2.length) (c3 : bare G cover = []) (hc : cover.length ≤ 5)
      (hs : ((strayIn S).filter fun l => decide (l.length = cover.length)) = lot :: ls) :
      F_borne_paper [] [.d (spD S), .d (spD G)] (.d (paperO G cover lot)) []
theorem sc_borne_paper : FnScope ["space", "system", "most", "cover", "lot", "one"] ["space", "system"] (C8.fnScope s_borne_paper) := ⟨rfl, rfl, rfl, by decide +kernel, rfl, by decide +kernel, by decide +kernel⟩
theorem f_borne_paper (T : Top K mg) : Fn P w K mg base false 11 "borne_paper" F_borne_paper := by
  refine Fn.of T.s_borne_paper sc_borne_paper (fun _ _ _ _ _ _ us hl => match us, hl with | [_, _], _ => rfl) (by rintro _ _ _ _ ⟨⟩ <;> rfl) fun f cdv A outer s H E hr W rs r W' hF => ?_
  have h5 : Room 7 (bX P w K mg base _ _ _ f cdv A outer s H E).A := hr.mono (by decide)
  cases hF with
  | @mk1 S G hS hG h1 h2 hb ho =>
    have few := few_sp hS
    have hle := hS.le
    have hn := hG.n
    have hg := hG.le
    have h9 : S.1 ≤ 9 := by omega
    refine h_cons (s_expr (r_callP (f_need_space T) (hr.mono (by decide)) (a_cons (e_var 0) a_nil) (.mk (by first | assumption | omega | decide)))) ?_
    refine h_cons (s_expr (r_callP (f_need_system T) (hr.mono (by decide)) (a_cons (e_var 1) a_nil) (.mk (by first | assumption | omega | decide)))) ?_
    refine h_cons (s_set 2 (r_callP (f_number_in T) (hr.mono (by decide)) (a_cons (e_var 0) a_nil) (.mk (by first | assumption | omega | decide) (by first | assumption | omega | decide) (by first | assumption | omega | decide))) sc_borne_paper.nd) ?_
    refine h_ifT (t_val (e_to (B_ true) (r_callP (f_does_stay_bare T 5) h5 (a_cons (e_var 1) (a_cons (e_var 2) (a_cons (e_to (.d (lotD [])) e_nilT rfl) a_nil))) (.mk (n := numberIn S) (fun k hk => nomatch hk) (by omega) (by simp; omega) (by omega) h2)) (by rw [hb]))) ?_
    exact h_one (s_ret (e_tup2 (a_cons (e_gtxt T.c_BORNE) (a_cons (r_callP (f_tree_of T 5) h5 (a_cons (e_var 1) (a_cons (e_var 2) (a_cons (e_to (.d (lotD [])) e_nilT rfl) a_nil))) (.mk (n := numberIn S) (fun k hk => nomatch hk) hg (by simp; omega) (by omega) h2 ho)) a_nil))))
  | @mk2 S G cover lot rows ls hS hG h1 h2 hb hl c2 c3 hc hs =>
    have few := few_sp hS
    have hle := hS.le
    have hn := hG.n
    have hg := hG.le
    have h9 : S.1 ≤ 9 := by omega
    have hc90 : cover.length ≤ 90 := by omega
    have hll : cover.length = lot.length := by
      have : lot ∈ (strayIn S).filter fun l => decide (l.length = cover.length) := by rw [hs]; exact List.mem_cons_self
      have := (List.mem_filter.mp this).2
      exact (of_decide_eq_true this).symm
    have hz : (strayIn S).length < sizeLine := by
      unfold strayIn
      rw [(sortL_perm _).length_eq, List.length_map]
      refine Nat.lt_of_le_of_lt (List.length_filter_le _ _) ?_
      rw [List.length_range]
      exact Nat.lt_of_le_of_lt (Nat.pow_le_pow_right (n := 2) (by decide) h9) (by decide)
    refine h_cons (s_expr (r_callP (f_need_space T) (hr.mono (by decide)) (a_cons (e_var 0) a_nil) (.mk (by first | assumption | omega | decide)))) ?_
    refine h_cons (s_expr (r_callP (f_need_system T) (hr.mono (by decide)) (a_cons (e_var 1) a_nil) (.mk (by first | assumption | omega | decide)))) ?_
    refine h_cons (s_set 2 (r_callP (f_number_in T) (hr.mono (by decide)) (a_cons (e_var 0) a_nil) (.mk (by first | assumption | omega | decide) (by first | assumption | omega | decide) (by first | assumption | omega | decide))) sc_borne_paper.nd) ?_
    refine h_ifF (t_val (e_to (B_ false) (r_callP (f_does_stay_bare T 5) h5 (a_cons (e_var 1) (a_cons (e_var 2) (a_cons (e_to (.d (lotD [])) e_nilT rfl) a_nil))) (.mk (n := numberIn S) (fun k hk => nomatch hk) (by omega) (by simp; omega) (by omega) h2)) (by rw [hb]))) ?_
    refine h_cons (s_set 3 (r_ix (r_callP (f_least_in T) (hr.mono (by decide)) (a_cons (e_var 1) a_nil) (.mk hG hl)) e_nat (x_lm (ls := cover :: rows) (k := 0) (by simp))) sc_borne_paper.nd) ?_
    refine h_cons (s_set 4 (r := .d (lotD lot)) (r_ix (e_to (.d (.list ((lot :: ls).map lotD))) (e_comp (comp_N [("one", 5)] 5 (p := fun l => decide (l.length = cover.length)) (f := lotD) (xs := strayIn S) (i_lst (r_callP (f_stray_in T) (hr.mono (by decide)) (a_cons (e_var 0) a_nil) (.mk (by first | assumption | omega | decide) (by first | assumption | omega | decide)))) sc_borne_paper.nd (by first | assumption | omega | decide) (fun a ha s H C cl fp => s_one (rt_cmp (r_calB (a_cons (e_var 5) a_nil) f_lenN T.b_len rfl) (r_calB (a_cons (e_var 3) a_nil) f_lenN T.b_len rfl) c_eqN)) (fun a ha hp s H C cl fp => (e_var 5)) (fun s H C cl fp => g_nm 5 sc_borne_paper.nd))) (by rw [hs])) e_nat (x_lm (ls := lot :: ls) (k := 0) (by simp))) sc_borne_paper.nd) ?_
    exact h_one (s_ret (e_tup3 (a_cons (e_gtxt T.c_OPEN) (a_cons (e_var 3) (a_cons (r_callP (f_dealt_by T) (hr.mono (by decide)) (a_cons (e_var 1) (a_cons (e_var 3) (a_cons (e_var 4) a_nil))) (.mk (by first | assumption | omega | decide) (by first | assumption | omega | decide) (by first | assumption | omega | decide) (by first | assumption | omega | decide) (by first | assumption | omega | decide))) a_nil)))))
end
end SG
set_option Elab.async false
set_option linter.all false
set_option maxRecDepth 100000
set_option maxHeartbeats 4000000
namespace SG
open PySem PySem.Spec PyProof.Rows L2
mutual
def szD : PyData → Bool
  | .tuple ds => decide (ds.length ≤ 500000) && szA ds
  | .list ds => decide (ds.length ≤ 500000) && szA ds
  | _ => true
def szA : List PyData → Bool
  | [] => true
  | d :: ds => szD d && szA ds
end
/-- good data: no dicts, not too deep, nowhere too long -/
structure Gd (d : PyData) : Prop where
  sh : Sh d
  sz : szD d = true
theorem szA_mem : ∀ {ds : List PyData}, szA ds = true → ∀ d ∈ ds, szD d = true
  | [], _, d, h => nomatch h
  | a :: ds, h, d, m => by
    simp only [szA, Bool.and_eq_true] at h
    rcases List.mem_cons.mp m with z | z
    · rw [z]; exact h.1
    · exact szA_mem h.2 d z
theorem Gd.len {ds : List PyData} (h : Gd (.tuple ds)) : ds.length < sizeLine := by
  have := h.sz
  simp only [szD, Bool.and_eq_true, decide_eq_true_eq] at this
  exact Nat.lt_of_le_of_lt this.1 (by decide)
theorem Gd.mem {ds : List PyData} (h : Gd (.tuple ds)) : ∀ d ∈ ds, Gd d := fun d hd => by
  have := h.sz
  simp only [szD, Bool.and_eq_true] at this
  exact ⟨sh_tup h.sh d hd, szA_mem this.2 d hd⟩
theorem Gd.hz {d : PyData} (h : Gd d) : ∀ ds, d = .tuple ds → ds.length < sizeLine := fun ds e => by subst e; exact h.len
theorem bare_lt {G : Sp2} {ns : List Nat} {t : Nat} (h : t ∈ bare G ns) : t < G.1 := by
  unfold bare at h
  exact List.mem_range.mp (List.mem_filter.mp h).1
section
variable {P : Program} {w : World} {K : PySem.W.Frag} {mg : Str → Option Value} {base : Heap}
inductive F_is_tree (D : Nat) : Spec
  | mk {G : Sp2} {n : Nat} {ns : List Nat} {d : PyData} (hG : OkSys G) (h : ∀ k ∈ ns, k < G.2.length) (h2 : ns.length + n ≤ 90) (hd : n ≤ D) (hg : Gd d) : F_is_tree D [] [.d (spD G), I_ (n : Nat), .d (lotD ns), .d d] (B_ (isTree G n ns d)) []
theorem sc_is_tree : FnScope ["system", "depth", "numbers", "thing", "teller", "trees", "further", "one", "crew", "tree"] ["system", "depth", "numbers", "thing"] (C8.fnScope s_is_tree) := ⟨rfl, rfl, rfl, by decide +kernel, rfl, by decide +kernel, by decide +kernel⟩
theorem bi_is_tree : BindsF "is_tree" s_is_tree ["system", "depth", "numbers", "thing"] := fun _ _ _ _ _ _ us hl => match us, hl with | [_, _, _, _], _ => rfl
theorem f_is_tree_step (T : Top K mg) (D : Nat) (ih : ∀ d', D = d' + 1 → Fn P w K mg base false (d' + 3) "is_tree" (F_is_tree d')) : Fn P w K mg base false (D + 3) "is_tree" (F_is_tree D) := by
  refine Fn.of T.s_is_tree sc_is_tree bi_is_tree (by rintro _ _ _ _ ⟨⟩; rfl) fun f cdv A outer s H E hr W rs r W' hF => ?_
  cases hF with | @mk G n ns d hG h h2 hd hg =>
  have g1 := hG.le
  have g2 := hG.n
  have hg20 : G.1 < 2 ^ 20 := by omega
  have hns : ns.length < sizeLine := Nat.lt_of_le_of_lt (show ns.length ≤ 90 by omega) (by decide)
  have hz : (G.2.zipIdx).length < sizeLine := by rw [List.length_zipIdx]; exact Nat.lt_of_le_of_lt g2 (by decide)
  have hr1 : Room 1 (bX P w K mg base _ _ _ f cdv A outer s H E).A := hr.mono (by omega)
  by_cases ht : ∃ ds, d = .tuple ds
  rotate_left
  · have e : isTree G n ns d = false := by cases d <;> first | (cases n <;> simp [isTree]; done) | exact absurd ⟨_, rfl⟩ ht
    rw [e]
    refine h_ifT (PW.pt (w_orT (t_notT (t_val (k := false) (e_eq (r_calB (a_cons (e_var 3) (a_cons (e_bty T.b_tuple rfl) a_nil)) (f_isTup (Sh.nd (by first | assumption | omega | exact hg.sh | decide))) T.b_isinstance rfl) ?_))))) (h_one (s_ret e_bl))
    cases d <;> first | rfl | exact absurd ⟨_, rfl⟩ ht
  obtain ⟨ds, rfl⟩ := ht
  by_cases h22 : ds.length = 2
  rotate_left
  · have e : isTree G n ns (.tuple ds) = false := by
      match ds, h22 with
      | [], _ => cases n <;> simp [isTree]
      | [_], _ => cases n <;> simp [isTree]
      | [_, _], h => exact absurd rfl h
      | _ :: _ :: _ :: _, _ => cases n <;> simp [isTree]
    rw [e]
    exact h_ifT (PW.pt (w_orF (t_notF (t_val (r_calB (a_cons (e_var 3) (a_cons (e_bty T.b_tuple rfl) a_nil)) f_isTupT T.b_isinstance rfl))) (w_orT (t_eq (rt_cmp (r_calB (a_cons (e_var 3) a_nil) f_lenT T.b_len rfl) e_nat c_neN) (by simp [h22]))))) (h_one (s_ret e_bl))
  obtain ⟨a, b, rfl⟩ : ∃ a b, ds = [a, b] := by
    match ds, h22 with
    | [a, b], _ => exact ⟨a, b, rfl⟩
  have ha : Gd a := hg.mem a (by simp)
  have hb : Gd b := hg.mem b (by simp)
  cases hi : isInt a 0 ((G.1 : Int) - 1) with
  | false =>
    have e : isTree G n ns (.tuple [a, b]) = false := by cases b <;> cases n <;> simp [isTree, hi]
    rw [e]
    exact h_ifT (PW.pt (w_orF (t_notF (t_val (r_calB (a_cons (e_var 3) (a_cons (e_bty T.b_tuple rfl) a_nil)) f_isTupT T.b_isinstance rfl))) (w_orF (t_eq (rt_cmp (r_calB (a_cons (e_var 3) a_nil) f_lenT T.b_len rfl) e_nat c_neN) rfl) (w_or1 (t_notT (t_val (e_to (B_ false) (r_callP (f_is_integer T) hr1 (a_cons (r_ix (e_var 3) e_nat (x_tup (by rfl))) (a_cons e_nat (a_cons (r_bin (r_ix (e_var 0) e_nat x_sp0) e_nat b_sub) a_nil))) (.mk ha.sh)) (by rw [← hi]; rfl)))))))) (h_one (s_ret e_bl))
  | true =>
  refine h_ifF (PW.pt (w_orF (t_notF (t_val (r_calB (a_cons (e_var 3) (a_cons (e_bty T.b_tuple rfl) a_nil)) f_isTupT T.b_isinstance rfl))) (w_orF (t_eq (rt_cmp (r_calB (a_cons (e_var 3) a_nil) f_lenT T.b_len rfl) e_nat c_neN) rfl) (w_or1 (t_notF (t_val (e_to (B_ true) (r_callP (f_is_integer T) hr1 (a_cons (r_ix (e_var 3) e_nat (x_tup (by rfl))) (a_cons e_nat (a_cons (r_bin (r_ix (e_var 0) e_nat x_sp0) e_nat b_sub) a_nil))) (.mk ha.sh)) (by rw [← hi]; rfl)))))))) ?_
  obtain ⟨t, rfl, htl⟩ : ∃ t : Nat, a = nD t ∧ t < G.1 := by
    obtain ⟨i, rfl⟩ := isInt_int hi
    have : (decide (0 ≤ i) && decide (i ≤ (G.1 : Int) - 1)) = true := hi
    rw [Bool.and_eq_true, decide_eq_true_eq, decide_eq_true_eq] at this
    exact ⟨i.toNat, by show PyData.int i = PyData.int _; congr 1; omega, by omega⟩
  have et : (toI (nD t)).toNat = t := by simp [toI]
  refine h_cons (s_unpack 4 5 (e_var 3) (g_pr 4 5 sc_is_tree.nd)) ?_
  cases hm : decide (t ∈ bare G ns) with
  | false =>
    have e : isTree G n ns (.tuple [nD t, b]) = false := by cases b <;> cases n <;> simp [isTree, et, hm]
    rw [e]
    exact h_ifT (PW.pt (w_orT (t_eq (rt_cmp (e_var 4) (r_callP (f_bare_tellers T) hr1 (a_cons (e_var 0) (a_cons (e_var 2) a_nil)) (.mk h hg20 hns)) (c_niNL (l := bare G ns))) (by rw [hm]; rfl)))) (h_one (s_ret e_bl))
  | true =>
  by_cases hbt : ∃ ds, b = .tuple ds
  rotate_left
  · have e : isTree G n ns (.tuple [nD t, b]) = false := by cases b <;> first | (cases n <;> simp [isTree]; done) | exact absurd ⟨_, rfl⟩ hbt
    rw [e]
    refine h_ifT (PW.pt (w_orF (t_eq (rt_cmp (e_var 4) (r_callP (f_bare_tellers T) hr1 (a_cons (e_var 0) (a_cons (e_var 2) a_nil)) (.mk h hg20 hns)) (c_niNL (l := bare G ns))) (by rw [hm]; rfl)) (w_or1 (t_notT (t_val (k := false) (e_eq (r_calB (a_cons (e_var 5) (a_cons (e_bty T.b_tuple rfl) a_nil)) (f_isTup (Sh.nd (by first | assumption | omega | exact hb.sh | decide))) T.b_isinstance rfl) ?_)))))) (h_one (s_ret e_bl))
    cases b <;> first | rfl | exact absurd ⟨_, rfl⟩ hbt
  obtain ⟨ds, rfl⟩ := hbt
  refine h_ifF (PW.pt (w_orF (t_eq (rt_cmp (e_var 4) (r_callP (f_bare_tellers T) hr1 (a_cons (e_var 0) (a_cons (e_var 2) a_nil)) (.mk h hg20 hns)) (c_niNL (l := bare G ns))) (by rw [hm]; rfl)) (w_or1 (t_notF (t_val (r_calB (a_cons (e_var 5) (a_cons (e_bty T.b_tuple rfl) a_nil)) f_isTupT T.b_isinstance rfl)))))) ?_
  cases n with
  | zero =>
    have e : isTree G 0 ns (.tuple [nD t, .tuple ds]) = ds.isEmpty := by
      simp only [isTree, et, hm, hi, Bool.true_and]
    rw [e]
    exact h_ifT (t_eq (rt_cmp (e_var 1) e_nat c_eqN) rfl) (h_one (s_ret (r_cmp (e_var 5) e_nilT (c_nilT hr.units hb.sh))))
  | succ n =>
    have e : isTree G (n + 1) ns (.tuple [nD t, .tuple ds]) = (decide (ds.length = (with_ G t).length) && ((with_ G t).zip ds).all fun p => isTree G n (ns ++ [p.1]) p.2) := by
      simp only [isTree, et, hm, hi, Bool.true_and]
    rw [e]
    obtain ⟨d', rfl⟩ : ∃ d', D = d' + 1 := ⟨D - 1, by omega⟩
    have ihx := ih d' rfl
    have hr2 : Room (d' + 3) (bX P w K mg base _ _ _ f cdv A outer s H E).A := hr
    refine h_ifF (t_eq (rt_cmp (e_var 1) e_nat c_eqN) (by simp)) ?_
    refine h_cons (s_wk (s_setC 6 (comp_P [("one", 7), ("crew", 8)] 7 8 (p := fun p => decide (t ∈ p.1)) (f := fun p => nD p.2) (xs := G.2.zipIdx) (i_enT T.b_enumerate (a_cons (r_ix (e_var 0) e_nat x_sp1) a_nil)) sc_is_tree.nd (by first | assumption | omega | exact hb.sh | decide) (fun a ha s H C cl fp => s_one (rt_cmp (e_var 4) (e_var 8) c_inN)) (fun a ha hp s H C cl fp => (e_var 7)) (fun s H C cl fp => g_pr 7 8 sc_is_tree.nd))) (ρ2 := [some (.d (spD G)), some (I_ ((n + 1 : Nat) : Int)), some (.d (lotD ns)), none, none, some (.d (.tuple ds)), some (.d (.list ((with_ G t).map nD))), none, none, none]) ⟨.inr rfl, .inr rfl, .inr rfl, .inl rfl, .inl rfl, .inr rfl, .inr (wth_eq G _), .inr rfl, .inr rfl, .inr rfl, trivial⟩) ?_
    refine h_ifR (k := !decide (ds.length = (with_ G t).length)) (rt_cmp (r_calB (a_cons (e_var 5) a_nil) f_lenT T.b_len rfl) (r_calB (a_cons (e_var 6) a_nil) f_lenM T.b_len rfl) c_neN) (fun h1 => h_one (s_retE e_bl ?_)) (fun h2' => ?_)
    · have e : decide (ds.length = (with_ G t).length) = false := by simpa using h1
      rw [e]
      rfl
    · have el : decide (ds.length = (with_ G t).length) = true := by simpa using h2'
      have hwl : ((with_ G t).zip ds).length < sizeLine := by
        rw [List.length_zip]
        have := with_len G t
        exact Nat.lt_of_le_of_lt (show _ ≤ 5 by omega) (by decide)
      have hk : ∀ p ∈ (with_ G t).zip ds, (∀ j ∈ ns ++ [p.1], j < G.2.length) ∧ Gd p.2 := fun p hp => by
        obtain ⟨z1, z2⟩ := List.of_mem_zip (a := p.1) (b := p.2) hp
        refine ⟨fun j hj => ?_, hb.mem _ z2⟩
        rcases List.mem_append.mp hj with z | z
        · exact h j z
        · have : j = p.1 := by simpa using z
          rw [this]; exact with_lt z1
      refine h_one (s_retE (r_calB (a_cons (e_comp (comp_PM [("one", 7), ("tree", 9)] 7 9 (f := fun p => PyData.bool (isTree G n (ns ++ [p.1]) p.2)) (xs := (with_ G t).zip ds) (g2 := fun a => id a.2) (i_zM T.b_zip (a_cons (e_var 6) (a_cons (e_to (.d (.tuple (ds.map id))) (e_var 5) (by rw [List.map_id])) a_nil))) sc_is_tree.nd (by first | assumption | omega | (rw [List.length_map]; exact small_le (by omega)) | decide) (fun a ha s H C cl fp => (r_callP ihx hr2 (a_cons (e_var 0) (a_cons (r_bin (e_var 1) e_nat (b_subN (i := n + 1) (j := 1) (by omega))) (a_cons (e_to (.d (lotD (ns ++ [a.1]))) (e_tupS (a_star (e_var 2) (a_cons (e_var 7) a_nil)) (by first | assumption | omega | (rw [List.length_map]; exact small_le (by omega)) | decide)) (by unfold lotD; rw [List.map_append]; rfl)) (a_cons (e_var 9) a_nil)))) (.mk (n := n) hG (hk a ha).1 (by simp; omega) (by omega) (hk a ha).2))) (fun s H C cl fp => g_pr 7 9 sc_is_tree.nd))) a_nil) f_allM T.b_all rfl) ?_)
      rw [el]
      rfl
theorem f_is_tree (T : Top K mg) (D : Nat) : Fn P w K mg base false (D + 3) "is_tree" (F_is_tree D) := by
  induction D with
  | zero => exact f_is_tree_step T 0 fun d' e => by omega
  | succ d ih => exact f_is_tree_step T (d + 1) fun d' e => (show d = d' from by omega) ▸ ih
end
end SG
set_option Elab.async false
set_option linter.all false
set_option maxRecDepth 100000
set_option maxHeartbeats 4000000
/-! the paper's error: made, raised, read -/
namespace SG
open PySem PySem.W PySem.Calls PyProof.Rows PySem.HandSPX
/-- what is known of BadPaper, at C, and its __init__, at fI -/
structure BpT (prog : Program) (K : Frag) (mg : Str → Option Value) (C fI : Addr) : Prop where
  gC : mg "BadPaper" = some (.ref C)
  cls : ∃ nm q N bs bm sn sub ab col dd k0 k1 k2 k3 k5, K.lookup C = some (excClassObj nm q C N bs bm true sn sub ab col dd k0 k1 k2 k3 k5 "ValueError.__new__") ∧ refsVE bm = true
  sa : findIn K (.ref C) "__setattr__" = some (some (.builtin "object.__setattr__"))
  ga : findIn K (.ref C) "__getattribute__" = some (some (.builtin "BaseException.__getattribute__"))
  gg : findIn K (.ref C) "__getattr__" = some none
  noN : findIn K (.ref C) "part" = some none
  iC : findIn K (.ref C) "__init__" = some (some (.ref fI))
  tC : typeIn K (.ref fI) = some (.type "function")
  kC : keepIn K (.ref C) = true
  exC : subIn K (.ref C) (.type "BaseException") = some true
  veC : subIn K (.ref C) (.type "ValueError") = some true
  tyC : typeIn K (.ref C) = some (.type "type")
  hdC : hasDictIn K C = true
  te : exmOne K (.ref C) (.ref C) = some true
  op : nsIn K cStatics "thirdparty.any" = some none
  su : ks_superIn K C C "__init__" = some (some (.builtin "ValueError.__init__"))
  noS : nsIn K mainGlobals "super" = some none
  own : mroIn K C (.ref C) = some true
  top : (prog.main.scope.names.lookup ("super" : Str)).isSome = false
  fn : ∃ (oc : Value) (od : Option Addr) (doc pm : Value) (an : Option Addr) (cda cc : Addr) (ct : Value) (osl : Array (Option Value)) (cl : Value) (cld : Option Addr) (csl : Array (Option Value)) (ccl : Value) (cdd : Option Addr) (vs : Array Value) (ccs : Array (Option Value)) (file : Str) (tf : Tok),
    K.lookup fI = some ⟨oc, od, .func (ksFn "__init__" "BadPaper.__init__" (C8.fnArgs bpI) (C8.fnBody bpI) (C8.fnScope bpI) .none .none doc pm an (.ref cda) ct cc), osl⟩ ∧ codeIn K (.ref cda) "BadPaper.__init__" = true ∧
    K.lookup cc = some ⟨cl, cld, .cell (some (.ref C)), csl⟩ ∧ K.lookup cda = some ⟨ccl, cdd, .fields vs, ccs⟩ ∧ vs[2]? = some (.str file tf) ∧ ((prog.main.file : Str) == file) = true
theorem bp_one (v : Value) : [v].length ≤ sizeLine := by
  rw [sizeLine_eq]
  show 1 ≤ 16777216
  omega
/-- what __init__ leaves of a fresh exception at x -/
structure BpEnd (h h' : Heap) (x C dx t1 : Addr) (v : Value) : Prop where
  kp : ∀ b o, b ≠ x → h.get? b = some o → h'.get? b = some o
  ob : h'.get? x = some { cls := .ref C, dict := some dx, data := .fields #[.ref t1, .none, .none, .none, .bool false, .none] }
  db : h.objs.size ≤ dx
  dn : dx ≠ x
  ns : h'.Ns1 dx (fun y => if y = "part" then some v else none)
section
variable {prog : Program} {w : World} {A : Around} {E : Value → Shared → Prop} {R : Result → Shared → Prop} {s : Shared} {K : Frag} {mg mb : Str → Option Value} {C fI : Addr}
theorem cw1 {M : Model} {u x : Addr} {i : String} {env : Env} {e : Expr} {pos : Pos} {Q : Value → Shared → Prop} (h : wpAny M A (eval e env) (fun v s₁ => KxsAt i u x s₁.heap ∧ wpAny M A (call (.ref u) [v]) Q E s₁) E s) (he : starEach [e] env = [(false, eval e env)] := by rfl) :
    wpAny M A (callWith pos (.ref u) [] (backTo pos (starEach [e] env)) []) Q E s := by
  rw [he]
  refine kxs_callWith (i := i) (x := x) rfl (evalArgs_plain ?_)
  show wpAny _ _ (spliced ((false, eval e env) :: [])) _ _ _
  refine spliced_cons (wpAny_mono h (fun v s₁ q => spliced_nil ?_) fun _ _ z => z)
  exact q
theorem call_mw {h : Heap} {g : Array GenState} {d : Drawn} {t : Nat} {os : OsState} {u e t0 : Addr} {rest : List Value} {i newId : String} {Bn : String} {bmB : List Value} {Q : Value → Shared → Prop} (FB : ExcBaseFacts Bn newId i bmB)
    {nm q : Str} {N : Addr} {bs bm : List Value} {hdct : Bool} {sn : List Str} {sub : List Value} {ab : Bool} {col : Option Bool} {dd : Option Addr} {k0 k1 k2 k3 k5 : Option Value} (hC : h.get? C = some (excClassObj nm q C N bs bm hdct sn sub ab col dd k0 k1 k2 k3 k5 newId)) (he : h.get? e = some (excO C t0))
    (hu : h.get? u = some (kxs_mw i e)) (hz : rest.length ≤ sizeLine) (hq : ∀ h', (∀ b o, b ≠ e → h.get? b = some o → h'.get? b = some o) → (∃ t1, h'.get? e = some (excO C t1)) → Q .none ⟨h', g, d, t, os⟩) :
    wpAny (model prog w) A (call (.ref u) rest) Q E ⟨h, g, d, t, os⟩ := by
  refine wpAny_call (codeAny_of_tree ?_)
  show wpAny _ A.in1 (callAny (.ref u) ⟨rest, []⟩) _ _ _
  simp only [callAny]
  refine wpAny_bind (wpAny_load hu ?_)
  have e1 : (Value.type "method-wrapper" == Value.type "method" || Value.type "method-wrapper" == Value.type "builtin_function_or_method" || Value.type "method-wrapper" == Value.type "method-wrapper") = true := by decide
  simp only [kxs_mw, e1, if_true]
  refine KFB.if_so (by decide) (wpAny_bind (check_bound_init FB.toExcCallFacts hC he rfl (wpAny_bind (wpAny_pure (wpAny_pure ⟨plainId_quiet FB.init.plain _, codeAny_builtin FB.initEntry ?_⟩)))))
  exact exc_init_tree (cls := .ref C) (t0 := t0) (dv := none) (c2 := .none) (c3 := .none) (b4 := .bool false) he hz fun h' k e' _ => hq h' k ⟨_, e'⟩
theorem bp_init (T : BpT prog K mg C fI) {x t0 : Addr} {v : Value} (X : K.In s.heap) (G : s.heap.Ns mainGlobals mg) (B : s.heap.Ns builtinsNs mb) (hbb : ∀ x : Str, x ≠ "__name__" → mb x = bootBuiltins x) (hlim : s.heap.NoLimit) (hx : s.heap.get? x = some (excO C t0)) (hnx : K.lookup x = none) (hroom : A.depth < recursionLimit)
    (hq : ∀ h' tk dx t1, BpEnd s.heap h' x C dx t1 v → R (.ok (.ret .none)) { s with heap := h', toks := tk }) :
    codeAny (model prog w) A (.call (.ref fI) ⟨[.ref x, v], []⟩) R s := by
  obtain ⟨oc, od, doc, pm, an, cda, cc, ct, osl, cl, cld, csl, ccl, cdd, vs, ccs, file, tf, lk, hcd, lcc, lcd, hvs, hfile⟩ := T.fn
  obtain ⟨nm, q, N, bs, bm, sn, sub, ab, col, dd, k0, k1, k2, k3, k5, hC, hbm⟩ := T.cls
  have hcl : clsIn K C = some { name := nm, bases := bs, mro := .ref C :: bm, ns := N, qualname := q, hasDict := true, slotNames := sn, subclasses := sub, abstract := ab, collection := col, hasDel := false } := by unfold clsIn; rw [hC] <;> rfl
  have hsu := T.su
  unfold ks_superIn at hsu
  rw [hcl] at hsu
  refine ks_codeAny_call_defAt (fd := ksFn "__init__" "BadPaper.__init__" (C8.fnArgs bpI) (C8.fnBody bpI) (C8.fnScope bpI) .none .none doc pm an (.ref cda) ct cc) (body := C8.fnBody bpI) (binds := [("self", .ref x), ("part", v)]) hroom (X _ _ lk) rfl hlim (codeRec_of X hcd) rfl (BindsTo.of_eq (by first | rfl | with_unfolding_all rfl))
    (show ∀ x ∈ (C8.fnScope bpI).names, x.2 ≠ .cell from by decide +kernel) (by intro y hy; rcases List.mem_cons.mp hy with z | z; (subst z; rfl); (rcases List.mem_cons.mp z with z | z; (subst z; rfl); cases z)) (fun h₁ hn k => ?_) rfl rfl rfl
  have X₁ : K.In h₁ := X.keeps k
  have hx₁ := k _ _ hx
  have G₁ := G.keeps k
  have B₁ := B.keeps k
  have I₁ : InstAt h₁ x (excO C t0) C none := ⟨hx₁, rfl, rfl, trivial⟩
  have hxC : x ≠ C := ks_ne X₁ I₁ hcl
  show PySem.wpAt (model prog w) (A.deeper (ksEnv "BadPaper.__init__" (C8.fnScope bpI) s.heap.objs.size fI (.ref cda) cc)) (.func (C8.fnBody bpI) (ksEnv "BadPaper.__init__" (C8.fnScope bpI) s.heap.objs.size fI (.ref cda) cc)) (execs (C8.fnBody bpI) (ksEnv "BadPaper.__init__" (C8.fnScope bpI) s.heap.objs.size fI (.ref cda) cc)) _ _ _
  refine ks_wpAt_execs_cons (ks_wpAt_Expr_any (ks_wpAt_MethodCall ?_))
  refine ks_wpAt_super_base (env := ksEnv "BadPaper.__init__" (C8.fnScope bpI) s.heap.objs.size fI (.ref cda) cc) rfl rfl rfl rfl (X₁ _ _ lk) rfl rfl rfl (X₁ _ _ lcd) rfl hvs hfile T.top ?_
  refine ks_loadName_global rfl rfl (loadGlobal_builtin (env := ksEnv "BadPaper.__init__" (C8.fnScope bpI) s.heap.objs.size fI (.ref cda) cc) G₁ (mg_none_of X G T.noS) B₁ ((hbb _ (by decide +kernel)).trans (by rfl)) ⟨rfl, ?_⟩)
  refine wpAny_loadName_free rfl rfl rfl ⟨_, X₁ _ _ lcc, rfl⟩ ?_
  refine wpAny_loadName_local rfl rfl hn (v := .ref x) (by first | rfl | with_unfolding_all rfl) ?_
  have hC₁ := X₁ _ _ hC
  refine ks_wpAny_isType_cls hC₁ rfl ⟨rfl, ?_⟩
  refine ks_wpAny_call_super hC₁ rfl hx₁ rfl (fun c e => by cases e) (looks_mroIn X₁ T.own) (fun h₂ e2 k2 => ?_)
  have X₂ : K.In h₂ := X₁.keeps k2
  have hx₂ := k2 _ _ hx₁
  have I₂ : InstAt h₂ x (excO C t0) C none := ⟨hx₂, rfl, rfl, trivial⟩
  refine kxs_getMethod kxs_ValueError e2 (looks_opaque X₂ T.op) (l₀ := .ref C :: bm) (fun A Q E s k q => wpAny_bind ((looks_clsIn X₂ hcl) A _ E s k (wpAny_pure q))) rfl X₂ hsu (I₂.type.andThen (looks_subIn X₂ T.veC)) hxC rfl ?_
  have hu : ∀ b o, h₂.get? b = some o → (h₂.push (kxs_mw "ValueError.__init__" x)).get? b = some o := fun b o e => Heap.get?_push_of_some _ e
  refine cw1 (i := "ValueError.__init__") (x := x) (Constant_str ⟨Heap.get?_push_at rfl rfl, ?_⟩)
  refine call_mw PySem.F.excBase_ValueError (hu _ _ (X₂ _ _ hC)) (hu _ _ hx₂) (Heap.get?_push_at rfl rfl) (bp_one _) (fun h₃ k3 ⟨t1, hx₃⟩ => ?_)
  have k03 : ∀ b o, b ≠ x → s.heap.get? b = some o → h₃.get? b = some o := fun b o hb e => k3 b o hb (hu _ _ (k2 _ _ (k _ _ e)))
  have X₃ : K.In h₃ := fun b o e => k3 b o (fun z => by rw [z, hnx] at e; cases e) (hu _ _ (X₂ _ _ e))
  have hLx : s.heap.objs.size ≠ x := Nat.ne_of_gt (Heap.lt_size hx)
  have hn₃ : h₃.Ns s.heap.objs.size (fun y => [(("self" : Str), Value.ref x), (("part" : Str), v)].reverse.lookup y) := by
    obtain ⟨oL, es, ep, hL, r⟩ := hn
    exact ⟨oL, es, ep, k3 _ _ hLx (hu _ _ (k2 _ _ hL)), r⟩
  have hsz : s.heap.objs.size < h₃.objs.size := hn₃.lt
  show PySem.wpAt _ _ _ (execs _ _) _ _ _
  refine PySem.wpAt_of_wpAny (wpAny_execs_cons (plainObj_wpAny_Assign_Attribute ?_))
  refine wpAny_Name (wpAny_loadName_local rfl rfl hn₃ (v := v) (by first | rfl | with_unfolding_all rfl) ?_) (by decide)
  refine wpAny_Name (wpAny_loadName_local rfl rfl hn₃ (v := .ref x) (by first | rfl | with_unfolding_all rfl) ?_) (by decide)
  refine set_plain X₃ (ox := excO C t1) (od := none) ⟨hx₃, rfl, rfl, trivial⟩ T.sa ?_
  refine exc_osa X₃ hx₃ hcl (show refsVE (.ref C :: bm) = true from hbm) rfl T.noN (fun h₄ tk₄ dx k₄ dn dne hx₄ hn₄ => ?_)
  show wpAny _ _ (execs _ _) _ _ _
  exact wpAny_execs_nil (hq h₄ tk₄ dx t1 ⟨fun b o hb e => k₄ b o hb (k03 b o hb e), hx₄, Nat.le_trans (Nat.le_of_lt hsz) dn, dne, hn₄⟩)
/-- a made BadPaper -/
structure BpMade (h h' : Heap) (e C d : Addr) (v : Value) : Prop where
  kp : ∀ b o, h.get? b = some o → h'.get? b = some o
  nw : h.objs.size ≤ e
  ob : ∃ oe vs, h'.get? e = some oe ∧ oe.cls = .ref C ∧ oe.dict = some d ∧ oe.data = .fields vs ∧ vs[1]? = some .none
  db : h.objs.size ≤ d
  dn : d ≠ e
  ns : h'.Ns1 d (fun y => if y = "part" then some v else none)
theorem bp_made (T : BpT prog K mg C fI) {v : Value} (X : K.In s.heap) (G : s.heap.Ns mainGlobals mg) (B : s.heap.Ns builtinsNs mb) (hbb : ∀ x : Str, x ≠ "__name__" → mb x = bootBuiltins x) (hlim : s.heap.NoLimit) (hroom : A.depth + 1 < recursionLimit)
    (hq : ∀ h' tk e d, BpMade s.heap h' e C d v → R (.ok (.ret (.ref e))) { s with heap := h', toks := tk }) : codeAny (model prog w) A (.call (.ref C) ⟨[v], []⟩) R s := by
  obtain ⟨nm, q, N, bs, bm, sn, sub, ab, col, dd, k0, k1, k2, k3, k5, hC, hbm⟩ := T.cls
  obtain ⟨hp, g, dr, tk, os⟩ := s
  have k : ∀ b o, hp.get? b = some o → ((hp.push (kdv_tup [v])).push (excO C hp.objs.size)).get? b = some o := fun b o e => Heap.get?_push_of_some _ (Heap.get?_push_of_some _ e)
  have hget : ((hp.push (kdv_tup [v])).push (excO C hp.objs.size)).get? (hp.objs.size + 1) = some (excO C hp.objs.size) := by heap_get
  have hnx : K.lookup (hp.objs.size + 1) = none := by
    cases e : K.lookup (hp.objs.size + 1) with
    | none => rfl
    | some o =>
      have z : hp.get? (hp.objs.size + 1) = some o := X _ _ e
      exact absurd (Nat.lt_of_succ_lt (Heap.lt_size z)) (Nat.lt_irrefl _)
  refine call_own PySem.F.excBase_ValueError (fun X => refsVE_contains X bm hbm) (X _ _ hC) (looks_findIn X T.iC) (fun self => bind_fn X self T.tC) (bp_one v) ?_
  refine bp_init (s := ⟨(hp.push (kdv_tup [v])).push (excO C hp.objs.size), g, dr, tk, os⟩) T (X.keeps k) (G.keeps k) (B.keeps k) hbb (hlim.keeps k) hget hnx hroom fun h' tk' dx t1 M => ?_
  have old : ∀ b o, hp.get? b = some o → h'.get? b = some o := fun b o e => M.kp b o (Nat.ne_of_lt (Nat.lt_succ_of_lt (Heap.lt_size e))) (k b o e)
  have z : hp.objs.size + 1 + 1 ≤ dx := by
    have q := M.db
    first
      | (rw [Heap.size_push, Heap.size_push] at q; exact q)
      | (simpa only [Heap.size_push] using q)
      | exact q
  exact ⟨rfl, hq h' tk' (hp.objs.size + 1) dx ⟨old, Nat.le_succ _, ⟨_, _, M.ob, rfl, rfl, rfl, rfl⟩, Nat.le_trans (Nat.le_trans (Nat.le_succ _) (Nat.le_succ _)) z, M.dn, M.ns⟩⟩
end
end SG
set_option Elab.async false
set_option linter.all false
set_option maxRecDepth 100000
set_option maxHeartbeats 4000000
/-! defs that may raise BadPaper with a text -/
namespace SG
open PySem PySem.Spec PyProof.Rows L2
theorem relO_part {v : V} {v' : Value} (r : RelV v v') (f : Str) : RelO (List.lookup f [(("part" : Str), v)]) (if f = "part" then some v' else none) := by
  by_cases hw : f = "part"
  · subst hw
    rw [if_pos rfl, show List.lookup ("part" : Str) [(("part" : Str), v)] = some v by simp [List.lookup]]
    exact r
  · have qw : (f == ("part" : Str)) = false := by simpa using hw
    rw [if_neg hw, show List.lookup f [(("part" : Str), v)] = none by simp [List.lookup, qw]]
    trivial
def partO (v : V) : HO := .xd [(("part" : Str), v)]
section
variable {X : Cx} {C fI : Addr} {E : XK} {W W1 : List Ow} {ρ ρ1 : Rho} {z : Str}
def tMkBp (C : Addr) (ta : TA) : L2.St → Hp → XK → Prop := fun σ H Q => ta σ H fun vs H1 => ∃ v, vs = [v] ∧ ∀ d, H1 d = none → Q (.ref C) (some d) (upd H1 d (partO v))
theorem pmk_bp {a : Expr} {ta : TA} {p pos : Pos} {k : Nat} (T : BpT X.prog X.K X.mg C fI) (hr : Room k X.A) (ha : PA X [a] ta) (hg : Gl X "BadPaper" := by rfl)
    (he : starEach (a :: []) X.env = (false, eval a X.env) :: starEach [] X.env := by rfl) (hpl : (backTo pos (starEach [] X.env)).any (·.1) = false := by rfl) :
    PMk X (.Call (.Name "BadPaper" p) [a] [] pos) (tMkBp C ta) := by
  intro pins s σ H Q I h
  refine wpAny_Call_Name_kw (ld_glob I hg T.gC ?_)
  refine PySem.W.callWith_K (h₀ := X.base) I.ok.mod.kin T.kC (thn (ha.run pos pins s σ H _ I h) fun us s1 hh => ?_) he hpl
  obtain ⟨vs, H1, I1, r1, v, ev, q1⟩ := hh
  subst ev
  refine ⟨I1.kIn, ?_⟩
  obtain ⟨v', rfl, rv⟩ := r1.one
  have hlim := I1.nolimit
  have kb : ∀ b o, X.base.get? b = some o → s1.heap.get? b = some o := fun b o e => (I1.bs b o e).1
  have hG := I1.ok.mod.glob.keeps kb
  obtain ⟨mb, hB0, hbb⟩ := I1.ok.mod.blt
  have hB := hB0.keeps kb
  obtain ⟨hp, g, dr, tk, os⟩ := s1
  refine wpAny_call (bp_made T I1.kIn hG hB hbb hlim (by have := hr.dp; omega) fun h' tk' e d M => ?_)
  show MkP X pins σ Q (.ref e) ⟨h', g, dr, tk', os⟩
  obtain ⟨oe, fv, hoe, hc, hd, hdat, h1⟩ := M.ob
  have hns := M.ns
  obtain ⟨G', g1, g2⟩ := restrict h' fun b => decide (b ≠ e)
  have gk : ∀ b, b ≠ e → G'.get? b = h'.get? b := fun b hb => g1 b (decide_eq_true hb)
  have ge : G'.get? e = none := g2 e (by simp)
  have old : ∀ b o, hp.get? b = some o → G'.get? b = some o := fun b o q => (gk b (Nat.ne_of_lt (Nat.lt_of_lt_of_le (Heap.lt_size q) M.nw))).trans (M.kp b o q)
  have ob : ObjOk X.prog X.w (upd H1 d (partO v)) G' d (partO v) := ⟨_, hns.at (fun o q => (gk d M.dn).trans q), fun f => relO_part rv f⟩
  have J : Inv X pins σ (upd H1 d (partO v)) ⟨G', g, dr, tk', os⟩ := I1.laid (t' := tk') old M.db ob
  refine ⟨e, oe, fv, ⟨G', g, dr, tk', os⟩, _, .ref C, some d, rfl, J, fun b o q => ?_, ge, hoe, ⟨hc, hd⟩, hdat, h1, ?_, rfl, I1.bare, raises_own T.exC T.tyC, q1 d (I1.hok.fresh M.db)⟩
  · have q' : G'.get? b = some o := q
    by_cases hb : b = e
    · rw [hb, ge] at q'; cases q'
    · exact (gk b hb).symm.trans q'
  · rw [upd_ne (Ne.symm M.dn)]
    exact I1.hok.fresh M.nw
/-- BadPaper leaves, its part a text -/
def oX (C : Addr) (E : XK) (W : List Ow) (ρ : Rho) (z : Str) : TS := fun _ σ H => ∃ Z, Cf (Z ++ W) ρ σ H ∧ ∀ d H', Go (Z ++ W) (Z ++ W) H H' → Hd (Z ++ W) H' → d ∉ adrs (Z ++ W) → H' d = some (partO (.str z)) → E (.ref C) (some d) H'
theorem x_raise {a : Expr} {p pos pos2 : Pos} {k : Nat} (T : BpT X.prog X.K X.mg C fI) (hr : Room k X.A) (tk : Takes X fun cls d _ H => E cls d H) (ha : PE X a (tE W ρ (.d (.str z)) W)) (hc : X.calm = true := by rfl) (hg : Gl X "BadPaper" := by rfl)
    (he : starEach (a :: []) X.env = (false, eval a X.env) :: starEach [] X.env := by rfl) (hpl : (backTo pos (starEach [] X.env)).any (·.1) = false := by rfl) :
    PS X (.Raise (some (.Call (.Name "BadPaper" p) [a] [] pos)) none pos2) (oX C E W ρ z) :=
  PSto (ps_raise hc tk (pmk_bp T hr (a_cons ha a_nil he) hg he hpl)) fun D σ H ⟨Z, c, q⟩ => ⟨Z, c, fun vs H1 g1 d1 q1 => by
    obtain ⟨v, rfl, hv⟩ := rpl_1 q1
    rw [rp_str] at hv
    subst hv
    refine ⟨_, rfl, fun d hd => ?_⟩
    have sm : Same H1 (upd H1 d (partO (.str z))) := upd_ext hd
    exact q d _ (g1.trans (Go.same sm)) (d1.same sm) (fun m => d1.lv d m hd) upd_same⟩
variable {st : Stmt} {sts as : List Stmt} {c : Expr} {pos : Pos}
theorem x_cons (h1 : PS X st (oS W ρ (.nx W ρ1))) (h2 : PSs X sts (oX C E W ρ1 z)) : PSs X (st :: sts) (oX C E W ρ z) :=
  PSsto (pss_cons h1 h2) fun D σ H ⟨Z, c, k⟩ => ⟨Z, c, fun σ' H' g c' => ⟨Z, c', fun d H2 g2 d2 n e => k d H2 (g.trans g2) d2 n e⟩⟩
theorem x_stop (h1 : PS X st (oX C E W ρ z)) : PSs X (st :: sts) (oX C E W ρ z) :=
  PSsto (pss_cons h1 pss_never) fun D σ H ⟨Z, c, k⟩ => ⟨Z, c, k⟩
theorem x_ifT (hc : PT X c (tT W ρ true W)) (h1 : PSs X as (oX C E W ρ z)) : PS X (.If c as [] pos) (oX C E W ρ z) := by
  refine ⟨fun pins s σ H D I ⟨Z, cf, q⟩ => ?_⟩
  refine wpAny_If (thn (hc.run pins s σ H (fun k' H1 => k' = true ∧ oX C E W ρ z D σ H1) I ⟨Z, cf, fun H1 g1 d1 => ⟨rfl, Z, cf.go g1 d1, fun d H2 g2 d2 n e => q d H2 (g1.trans g2) d2 n e⟩⟩) fun k' s1 ⟨H1, I1, e, q1⟩ => ?_)
  subst e
  exact h1.run pins s1 σ H1 D I1 q1
end
/-! the promise -/
def spX (F : List Sl → Sl → Prop) (G : List Sl → Str → Prop) (C : Addr) (n : Nat) : Sp := fun vs H Q E => vs.length = n ∧ ∃ Z rs, Hd Z H ∧ RpL (off (adrs Z) H) rs vs ∧
  ((∃ r, F rs r ∧ ∀ v H', Go Z Z H H' → Hd Z H' → Rp (off (adrs Z) H') r v → Q v H') ∨ ∃ z, G rs z ∧ ∀ d H', Go Z Z H H' → Hd Z H' → d ∉ adrs Z → H' d = some (partO (.str z)) → E (.ref C) (some d) H')
structure FnX (P : Program) (w : World) (K : PySem.W.Frag) (mg : Str → Option Value) (base : Heap) (k : Nat) (x : Str) (C : Addr) (F : List Sl → Sl → Prop) (G : List Sl → Str → Prop) : Prop where
  ex : ∃ (f : Addr) (fd : FuncData) (ps : List Str), FnG P w K mg base false (L2.CX P w) k f fd ps (spX F G C ps.length) ∧ mg x = some (.ref f) ∧ PySem.W.keepIn K (.ref f) = true ∧ Binds K fd ps [] ∧ (∀ rs r, F rs r → rs.length = ps.length) ∧ ∀ rs z, G rs z → rs.length = ps.length
theorem run_gS {X : Cx} {CX : CXT} {g : Bool} {k : Nat} {f : Addr} {fd : FuncData} {ps : List Str} {sp : Sp} {E : XK} {pins : List (Addr × Obj)} {σ : L2.St} {H : Hp} {s : Shared} {Q : VK} {us : List Value} {vs : List V} (F : FnG X.prog X.w X.K X.mg X.base g CX k f fd ps sp) (hr : Room k X.A) (hg : g = true → X.A.guards = some [])
    (hb : Binds X.K fd ps []) (hx : PassesAt CX X σ E) (I : Inv X pins σ H s) (r : Vals vs us) (h : sp vs H Q E) : wpAny (model X.prog X.w) X.A (call (.ref f) us) (EP X pins σ Q) X.xe s := by
  have l1 : us.length = ps.length := r.length.symm.trans (F.ln _ _ _ _ h)
  have b1 := hb s us I.kIn (by rw [List.append_nil]; exact l1)
  rw [List.append_nil] at b1
  refine wpAny_call (codeAny_mono (F.go X.A X.stack s H ⟨us, []⟩ us vs Q E hr hg I.env0 b1 r h) fun z s' hq => ?_)
  match z, hq with
  | .error e, hq => exact hx pins H s e s' I hq
  | .ok (.ret u), hq => exact I.after hq
  | .ok .next, hq => cases hq
  | .ok .brk, hq => cases hq
  | .ok .cont, hq => cases hq
section
variable {X : Cx} {C fI : Addr} {E : XK} {W W1 L : List Ow} {ρ ρ1 : Rho} {z : Str} {x : Str} {p pos pos2 : Pos} {e : Expr} {es : List Expr} {rs : List Sl} {r : Sl} {k : Nat} {F : List Sl → Sl → Prop} {G : List Sl → Str → Prop}
/-- called: what it may let out is W's -/
def tCx (C : Addr) (Wx : WX) (W : List Ow) (ρ : Rho) (F : List Sl → Sl → Prop) (G : List Sl → Str → Prop) (rs : List Sl) : TE := fun σ H Q => ∃ Z, Cf (Z ++ W) ρ σ H ∧
  ((∃ r, F rs r ∧ ∀ v H', Go (Z ++ W) (Z ++ W) H H' → Hd (Z ++ W) H' → Rp (off (adrs (Z ++ W)) H') r v → Q v H') ∨ ∃ z, G rs z ∧ ∀ d H', Go (Z ++ W) (Z ++ W) H H' → Hd (Z ++ W) H' → d ∉ adrs (Z ++ W) → H' d = some (partO (.str z)) → Wx (.ref C) (some d) σ H')
theorem x_call {Wx : WX} (c : FnX X.prog X.w X.K X.mg X.base k x C F G) (hr : Room k X.A) (tk : Takes X Wx) (ha : PA X (e :: es) (tA W ρ rs W)) (hg : Gl X x := by rfl)
    (hdb : (x == ("__debug__" : Str)) = false := by decide) (he : starEach (e :: es) X.env = (false, eval e X.env) :: starEach es X.env := by rfl) (hpl : (backTo pos (starEach es X.env)).any (·.1) = false := by rfl) :
    PE X (.Call (.Name x p) (e :: es) [] pos) (tCx C Wx W ρ F G rs) := by
  obtain ⟨f, fd, ps, F', hm, hk, hb, hl1, hl2⟩ := c.ex
  refine ⟨fun pins s σ H Q I hq => ?_⟩
  obtain ⟨Z, cf, q⟩ := hq
  refine wpAny_Call_Name_kw (ld_glob I hg hm ?_ hdb)
  refine PySem.W.callWith_K (h₀ := X.base) I.ok.mod.kin hk (thn (ha.run pos pins s σ H (fun vs H1 => spX F G C ps.length vs H1 Q (WE Wx σ)) I ⟨Z, cf, fun vs H1 g1 d1 q1 => ?_⟩) fun us s1 ⟨vs, H1, I1, r1, q1⟩ => ⟨I1.kIn, run_gS F' hr (fun z => nomatch z) hb (passAt tk σ) I1 r1 q1⟩) he hpl
  have hl : rs.length = ps.length := by
    rcases q with ⟨r, hF, _⟩ | ⟨z, hG, _⟩
    · exact hl1 _ _ hF
    · exact hl2 _ _ hG
  refine ⟨by rw [q1.length]; exact hl, Z ++ W, rs, d1, q1, ?_⟩
  rcases q with ⟨r, hF, k⟩ | ⟨z, hG, k⟩
  · exact .inl ⟨r, hF, fun v H' g2 d2 q2 => k v H' (g1.trans g2) d2 q2⟩
  · exact .inr ⟨z, hG, fun d H' g2 d2 n2 e2 => k d H' (g1.trans g2) d2 n2 e2⟩
theorem x_callOk {Wx : WX} (h : PE X e (tCx C Wx W ρ F G rs)) (hF : F rs r) : PE X e (tE W ρ r W) := PEto h fun σ H Q ⟨Z, c, k⟩ => ⟨Z, c, .inl ⟨r, hF, k⟩⟩
theorem x_exprX (h : PE X e (tCx C (fun cls d _ H => E cls d H) W ρ F G rs)) (hG : G rs z) (hs : swapsWith e none pos.line X.env = pure false := by rfl) : PS X (.Expr e pos) (oX C E W ρ z) :=
  PSto (ps_expr h hs) fun D σ H ⟨Z, c, k⟩ => ⟨Z, c, .inr ⟨z, hG, k⟩⟩
end
section
variable {P : Program} {w : World} {K : PySem.W.Frag} {mg : Str → Option Value} {base : Heap} {x : Str} {st : Stmt} {N ps : List Str} {k : Nat} {F : List Sl → Sl → Prop} {G : List Sl → Str → Prop} {C : Addr}
abbrev cX (P : Program) (w : World) (K : PySem.W.Frag) (mg : Str → Option Value) (base : Heap) (N : List Str) (x : Str) (st : Stmt) (f : Addr) (cdv : Value) (A : Around) (outer : List Env) (s : Shared) (H : Hp) (E : XK) : Cx := cxOf (L2.CX P w) P w K mg base N x (C8.fnScope st) f cdv A outer s H E
theorem cX_takes {f : Addr} {cdv : Value} {A : Around} {outer : List Env} {s : Shared} {H : Hp} {E : XK} : Takes (cX P w K mg base N x st f cdv A outer s H E) fun cls d _ H => E cls d H := takes_of rfl rfl rfl rfl
theorem FnX.of (D : DfOk K mg x st) (S : FnScope N ps (C8.fnScope st)) (hb : BindsF x st ps) (hl1 : ∀ rs r, F rs r → rs.length = ps.length) (hl2 : ∀ rs z, G rs z → rs.length = ps.length)
    (h1 : ∀ (f : Addr) (cdv : Value) (A : Around) (outer : List Env) (s : Shared) (H : Hp) (E : XK), Room k (cX P w K mg base N x st f cdv A outer s H E).A → ∀ rs r, F rs r →
      ∃ o, PSs (cX P w K mg base N x st f cdv A outer s H E) (C8.fnBody st) (oS [] (st0 N rs) o) ∧ (o = .rt r [] ∨ ∃ ρ, o = .nx [] ρ ∧ r = .d .none))
    (h2 : ∀ (f : Addr) (cdv : Value) (A : Around) (outer : List Env) (s : Shared) (H : Hp) (E : XK), Room k (cX P w K mg base N x st f cdv A outer s H E).A → ∀ rs z, G rs z →
      PSs (cX P w K mg base N x st f cdv A outer s H E) (C8.fnBody st) (oX C E [] (st0 N rs) z)) : FnX P w K mg base (k + 1) x C F G := by
  obtain ⟨f, fd, D, hm⟩ := D
  refine ⟨f, fd, ps, FnG.of D S (fun vs H Q E h => h.1) fun cdv A outer s H vs Q E hr hg h => ?_, hm, D.kp, D.bindsN hb, hl1, hl2⟩
  obtain ⟨_, Z, rs, hd, hv, hq⟩ := h
  have hd' : Hd (Z ++ []) H := by rw [List.append_nil]; exact hd
  have hv' : RpL (off (adrs (Z ++ [])) H) rs vs := by rw [List.append_nil]; exact hv
  rcases hq with ⟨r, hF, q⟩ | ⟨z, hG, q⟩
  · obtain ⟨o, ho, e | ⟨ρ, e, e2⟩⟩ := h1 f cdv A outer s H E hr rs r hF
    · subst e
      refine ⟨_, ho, Z, cf_start hd' hv', fun v H' g d q' => ?_⟩
      rw [List.append_nil] at g d q'
      exact q v H' g d q'
    · subst e e2
      refine ⟨_, ho, Z, cf_start hd' hv', fun σ' H' g c => ?_⟩
      have d := c.hd
      rw [List.append_nil] at g d
      exact q .non H' g d (by simp only [Rp, Da])
  · refine ⟨_, h2 f cdv A outer s H E hr rs z hG, Z, cf_start hd' hv', fun d H' g dd n e => ?_⟩
    rw [List.append_nil] at g dd n
    exact q d H' g dd n e
end
end SG
set_option Elab.async false
set_option linter.all false
set_option maxRecDepth 100000
set_option maxHeartbeats 4000000
namespace SG
open PySem PySem.Spec PyProof.Rows L2
section
variable {X : Cx} {W W1 W2 : List Ow} {ρ : Rho} {i j : Str}
theorem c_eqS : CmpOk X .Eq (.d (.str i)) (.d (.str j)) (decide (i = j)) := ⟨_, op_eq, fun M H x y l hx hy Q q => by
  rw [rp_str] at hx hy
  subst hx hy
  exact ⟨rfl, q _ H (Same.refl H) (by rw [rp_bl, dec_str, Bool.beq_eq_decide_eq])⟩⟩
theorem c_neS : CmpOk X .NotEq (.d (.str i)) (.d (.str j)) (!decide (i = j)) := ⟨_, op_ne, fun M H x y l hx hy Q q => by
  rw [rp_str] at hx hy
  subst hx hy
  exact ⟨rfl, q _ H (Same.refl H) (by rw [rp_bl, dec_str, Bool.beq_eq_decide_eq])⟩⟩
def sizesKV : List (Key × PyData) := [(Sum.inr "borne", .int 2), (Sum.inr "open", .int 3)]
def sizesV : List (Key × V) := [(Sum.inr "borne", .int 2), (Sum.inr "open", .int 3)]
abbrev sizesD : Sl := .dk sizesKV
def szOf (z : Str) : Int := if z = "borne" then 2 else if z = "open" then 3 else -1
theorem kvr_sizes {F : Hp} {ps : List (Key × V)} (h : KvR F sizesKV ps) : ps = sizesV := by
  cases h with
  | cons h t =>
    cases t with
    | cons h2 t2 =>
      cases t2
      rename_i p q
      obtain ⟨k1, v1⟩ := p
      obtain ⟨k2, v2⟩ := q
      obtain ⟨e1, e2⟩ := h
      obtain ⟨e3, e4⟩ := h2
      simp only [Da] at e2 e4
      simp only at e1 e3
      subst e1 e2 e3 e4
      rfl
theorem kvr_sizes_of {F : Hp} : KvR F sizesKV sizesV := .cons ⟨rfl, by simp only [Da]⟩ (.cons ⟨rfl, by simp only [Da]⟩ .nil)
theorem rp_sizes {F : Hp} {v : V} : Rp F sizesD v ↔ ∃ a, v = .ref a ∧ F a = some (.dK sizesV) := by
  constructor
  · rintro ⟨a, ps, h1, h2, h3⟩
    rw [kvr_sizes h3] at h2
    exact ⟨a, h1, h2⟩
  · rintro ⟨a, h1, h2⟩
    exact ⟨a, _, h1, h2, kvr_sizes_of⟩
theorem e_sizes {x1 x2 : Str} {p1 p2 p3 p4 pos : Pos} {j1 j2} (h1 : ∃ t, X.mg x1 = some (.str "borne" t)) (h2 : ∃ t, X.mg x2 = some (.str "open" t)) (hg1 : Gl X x1 := by rfl) (hg2 : Gl X x2 := by rfl) (hd1 : (x1 == ("__debug__" : Str)) = false := by decide) (hd2 : (x2 == ("__debug__" : Str)) = false := by decide) :
    PE X (.Dict [some (.Name x1 p1), some (.Name x2 p2)] [.Constant (.int 2) j1 p3, .Constant (.int 3) j2 p4] pos) (tE W ρ sizesD W) := by
  obtain ⟨t1, e1⟩ := h1
  obtain ⟨t2, e2⟩ := h2
  refine PEto (pe_disp (pps_cons (pe_glob (v := .str "borne") hg1 e1 ⟨t1, rfl⟩ hd1) pe_int (pps_cons (pe_glob (v := .str "open") hg2 e2 ⟨t2, rfl⟩ hd2) pe_int pps_nil)) rfl rfl (by simp) (by simp)) fun σ H Q ⟨Z, c, k⟩ p hp => ?_
  refine ⟨upd_same, sizesV, rfl, by decide, ?_⟩
  have sm : Same H (upd (upd H p (.dK [])) p (.dK (mergeK [] sizesV))) := fun a o e => by
    rw [upd_ne (ne_of_none e hp), upd_ne (ne_of_none e hp)]
    exact e
  refine k (.ref p) _ (Go.same sm) (c.hd.same sm) ?_
  rw [rp_sizes]
  have e : mergeK [] sizesV = sizesV := by decide
  exact ⟨p, rfl, by rw [off_out (fun m => c.hd.lv p m hp), upd_same, e]⟩
theorem val_sizes (z : Str) : (valV sizesV (Sum.inr z)).getD (.int (-1)) = .int (szOf z) := by
  unfold sizesV szOf
  by_cases h1 : z = "borne"
  · subst h1; decide
  · rw [valV_neg (by intro e; injection e with e; exact h1 e.symm), if_neg h1]
    by_cases h2 : z = "open"
    · subst h2; decide
    · rw [valV_neg (by intro e; injection e with e; exact h2 e.symm), if_neg h2]
      rfl
theorem e_szget {o e f : Expr} {z : Str} {apos pos : Pos} (hu : X.A.units + 64 < cLine) (ho : PE X o (tE W ρ sizesD W)) (he : PE X e (tE W ρ (.d (.str z)) W)) (hf : PE X f (tE W ρ (I_ (-1)) W)) (hb : attributeBase o "get" X.env (eval o X.env) = eval o X.env := by rfl)
    (hfew : ((backTo pos (starEach [e, f] X.env)).all (fun x => !x.1) && (backToKw pos (keywordEach [] X.env)).all (fun x => x.1.isSome) && decide (([e, f] : List Expr).length + ([] : List Keyword).length + (if ([] : List Keyword).isEmpty then 0 else 1) < 30)) = true := by rfl)
    (hl : (apos.endLine == pos.line) = true := by rfl) (ht : backTo pos (starEach [e, f] X.env) = [(false, eval e X.env), (false, eval f X.env)] := by rfl) :
    PE X (.Call (.Attribute o "get" apos) [e, f] [] pos) (tE W ρ (I_ (szOf z)) W) :=
  PEto (pe_dget2 (by omega) ho he hf ⟨hb, hfew, hl, ht⟩) fun σ H Q ⟨Z, c, k⟩ => ⟨Z, c, fun x H1 g1 d1 q1 => by
    rw [rp_sizes] at q1
    obtain ⟨a, rfl, h1⟩ := q1
    refine ⟨a, rfl, .inl ⟨_, .inl (off_sub _ _ h1)⟩, Z, c.go g1 d1, fun y H2 g2 d2 q2 => ⟨Z, (c.go g1 d1).go g2 d2, fun u H3 g3 d3 q3 => ?_⟩⟩
    rw [rp_str] at q2
    rw [rp_int] at q3
    subst q2 q3
    have h3 := off_sub _ _ ((g2.trans g3).off _ _ h1)
    refine ⟨_, DGet.k (k := Sum.inr z) h3, ?_⟩
    rw [val_sizes]
    exact k _ H3 ((g1.trans g2).trans g3) d3 (by rw [rp_int])⟩
end
def formOk (d : PyData) : Bool := match d with
  | .tuple (.str z :: ds) => decide (((ds.length + 1 : Nat) : Int) = szOf z)
  | _ => false
section
variable {P : Program} {w : World} {K : PySem.W.Frag} {mg : Str → Option Value} {base : Heap} {C fI : Addr}
inductive F_form : List Sl → Sl → Prop
  | mk {d : PyData} (h : Gd d) (ho : formOk d = true) : F_form [.d d, sizesD] (.d .none)
inductive G_form : List Sl → Str → Prop
  | mk {d : PyData} (h : Gd d) (ho : formOk d = false) : G_form [.d d, sizesD] "form"
theorem sc_need_form : FnScope ["paper", "sizes"] ["paper", "sizes"] (C8.fnScope s_need_form) := ⟨rfl, rfl, rfl, by decide +kernel, rfl, by decide +kernel, by decide +kernel⟩
theorem bi_need_form : BindsF "need_form" s_need_form ["paper", "sizes"] := fun _ _ _ _ _ _ us hl => match us, hl with | [_, _], _ => rfl
theorem f_need_form (T : Top K mg) (B : BpT P K mg C fI) : FnX P w K mg base 2 "need_form" C F_form G_form := by
  refine FnX.of T.s_need_form sc_need_form bi_need_form (by rintro _ _ ⟨⟩; rfl) (by rintro _ _ ⟨⟩; rfl) (fun f cdv A outer s H E hr rs r hF => ?_) (fun f cdv A outer s H E hr rs z hG => ?_)
  · cases hF with | @mk d h ho =>
    obtain ⟨z, ds, rfl, hz⟩ : ∃ z ds, d = .tuple (.str z :: ds) ∧ ((ds.length + 1 : Nat) : Int) = szOf z := by
      match d, ho with
      | .tuple (.str z :: ds), ho => exact ⟨z, ds, rfl, of_decide_eq_true ho⟩
    refine ⟨.nx [] (st0 ["paper", "sizes"] [.d (.tuple (.str z :: ds)), sizesD]), ?_, .inr ⟨_, rfl, rfl⟩⟩
    have hs : Sh (.str z) := (h.mem _ List.mem_cons_self).sh
    refine h_cons (s_ifF (PW.pt (w_orF (t_notF (t_val (r_calB (a_cons (e_var 0) (a_cons (e_bty T.b_tuple rfl) a_nil)) f_isTupT T.b_isinstance rfl))) (w_orF (rt_cmp (e_var 0) e_nilT (c_nilT hr.units h.sh)) (w_or1 (t_notF (t_val (e_to (B_ true) (r_calB (a_cons (r_ix (e_var 0) e_nat (x_tup (d := .str z) (atI_nat rfl))) (a_cons (e_bty T.b_str rfl) a_nil)) (f_isStr (Sh.nd (by first | assumption | omega | decide))) T.b_isinstance rfl) rfl))))))) h_nil) ?_
    exact h_one (s_ifF (t_eq (rt_cmp (r_calB (a_cons (e_var 0) a_nil) f_lenT T.b_len rfl) (e_szget hr.units (e_var 1) (r_ix (e_var 0) e_nat (x_tup (d := .str z) (atI_nat rfl))) (r_un e_int u_neg)) c_neI) (by rw [← hz]; simp)) h_nil)
  · cases hG with | @mk d h ho =>
    by_cases ht : ∃ ds, d = .tuple ds
    rotate_left
    · refine x_stop (x_ifT (PW.pt (w_orT (t_notT (t_val (k := false) (e_eq (r_calB (a_cons (e_var 0) (a_cons (e_bty T.b_tuple rfl) a_nil)) (f_isTup (Sh.nd (by first | assumption | omega | exact h.sh | decide))) T.b_isinstance rfl) ?_))))) (x_stop (x_raise B hr cX_takes e_str)))
      cases d <;> first | rfl | exact absurd ⟨_, rfl⟩ ht
    obtain ⟨ds, rfl⟩ := ht
    cases ds with
    | nil => exact x_stop (x_ifT (PW.pt (w_orF (t_notF (t_val (r_calB (a_cons (e_var 0) (a_cons (e_bty T.b_tuple rfl) a_nil)) f_isTupT T.b_isinstance rfl))) (w_orT (rt_cmp (e_var 0) e_nilT (c_nilT hr.units h.sh))))) (x_stop (x_raise B hr cX_takes e_str)))
    | cons a ds =>
      have ha : Sh a := (h.mem _ List.mem_cons_self).sh
      by_cases hs : ∃ z, a = .str z
      rotate_left
      · refine x_stop (x_ifT (PW.pt (w_orF (t_notF (t_val (r_calB (a_cons (e_var 0) (a_cons (e_bty T.b_tuple rfl) a_nil)) f_isTupT T.b_isinstance rfl))) (w_orF (rt_cmp (e_var 0) e_nilT (c_nilT hr.units h.sh)) (w_or1 (t_notT (t_val (k := false) (e_eq (r_calB (a_cons (r_ix (e_var 0) e_nat (x_tup (d := a) (atI_nat rfl))) (a_cons (e_bty T.b_str rfl) a_nil)) (f_isStr (Sh.nd (by first | assumption | omega | exact h.sh | decide))) T.b_isinstance rfl) ?_))))))) (x_stop (x_raise B hr cX_takes e_str)))
        cases a <;> first | rfl | exact absurd ⟨_, rfl⟩ hs
      obtain ⟨z, rfl⟩ := hs
      have hz : ((ds.length + 1 : Nat) : Int) ≠ szOf z := of_decide_eq_false ho
      refine x_cons (s_ifF (PW.pt (w_orF (t_notF (t_val (r_calB (a_cons (e_var 0) (a_cons (e_bty T.b_tuple rfl) a_nil)) f_isTupT T.b_isinstance rfl))) (w_orF (rt_cmp (e_var 0) e_nilT (c_nilT hr.units h.sh)) (w_or1 (t_notF (t_val (e_to (B_ true) (r_calB (a_cons (r_ix (e_var 0) e_nat (x_tup (d := .str z) (atI_nat rfl))) (a_cons (e_bty T.b_str rfl) a_nil)) (f_isStr (Sh.nd (by first | assumption | omega | exact h.sh | decide))) T.b_isinstance rfl) rfl))))))) h_nil) ?_
      exact x_stop (x_ifT (t_eq (rt_cmp (r_calB (a_cons (e_var 0) a_nil) f_lenT T.b_len rfl) (e_szget hr.units (e_var 1) (r_ix (e_var 0) e_nat (x_tup (d := .str z) (atI_nat rfl))) (r_un e_int u_neg)) c_neI) (by simp only [List.length_cons, decide_eq_false hz]; rfl)) (x_stop (x_raise B hr cX_takes e_str)))
end
end SG
set_option Elab.async false
set_option linter.all false
set_option maxRecDepth 100000
set_option maxHeartbeats 4000000
namespace SG
open PySem PySem.Spec PyProof.Rows L2
def goodO (S G : Sp2) (d : PyData) : Bool := match d with
  | .tuple (.str z :: ds) => if z = "borne" then (match ds with
      | [t] => isTree G (numberIn S) [] t
      | _ => false) else (match ds with
      | [c, t] => isCov G c && (decide ((lotN c).length ≤ numberIn S) && isBT S G t)
      | _ => false)
  | _ => false
def wordO (d : PyData) : Str := match d with
  | .tuple (.str z :: _) => z
  | _ => "form"
theorem formOk_inv {d : PyData} (h : formOk d = true) : (∃ a, d = .tuple [.str "borne", a]) ∨ ∃ a b, d = .tuple [.str "open", a, b] := by
  match d, h with
  | .tuple (.str z :: ds), h =>
    have h' : ((ds.length + 1 : Nat) : Int) = szOf z := of_decide_eq_true h
    unfold szOf at h'
    by_cases h1 : z = "borne"
    · subst h1
      rw [if_pos rfl] at h'
      match ds, (show ds.length = 1 by omega) with
      | [a], _ => exact .inl ⟨a, rfl⟩
    · rw [if_neg h1] at h'
      by_cases h2 : z = "open"
      · subst h2
        rw [if_pos rfl] at h'
        match ds, (show ds.length = 2 by omega) with
        | [a, b], _ => exact .inr ⟨a, b, rfl⟩
      · rw [if_neg h2] at h'
        omega
section
variable {P : Program} {w : World} {K : PySem.W.Frag} {mg : Str → Option Value} {base : Heap} {C fI : Addr}
inductive F_check : List Sl → Sl → Prop
  | mk {S G : Sp2} {d : PyData} (hS : OkSp S) (hG : OkSys G) (h1 : strayIn S ≠ []) (h2 : numberIn S ≤ 5) (h : Gd d) (ho : formOk d = true) (hg : goodO S G d = true) : F_check [.d (spD S), .d (spD G), .d d] (.d (.str (wordO d)))
inductive G_check : List Sl → Str → Prop
  | mk1 {S G : Sp2} {d : PyData} (hS : OkSp S) (hG : OkSys G) (h1 : strayIn S ≠ []) (h2 : numberIn S ≤ 5) (h : Gd d) (ho : formOk d = false) : G_check [.d (spD S), .d (spD G), .d d] "form"
  | mk2 {S G : Sp2} {d : PyData} (hS : OkSp S) (hG : OkSys G) (h1 : strayIn S ≠ []) (h2 : numberIn S ≤ 5) (h : Gd d) (ho : formOk d = true) (hg : goodO S G d = false) : G_check [.d (spD S), .d (spD G), .d d] (wordO d)
theorem sc_check_borne : FnScope ["space", "system", "paper", "most", "is_good"] ["space", "system", "paper"] (C8.fnScope s_check_borne) := ⟨rfl, rfl, rfl, by decide +kernel, rfl, by decide +kernel, by decide +kernel⟩
theorem bi_check_borne : BindsF "check_borne" s_check_borne ["space", "system", "paper"] := fun _ _ _ _ _ _ us hl => match us, hl with | [_, _, _], _ => rfl
section
variable {f : Addr} {cdv : Value} {A : Around} {outer : List Env} {s : Shared} {H : Hp} {E : XK}
theorem ck_if (T : Top K mg) {S G : Sp2} {d : PyData} (hS : OkSp S) (hG : OkSys G) (h2 : numberIn S ≤ 5) (h : Gd d) (ho : formOk d = true)
    (hr : Room 11 (cX P w K mg base ["space", "system", "paper", "most", "is_good"] "check_borne" s_check_borne f cdv A outer s H E).A) :
    PS (cX P w K mg base ["space", "system", "paper", "most", "is_good"] "check_borne" s_check_borne f cdv A outer s H E) ((C8.fnBody s_check_borne).getD 4 (.Pass ⟨0, 0, 0, 0⟩))
      (oS [] [some (.d (spD S)), some (.d (spD G)), some (.d d), some (I_ ((numberIn S : Nat) : Int)), none] (.nx [] [some (.d (spD S)), some (.d (spD G)), some (.d d), some (I_ ((numberIn S : Nat) : Int)), some (B_ (goodO S G d))])) := by
  have h5 : Room 8 (cX P w K mg base ["space", "system", "paper", "most", "is_good"] "check_borne" s_check_borne f cdv A outer s H E).A := hr.mono (by decide)
  rcases formOk_inv ho with ⟨a, rfl⟩ | ⟨a, b, rfl⟩
  · have ha : Gd a := h.mem a (by simp)
    have e : goodO S G (.tuple [.str "borne", a]) = isTree G (numberIn S) [] a := rfl
    rw [e]
    exact s_ifT (t_eq (rt_cmp (r_ix (e_var 2) e_nat (x_tup (d := .str "borne") rfl)) (e_gtxt T.c_BORNE) c_eqS) rfl) (h_one (s_set 4 (r_callP (f_is_tree T 5) h5 (a_cons (e_var 1) (a_cons (e_var 3) (a_cons (e_to (.d (lotD [])) e_nilT rfl) (a_cons (r_ix (e_var 2) e_nat (x_tup (d := a) rfl)) a_nil)))) (.mk (n := numberIn S) hG (fun k hk => nomatch hk) (by simp; omega) h2 ha)) sc_check_borne.nd))
  · have ha : Gd a := h.mem a (by simp)
    have hb : Gd b := h.mem b (by simp)
    have sa := ha.sh
    have sb := hb.sh
    have za := ha.hz
    have zb := hb.hz
    have e : goodO S G (.tuple [.str "open", a, b]) = (isCov G a && (decide ((lotN a).length ≤ numberIn S) && isBT S G b)) := rfl
    rw [e]
    refine s_ifF (t_eq (rt_cmp (r_ix (e_var 2) e_nat (x_tup (d := .str "open") rfl)) (e_gtxt T.c_BORNE) c_eqS) (by decide)) (h_one (s_set 4 ?_ sc_check_borne.nd))
    cases hc : isCov G a with
    | false => exact v_andF (e_to (B_ false) (r_callP (f_is_cover T) (hr.mono (by decide)) (a_cons (e_var 1) (a_cons (r_ix (e_var 2) e_nat (x_tup (d := a) rfl)) a_nil)) (.mk (by first | assumption | omega | decide) (by first | assumption | omega | decide) (by first | assumption | omega | decide))) (by rw [hc]))
    | true =>
      have hl : isLot (G.2.length : Int) a = true := by
        unfold isCov at hc
        rw [Bool.and_eq_true] at hc
        exact hc.1
      obtain ⟨e1, e2, e3⟩ := isLot_inv hl
      rw [Bool.true_and]
      exact v_andT (e_to (B_ true) (r_callP (f_is_cover T) (hr.mono (by decide)) (a_cons (e_var 1) (a_cons (r_ix (e_var 2) e_nat (x_tup (d := a) rfl)) a_nil)) (.mk (by first | assumption | omega | decide) (by first | assumption | omega | decide) (by first | assumption | omega | decide))) (by rw [hc])) (v_andP (r_cmp (r_calB (a_cons (e_to (.d (lotD (lotN a))) (r_ix (e_var 2) e_nat (x_tup (d := a) rfl)) (by rw [← e1])) a_nil) f_lenN T.b_len rfl) (e_var 3) c_leN) (v_one (r_callP (f_is_bare_told T) (hr.mono (by decide)) (a_cons (e_var 0) (a_cons (e_var 1) (a_cons (r_ix (e_var 2) e_nat (x_tup (d := b) rfl)) a_nil))) (.mk (by first | assumption | omega | decide) (by first | assumption | omega | decide) (by first | assumption | omega | decide) (by first | assumption | omega | decide)))))
end
theorem f_check (T : Top K mg) (B : BpT P K mg C fI) : FnX P w K mg base 12 "check_borne" C F_check G_check := by
  refine FnX.of T.s_check_borne sc_check_borne bi_check_borne (by rintro _ _ ⟨⟩; rfl) (by rintro _ _ ⟨⟩ <;> rfl) (fun f cdv A outer s H E hr rs r hF => ?_) (fun f cdv A outer s H E hr rs z hG => ?_)
  · cases hF with | @mk S G d hS hG h1 h2 h ho hg =>
    have few := few_sp hS
    have hle := hS.le
    have h9 : S.1 ≤ 9 := by omega
    refine ⟨.rt (.d (.str (wordO d))) [], ?_, .inl rfl⟩
    refine h_cons (s_expr (r_callP (f_need_space T) (hr.mono (by decide)) (a_cons (e_var 0) a_nil) (.mk (by first | assumption | omega | decide)))) ?_
    refine h_cons (s_expr (r_callP (f_need_system T) (hr.mono (by decide)) (a_cons (e_var 1) a_nil) (.mk (by first | assumption | omega | decide)))) ?_
    refine h_cons (s_expr (x_callOk (x_call (f_need_form T B) (hr.mono (by decide)) cX_takes (a_cons (e_var 2) (a_cons (e_sizes T.c_BORNE T.c_OPEN) a_nil))) (.mk h ho))) ?_
    refine h_cons (s_set 3 (r_callP (f_number_in T) (hr.mono (by decide)) (a_cons (e_var 0) a_nil) (.mk (by first | assumption | omega | decide) (by first | assumption | omega | decide) (by first | assumption | omega | decide))) sc_check_borne.nd) ?_
    refine h_cons (ck_if T hS hG h2 h ho hr) ?_
    refine h_ifF (t_notF (t_val (e_to (B_ true) (e_var 4) (by rw [hg])))) ?_
    obtain ⟨z, ds, rfl⟩ : ∃ z ds, d = .tuple (.str z :: ds) := by
      rcases formOk_inv ho with ⟨a, rfl⟩ | ⟨a, b, rfl⟩
      · exact ⟨_, _, rfl⟩
      · exact ⟨_, _, rfl⟩
    exact h_one (s_ret (r_ix (e_var 2) e_nat (x_tup (d := .str z) (atI_nat rfl))))
  · cases hG with
    | @mk1 S G d hS hG h1 h2 h ho =>
      refine x_cons (s_expr (r_callP (f_need_space T) (hr.mono (by decide)) (a_cons (e_var 0) a_nil) (.mk (by first | assumption | omega | decide)))) ?_
      refine x_cons (s_expr (r_callP (f_need_system T) (hr.mono (by decide)) (a_cons (e_var 1) a_nil) (.mk (by first | assumption | omega | decide)))) ?_
      exact x_stop (x_exprX (x_call (f_need_form T B) (hr.mono (by decide)) cX_takes (a_cons (e_var 2) (a_cons (e_sizes T.c_BORNE T.c_OPEN) a_nil))) (.mk h ho))
    | @mk2 S G d hS hG h1 h2 h ho hg =>
      have few := few_sp hS
      have hle := hS.le
      have h9 : S.1 ≤ 9 := by omega
      refine x_cons (s_expr (r_callP (f_need_space T) (hr.mono (by decide)) (a_cons (e_var 0) a_nil) (.mk (by first | assumption | omega | decide)))) ?_
      refine x_cons (s_expr (r_callP (f_need_system T) (hr.mono (by decide)) (a_cons (e_var 1) a_nil) (.mk (by first | assumption | omega | decide)))) ?_
      refine x_cons (s_expr (x_callOk (x_call (f_need_form T B) (hr.mono (by decide)) cX_takes (a_cons (e_var 2) (a_cons (e_sizes T.c_BORNE T.c_OPEN) a_nil))) (.mk h ho))) ?_
      refine x_cons (s_set 3 (r_callP (f_number_in T) (hr.mono (by decide)) (a_cons (e_var 0) a_nil) (.mk (by first | assumption | omega | decide) (by first | assumption | omega | decide) (by first | assumption | omega | decide))) sc_check_borne.nd) ?_
      refine x_cons (ck_if T hS hG h2 h ho hr) ?_
      obtain ⟨z, ds, rfl⟩ : ∃ z ds, d = .tuple (.str z :: ds) := by
        rcases formOk_inv ho with ⟨a, rfl⟩ | ⟨a, b, rfl⟩
        · exact ⟨_, _, rfl⟩
        · exact ⟨_, _, rfl⟩
      exact x_stop (x_ifT (t_notT (t_val (e_to (B_ false) (e_var 4) (by rw [hg])))) (x_stop (x_raise B hr cX_takes (r_ix (e_var 2) e_nat (x_tup (d := .str z) (atI_nat rfl))))))
end
end SG
set_option Elab.async false
set_option linter.all false
set_option maxRecDepth 100000
set_option maxHeartbeats 4000000
/-! the law's state: an own dict, two own lists -/
namespace SG
open PySem PySem.Spec PyProof.Rows L2
structure LS where
  cells : List Int
  lefts : List Int
  at_ : Nat
structure LAd where
  a : Addr
  l : Addr
  c : Addr
def stK (A : LAd) (n : Nat) : List (Key × V) := [(Sum.inr "cells", .ref A.c), (Sum.inr "lefts", .ref A.l), (Sum.inr "at", .int (n : Int)), (Sum.inr "room", .int 0)]
abbrev SW (A : LAd) (s : LS) : List Ow := [.raw A.a (.dK (stK A s.at_)), .raw A.l (.lst (s.lefts.map V.int)), .raw A.c (.lst (s.cells.map V.int))]
abbrev stV (A : LAd) : Sl := .v (.ref A.a)
section
variable {X : Cx} {o i e e1 value : Expr} {es : List Expr} {pos pos' p2 : Pos} {j : Nat} {W W0 W1 W2 : List Ow} {ρ : Rho} {r r' : Sl} {rs : List Sl} {a l : Addr} {kvs : List (Key × V)} {k x : Str} {v : V} {xs : List Int}
theorem e_conv (h : PE X e (tE W ρ r W1)) (q : ∀ F v, Rp F r v → Rp F r' v) : PE X e (tE W ρ r' W1) := PEto h fun σ H Q ⟨Z, c, k⟩ => ⟨Z, c, fun v H' g d z => k v H' g d (q _ _ z)⟩
theorem e_vint {n : Int} (h : PE X e (tE W ρ (.v (.int n)) W1)) : PE X e (tE W ρ (I_ n) W1) := e_conv h fun F v z => by rw [rp_int]; exact z
theorem e_rget (hu : X.A.units + 64 < cLine) (ho : PE X o (tE W ρ (.v (.ref a)) W1)) (hv : valV kvs (Sum.inr k) = some v) (hm : Ow.raw a (.dK kvs) ∈ W1) (hs : NoSl (.Constant (.str k) j p2) := by exact fun _ _ => rfl) :
    PE X (.Subscript o (.Constant (.str k) j p2) pos) (tE W ρ (.v v) W1) :=
  PEto (pe_dget (by omega) ho (e_str (W := W1)) hs) fun σ H Q ⟨Z, c, q⟩ => ⟨Z, c, fun x H1 g1 d1 q1 => ⟨Z, c.go g1 d1, fun y H2 g2 d2 q2 => by
    have q1 : x = .ref a := q1
    rw [rp_str] at q2
    subst q1 q2
    have hh : H2 a = some (.dK kvs) := (d2.hold _ (List.mem_append_right _ hm)).1
    have g := DGet.k (k := Sum.inr k) hh
    rw [hv] at g
    exact ⟨a, v, rfl, g, q v H2 (g1.trans g2) d2 rfl⟩⟩⟩
theorem e_rlen {p : Pos} (ha : PA X [e] (tA W ρ [.v (.ref a)] W1)) (hm : Ow.raw a (.lst (xs.map V.int)) ∈ W1) (hl : X.mg "len" = none) (hg : Gl X "len" := by rfl) (he : starEach [e] X.env = (false, eval e X.env) :: starEach [] X.env := by rfl) (hpl : (backTo pos (starEach [] X.env)).any (·.1) = false := by rfl) :
    PE X (.Call (.Name "len" p) [e] [] pos) (tE W ρ (I_ (xs.length : Nat)) W1) :=
  PEto (pe_callB call_len_seq hg hl rfl ha (by decide) (by decide) he hpl) fun σ H Q ⟨Z, c, q⟩ => ⟨Z, c, fun vs H1 g1 d1 q1 => by
    obtain ⟨v, rfl, h⟩ := rpl_1 q1
    have h : v = .ref a := h
    subst h
    have hh : H1 a = some (.lst (xs.map V.int)) := (d1.hold _ (List.mem_append_right _ hm)).1
    exact ⟨a, _, rfl, .inl (SqL.of hh), q _ H1 g1 d1 (by rw [rp_int, List.length_map])⟩⟩
theorem e_rix {n : Nat} {z : Int} (ho : PE X o (tE W ρ (.v (.ref a)) W1)) (hi : PE X i (tE W1 ρ (I_ (n : Nat)) W2)) (hm : Ow.raw a (.lst (xs.map V.int)) ∈ W2) (hz : xs[n]? = some z) (hs : PlainIx i := by exact fun _ _ => rfl) : PE X (.Subscript o i pos) (tE W ρ (I_ z) W2) :=
  PEto (pe_ix ix_list ho hi hs) fun σ H Q ⟨Z, c, q⟩ => ⟨Z, c, fun x H1 g1 d1 q1 => ⟨Z, c.go g1 d1, fun y H2 g2 d2 q2 => by
    have q1 : x = .ref a := q1
    rw [rp_int] at q2
    subst q1 q2
    have hh : H2 a = some (.lst (xs.map V.int)) := (d2.hold _ (List.mem_append_right _ hm)).1
    exact ⟨a, _, _, .int z, rfl, rfl, SqL.of hh, atI_nat (by rw [List.getElem?_map, hz]; rfl), q _ H2 (g1.trans g2) d2 (by rw [rp_int])⟩⟩⟩
/-- d["k"] = an integer -/
theorem s_rput {n : Int} (hu : X.A.units + 64 < cLine) (hv : PE X value (tE W ρ (I_ n) (.raw a (.dK kvs) :: W0))) (ho : PE X o (tE (.raw a (.dK kvs) :: W0) ρ (.v (.ref a)) (.raw a (.dK kvs) :: W0))) (hz : kvs.length < sizeLine)
    (hs : swapsWith value (some (.Subscript o (.Constant (.str k) j p2) pos')) pos.line X.env = pure false := by rfl) :
    PS X (.Assign [.Subscript o (.Constant (.str k) j p2) pos'] value pos) (oS W ρ (.nx (.raw a (.dK (putK kvs (Sum.inr k) (.int n))) :: W0) ρ)) :=
  PSto (ps_dput (by omega) ho (e_str (W := .raw a (.dK kvs) :: W0)) hv hs) fun D σ H ⟨Z, c, q⟩ => ⟨Z, c, fun v H1 g1 d1 q1 => ⟨Z, c.go g1 d1, fun x H2 g2 d2 q2 => ⟨Z, (c.go g1 d1).go g2 d2, fun y H3 g3 d3 q3 => by
    have q2 : x = .ref a := q2
    rw [rp_str] at q3
    rw [rp_int] at q1
    subst q1 q2 q3
    have c3 := (((c.go g1 d1).go g2 d2).go g3 d3).perm mid
    have hh : H3 a = some (.dK kvs) := (c3.hd.hold _ List.mem_cons_self).1
    obtain ⟨z1, z2⟩ := Cf.putR (o := .dK (putK kvs (Sum.inr k) (.int n))) c3
    exact ⟨a, _, rfl, DPut.k (k := Sum.inr k) hh hz, q σ _ (((g1.trans g2).trans g3).trans ((z2.permL mid.symm).permR mid.symm)) (z1.perm mid.symm)⟩⟩⟩⟩
/-- an own list's item is set -/
theorem s_rlput {n : Nat} {z : Int} (hv : PE X value (tE W ρ (I_ z) (.raw l (.lst (xs.map V.int)) :: W0))) (ho : PE X o (tE (.raw l (.lst (xs.map V.int)) :: W0) ρ (.v (.ref l)) (.raw l (.lst (xs.map V.int)) :: W0))) (hi : PE X i (tE (.raw l (.lst (xs.map V.int)) :: W0) ρ (I_ (n : Nat)) (.raw l (.lst (xs.map V.int)) :: W0)))
    (hn : n < xs.length) (ha : ∀ v, assign (.Subscript o i pos') X.env v = (do
      let ov ← holding [v] (eval o X.env)
      let iv ← holding [v, ov] (eval i X.env)
      standAt pos'
      holding [v, ov, iv] (setItem ov iv v)
      release [v, ov, iv] []) := by intro _; rfl)
    (hs : swapsWithSole [.Subscript o i pos'] value pos.line X.env = pure false := by rfl) (hw : swappedStores [.Subscript o i pos'] value X.env = pure none := by rfl) (h1 : (assignEach [.Subscript o i pos'] X.env).map (·.2) = [assign (.Subscript o i pos') X.env] := by rfl) :
    PS X (.Assign [.Subscript o i pos'] value pos) (oS W ρ (.nx (.raw l (.lst ((xs.set n z).map V.int)) :: W0) ρ)) :=
  PSto (ps_asg hv (pg_sub ho hi set_list ha) hs hw h1) fun D σ H ⟨Z, c, q⟩ => ⟨Z, c, fun v H1 g1 d1 q1 => ⟨Z, c.go g1 d1, fun x H2 g2 d2 q2 => ⟨Z, (c.go g1 d1).go g2 d2, fun y H3 g3 d3 q3 => by
    have q2 : x = .ref l := q2
    rw [rp_int] at q1 q3
    subst q1 q2 q3
    have c3 := (((c.go g1 d1).go g2 d2).go g3 d3).perm mid
    have hh : H3 l = some (.lst (xs.map V.int)) := (c3.hd.hold _ List.mem_cons_self).1
    obtain ⟨z1, z2⟩ := Cf.putR (o := .lst ((xs.map V.int).set n (.int z))) c3
    have em : (xs.set n z).map V.int = (xs.map V.int).set n (.int z) := List.map_set
    rw [em] at q
    refine ⟨l, _, _, n, rfl, rfl, hh, ?_, q σ _ (((g1.trans g2).trans g3).trans ((z2.permL mid.symm).permR mid.symm)) (z1.perm mid.symm)⟩
    rw [List.length_map]
    unfold ixN
    rw [if_pos (by omega), if_pos (by omega)]
    simp⟩⟩⟩
/-- own objects in another order -/
theorem s_permW {st : Stmt} {W' : List Ow} {o : Oc} (p : W'.Perm W) (h : PS X st (oS W' ρ o)) : PS X st (oS W ρ o) := by
  refine PSto h fun D σ H q => ?_
  cases o with
  | nx W2 ρ2 =>
    obtain ⟨Z, c, k⟩ := q
    exact ⟨Z, c.perm (p.symm.append_left Z), fun σ' H' g c' => k σ' H' (g.permL (p.append_left Z)) c'⟩
  | rt r W2 =>
    obtain ⟨Z, c, k⟩ := q
    exact ⟨Z, c.perm (p.symm.append_left Z), fun v H' g d' q' => k v H' (g.permL (p.append_left Z)) d' q'⟩
theorem s_permN {st : Stmt} {W' W2 : List Ow} {ρ2 : Rho} (p : W2.Perm W') (h : PS X st (oS W ρ (.nx W2 ρ2))) : PS X st (oS W ρ (.nx W' ρ2)) :=
  PSto h fun D σ H ⟨Z, c, k⟩ => ⟨Z, c, fun σ' H' g c' => k σ' H' (g.permR (p.append_left Z)) (c'.perm (p.append_left Z))⟩
variable {F : Spec} {kk : Nat} {p : Pos} {A : LAd} {s s' : LS}
theorem r_callS (c : Fn X.prog X.w X.K X.mg X.base false kk x F) (hr : Room kk X.A) (ha : PA X (e :: es) (tA W ρ rs (SW A s))) (h : F (SW A s) rs r (SW A s')) (hg : Gl X x := by rfl)
    (hdb : (x == ("__debug__" : Str)) = false := by decide) (he : starEach (e :: es) X.env = (false, eval e X.env) :: starEach es X.env := by rfl) (hpl : (backTo pos (starEach es X.env)).any (·.1) = false := by rfl) :
    PE X (.Call (.Name x p) (e :: es) [] pos) (tE W ρ r (SW A s')) := e_call (L := []) c h hr ha hg hdb he hpl
theorem r_callS1 {u : Ow} (c : Fn X.prog X.w X.K X.mg X.base false kk x F) (hr : Room kk X.A) (ha : PA X (e :: es) (tA W ρ rs (u :: SW A s))) (h : F (SW A s) rs r (SW A s')) (hg : Gl X x := by rfl)
    (hdb : (x == ("__debug__" : Str)) = false := by decide) (he : starEach (e :: es) X.env = (false, eval e X.env) :: starEach es X.env := by rfl) (hpl : (backTo pos (starEach es X.env)).any (·.1) = false := by rfl) :
    PE X (.Call (.Name x p) (e :: es) [] pos) (tE W ρ r (u :: SW A s')) := e_call (L := [u]) c h hr ha hg hdb he hpl
theorem r_callS2 {u u' : Ow} (c : Fn X.prog X.w X.K X.mg X.base false kk x F) (hr : Room kk X.A) (ha : PA X (e :: es) (tA W ρ rs (u :: u' :: SW A s))) (h : F (SW A s) rs r (SW A s')) (hg : Gl X x := by rfl)
    (hdb : (x == ("__debug__" : Str)) = false := by decide) (he : starEach (e :: es) X.env = (false, eval e X.env) :: starEach es X.env := by rfl) (hpl : (backTo pos (starEach es X.env)).any (·.1) = false := by rfl) :
    PE X (.Call (.Name x p) (e :: es) [] pos) (tE W ρ r (u :: u' :: SW A s')) := e_call (L := [u, u']) c h hr ha hg hdb he hpl
end
end SG
set_option Elab.async false
set_option linter.all false
set_option maxRecDepth 100000
set_option maxHeartbeats 4000000
namespace SG
open PySem PySem.Spec PyProof.Rows L2
/-! draws -/
def mixed (c k : Int) : Int := c % 2147483647 * (48271 + 2 * k * k) + 69621 * k + 11
def mixedI (c k : Int) : Int := (c % 2147483647 * (48271 + 2 * k * k) + 69621 * k + 11) % 2147483647 * 69621 % 2147483629
theorem mixedI_range (c k : Int) : 0 ≤ mixedI c k ∧ mixedI c k < 2147483629 := ⟨Int.emod_nonneg _ (by decide), Int.emod_lt_of_pos _ (by decide)⟩
/-- a good state, at most so many draws -/
structure OkS (b : Nat) (s : LS) : Prop where
  ne : 1 ≤ s.cells.length
  le : s.cells.length ≤ 63
  len : s.lefts.length = s.cells.length
  at_ : s.at_ ≤ b
theorem OkS.mono {b b' : Nat} {s : LS} (h : OkS b s) (k : b ≤ b') : OkS b' s := ⟨h.ne, h.le, h.len, Nat.le_trans h.at_ k⟩
def placeS (s : LS) : Nat := s.at_ % s.cells.length
def leftS (s : LS) : Int := s.lefts.getD (placeS s) 0
def draw (s : LS) (m : Nat) : Nat × LS :=
  if 0 < leftS s then ((leftS s % (m : Int)).toNat, ⟨s.cells, s.lefts.set (placeS s) (leftS s / (m : Int)), s.at_ + 1⟩)
  else (((mixedI (mixedI (s.cells.getD (placeS s) 0) (s.at_ : Int)) ((40 + s.at_ : Nat) : Int) * 2147483647 + mixedI (mixedI (mixedI (s.cells.getD (placeS s) 0) (s.at_ : Int)) ((40 + s.at_ : Nat) : Int)) ((7 + s.at_ : Nat) : Int)) / 64 % (m : Int)).toNat, ⟨s.cells, s.lefts, s.at_ + 1⟩)
theorem draw_ok {b : Nat} {s : LS} (h : OkS b s) (m : Nat) : OkS (b + 1) (draw s m).2 := by
  unfold draw
  have := h.at_
  split
  · exact ⟨h.ne, h.le, by simp only [List.length_set]; exact h.len, by show s.at_ + 1 ≤ b + 1; omega⟩
  · exact ⟨h.ne, h.le, h.len, by show s.at_ + 1 ≤ b + 1; omega⟩
theorem draw_lt {s : LS} {m : Nat} (h : 0 < m) : (draw s m).1 < m := by
  unfold draw
  have hm : (0 : Int) < m := by omega
  split
  · have h1 := Int.emod_nonneg (leftS s) (show (m : Int) ≠ 0 by omega)
    have h2 := Int.emod_lt_of_pos (leftS s) hm
    show (leftS s % (m : Int)).toNat < m
    omega
  · rename_i q
    generalize hx : (mixedI (mixedI (s.cells.getD (placeS s) 0) (s.at_ : Int)) ((40 + s.at_ : Nat) : Int) * 2147483647 + mixedI (mixedI (mixedI (s.cells.getD (placeS s) 0) (s.at_ : Int)) ((40 + s.at_ : Nat) : Int)) ((7 + s.at_ : Nat) : Int)) / 64 = x
    have h1 := Int.emod_nonneg x (show (m : Int) ≠ 0 by omega)
    have h2 := Int.emod_lt_of_pos x hm
    show (x % (m : Int)).toNat < m
    omega
section
variable {P : Program} {w : World} {K : PySem.W.Frag} {mg : Str → Option Value} {base : Heap}
inductive F_law_mixed : Spec
  | mk {c k : Int} (h1 : 0 ≤ k) (h2 : k < 2 ^ 40) : F_law_mixed [] [I_ c, I_ k] (I_ (mixedI c k)) []
theorem sc_law_mixed : FnScope ["_law_cell", "_law_k"] ["_law_cell", "_law_k"] (C8.fnScope s_law_mixed) := ⟨rfl, rfl, rfl, by decide +kernel, rfl, by decide +kernel, by decide +kernel⟩
theorem f_law_mixed (T : Top K mg) : Fn P w K mg base false 1 "_law_mixed" F_law_mixed := by
  refine Fn.of T.s_law_mixed sc_law_mixed (fun _ _ _ _ _ _ us hl => match us, hl with | [_, _], _ => rfl) (by rintro _ _ _ _ ⟨⟩ <;> rfl) fun f cdv A outer s H E hr W rs r W' hF => ?_
  cases hF with | @mk c k h1 h2 =>
  have m1 := Int.emod_nonneg c (show (2147483647 : Int) ≠ 0 by decide)
  have m2 := Int.emod_lt_of_pos c (show (0 : Int) < 2147483647 by decide)
  refine h_cons (s_set 0 (r_bin (r_calT (a_cons (e_var 0) a_nil) f_int T.b_int rfl) e_int (b_mod (by decide))) sc_law_mixed.nd) ?_
  refine h_one (s_ret (r_bin (r_bin (r_bin (r_bin (r_bin (r_bin (e_var 0) (r_bin e_int (r_bin (r_bin e_int (e_var 1) (b_mul (.inl ⟨by decide, by decide⟩))) (e_var 1) (b_mul (.inr ⟨by omega, by omega⟩))) b_add) (b_mul (.inl ⟨by omega, by omega⟩))) (r_bin e_int (e_var 1) (b_mul (.inl ⟨by decide, by decide⟩))) b_add) e_int b_add) e_int (b_mod (by decide))) e_int (b_mul (.inr ⟨by decide, by decide⟩))) e_int (b_mod (by decide))))
inductive F_law_draw : Spec
  | mk {A : LAd} {s : LS} {m : Nat} (h : OkS 1000000 s) (hm : 0 < m) (h2 : m < 1000000) : F_law_draw (SW A s) [stV A, I_ (m : Nat)] (I_ ((draw s m).1 : Nat)) (SW A (draw s m).2)
theorem sc_law_draw : FnScope ["_law_state", "_law_many", "_law_at", "_law_place", "_law_left", "_law_number"] ["_law_state", "_law_many"] (C8.fnScope s_law_draw) := ⟨rfl, rfl, rfl, by decide +kernel, rfl, by decide +kernel, by decide +kernel⟩
theorem f_law_draw (T : Top K mg) : Fn P w K mg base false 2 "_law_draw" F_law_draw := by
  refine Fn.of T.s_law_draw sc_law_draw (fun _ _ _ _ _ _ us hl => match us, hl with | [_, _], _ => rfl) (by rintro _ _ _ _ ⟨⟩ <;> rfl) fun f cdv A outer s H E hr W rs r W' hF => ?_
  cases hF with | @mk A s m h hm h2 =>
  have h0 := h.ne
  have ha := h.at_
  have hp : placeS s < s.cells.length := Nat.mod_lt _ h0
  have gc : s.cells[placeS s]? = some (s.cells.getD (placeS s) 0) := by rw [List.getElem?_eq_getElem hp, List.getD_eq_getElem?_getD, List.getElem?_eq_getElem hp]; rfl
  have gl : s.lefts[placeS s]? = some (leftS s) := by
    have hp' : placeS s < s.lefts.length := by rw [h.len]; exact hp
    unfold leftS
    rw [List.getElem?_eq_getElem hp', List.getD_eq_getElem?_getD, List.getElem?_eq_getElem hp']; rfl
  have hmi : (0 : Int) < m := by omega
  refine h_cons (s_set 2 (e_vint (e_rget hr.units (e_var 0) (v := .int (s.at_ : Int)) rfl (.head _))) sc_law_draw.nd) ?_
  refine h_cons (s_rput hr.units (r_bin (e_var 2) e_nat b_addN) (e_var 0) (show 4 < sizeLine by decide)) ?_
  refine h_cons (s_set 3 (r_bin (r_calT (a_cons (e_var 2) a_nil) f_int T.b_int rfl) (e_rlen (a_cons (e_rget hr.units (e_var 0) (v := .ref A.c) rfl (.head _)) a_nil) (xs := s.cells) (.tail _ (.tail _ (.head _))) T.b_len) (b_modN h0)) sc_law_draw.nd) ?_
  refine h_cons (s_set 4 (e_rix (xs := s.lefts) (n := placeS s) (e_rget hr.units (e_var 0) (v := .ref A.l) rfl (.head _)) (e_var 3) (.tail _ (.head _)) gl) sc_law_draw.nd) ?_
  by_cases hl : 0 < leftS s
  · have e : draw s m = ((leftS s % (m : Int)).toNat, ⟨s.cells, s.lefts.set (placeS s) (leftS s / (m : Int)), s.at_ + 1⟩) := if_pos hl
    rw [e]
    have e2 : (((leftS s % (m : Int)).toNat : Nat) : Int) = leftS s % (m : Int) := Int.toNat_of_nonneg (Int.emod_nonneg _ (by omega))
    refine h_ifT (t_eq (rt_cmp (e_var 4) e_int c_gt) (decide_eq_true hl)) ?_
    refine h_cons (s_permW (W' := [.raw A.l (.lst (s.lefts.map V.int)), .raw A.a (.dK (putK (stK A s.at_) (Sum.inr "at") (.int ((s.at_ + 1 : Nat) : Int)))), .raw A.c (.lst (s.cells.map V.int))]) (List.Perm.swap _ _ _)
      (s_permN (List.Perm.swap _ _ _) (s_rlput (xs := s.lefts) (n := placeS s) (z := leftS s / (m : Int)) (r_bin (e_var 4) (e_var 1) (b_fdiv ⟨hmi, by omega⟩)) (e_rget hr.units (e_var 0) (v := .ref A.l) rfl (.tail _ (.head _))) (e_var 3) (by rw [h.len]; exact hp)))) ?_
    exact h_one (s_ret (e_to (I_ _) (r_bin (r_calT (a_cons (e_var 4) a_nil) f_int T.b_int rfl) (e_var 1) (b_mod hmi)) (by rw [e2])))
  · have e : draw s m = (((mixedI (mixedI (s.cells.getD (placeS s) 0) (s.at_ : Int)) ((40 + s.at_ : Nat) : Int) * 2147483647 + mixedI (mixedI (mixedI (s.cells.getD (placeS s) 0) (s.at_ : Int)) ((40 + s.at_ : Nat) : Int)) ((7 + s.at_ : Nat) : Int)) / 64 % (m : Int)).toNat, ⟨s.cells, s.lefts, s.at_ + 1⟩) := if_neg hl
    rw [e]
    refine h_ifF (t_eq (rt_cmp (e_var 4) e_int c_gt) (decide_eq_false hl)) ?_
    have hr1 := hr
    have k40 : (0 : Int) ≤ ((40 + s.at_ : Nat) : Int) ∧ ((40 + s.at_ : Nat) : Int) < 2 ^ 40 := ⟨by omega, by omega⟩
    have k7 : (0 : Int) ≤ ((7 + s.at_ : Nat) : Int) ∧ ((7 + s.at_ : Nat) : Int) < 2 ^ 40 := ⟨by omega, by omega⟩
    refine h_cons (s_set 5 (r_callP (f_law_mixed T) hr1 (a_cons (r_callP (f_law_mixed T) hr1 (a_cons (e_rix (xs := s.cells) (n := placeS s) (e_rget hr.units (e_var 0) (v := .ref A.c) rfl (.head _)) (e_var 3) (.tail _ (.tail _ (.head _))) gc) (a_cons (e_var 2) a_nil)) (.mk (by omega) (by omega))) (a_cons (r_bin e_nat (e_var 2) b_addN) a_nil)) (.mk k40.1 k40.2)) sc_law_draw.nd) ?_
    have r1 := mixedI_range (mixedI (s.cells.getD (placeS s) 0) (s.at_ : Int)) ((40 + s.at_ : Nat) : Int)
    refine h_one (s_ret (e_to (I_ _) (r_bin (r_bin (r_calT (a_cons (r_bin (r_bin (e_var 5) e_int (b_mul (.inr ⟨by decide, by decide⟩))) (r_callP (f_law_mixed T) hr1 (a_cons (e_var 5) (a_cons (r_bin e_nat (e_var 2) b_addN) a_nil)) (.mk k7.1 k7.2)) b_add) a_nil) f_int T.b_int rfl) e_int (b_fdiv ⟨by decide, by decide⟩)) (e_var 1) (b_mod hmi)) ?_))
    rw [Int.toNat_of_nonneg (Int.emod_nonneg _ (by omega))]
end
end SG
set_option Elab.async false
set_option linter.all false
set_option maxRecDepth 100000
set_option maxHeartbeats 4000000
/-! dicts by lots: made of pairs, listed, sorted, read -/
namespace SG
open PySem PySem.Spec PyProof.Rows L2
section
variable {X : Cx} {pins : List (Addr × Obj)} {σ : L2.St} {H : Hp} {s : Shared}
def mergeT (ks : List (List Key × Addr × V)) : List (List Key × V) := ks.foldl (fun acc x => putK acc x.1 x.2.2) []
theorem kt_all {ks : List (List Key × Addr × V)} {hs : List (List Key × Addr × Value)} (h : Paired (fun x y => y.1 = x.1 ∧ y.2.1 = x.2.1 ∧ RelV x.2.2 y.2.2 ∧ H x.2.1 = some (.tup (x.1.map kV))) ks hs) :
    ∀ {kvs : List (List Key × V)} {xs : List (List Key × Addr × Value)}, KT H kvs xs → KT H (ks.foldl (fun acc x => putK acc x.1 x.2.2) kvs) (storedAllH xs hs) := by
  induction h with
  | nil => intro kvs xs r; exact r
  | @cons a b l1 l2 h t ih =>
    intro kvs xs r
    obtain ⟨e1, e2, e3, e4⟩ := h
    have r' := r.put a.1 e4 e3
    have := ih r'
    rw [← e1, ← e2] at this
    show KT H (l1.foldl _ (putK kvs a.1 a.2.2)) (storedAllH (storedH xs b.1 b.2.1 b.2.2) l2)
    rw [← e1]
    exact this
theorem mergeT_len (ks : List (List Key × Addr × V)) : ∀ acc : List (List Key × V), (ks.foldl (fun acc x => putK acc x.1 x.2.2) acc).length ≤ acc.length + ks.length := by
  induction ks with
  | nil => intro acc; exact Nat.le_refl _
  | cons x ks ih =>
    intro acc
    have h1 := ih (putK acc x.1 x.2.2)
    have h2 := length_putK acc x.1 x.2.2
    simp only [List.foldl_cons, List.length_cons]
    omega
/-- dict(xs) of pairs of a tuple and a thing -/
theorem call_dictT (hc : X.calm = true) (hu : X.A.units + 64 < cLine) : CallR X (.type "dict") (fun xs H Q => ∃ (a : Addr) (ps : List Addr) (ks : List (List Key × Addr × V)), xs = [.ref a] ∧ SqL X.K H a (ps.map V.ref) ∧
    Paired (fun p x => SqT X.K H p [.ref x.2.1, x.2.2] ∧ H x.2.1 = some (.tup (x.1.map kV))) ps ks ∧ ∀ p, H p = none → Q (.ref p) (upd H p (.dT (mergeT ks)))) := by
  intro pins s σ H xs us Q I r q
  obtain ⟨a, ps, ks, rfl, hq, hp, q⟩ := q
  obtain ⟨u, rfl, rx⟩ := vals1 r
  cases rx
  obtain ⟨its, rv, pl, hz⟩ := I.list hq
  have ei := refs_at rv
  subst ei
  rw [List.length_map] at hz
  -- the pairs, as they stand
  obtain ⟨hs, rel, hpr⟩ : ∃ hs : List (List Key × Addr × Value), Paired (fun x y => y.1 = x.1 ∧ y.2.1 = x.2.1 ∧ RelV x.2.2 y.2.2 ∧ H x.2.1 = some (.tup (x.1.map kV))) ks hs ∧ Paired (fun p y => IsTup s.heap p #[.ref y.2.1, y.2.2]) ps hs := by
    clear q hz pl rv hq r
    induction hp with
    | nil => exact ⟨[], .nil, .nil⟩
    | @cons p x ps ks h t ih =>
      obtain ⟨hs, r1, r2⟩ := ih
      obtain ⟨its, rv, ht, _⟩ := I.tuple h.1
      obtain ⟨u, y, ei, ru, ry⟩ := vals2 rv
      subst ei
      cases ru
      exact ⟨(x.1, x.2.1, y) :: hs, .cons ⟨rfl, rfl, ry, h.2⟩ r1, .cons ht r2⟩
  have l1 : ks.length = hs.length := Paired.length rel
  have l2 : ps.length = hs.length := Paired.length hpr
  obtain ⟨o, n, ho, hcl, hd, hdat⟩ := pl
  have P := PairArg.list (prog := X.prog) (w := X.w) a (ps.map Value.ref).toArray (fun j => ps.getD j 0) (hs.map fun y => (Value.ref y.2.1, y.2.2))
  have at2 : ∀ {α β : Type} {R : α → β → Prop} {l : List α} {m : List β}, Paired R l m → ∀ (j : Nat) (y : β), m[j]? = some y → ∃ x, l[j]? = some x ∧ R x y := by
    intro α β R l m h
    induction h with
    | nil => intro j y e; simp at e
    | cons h t ih =>
      intro j y e
      cases j with
      | zero => simp at e; subst e; exact ⟨_, rfl, h⟩
      | succ j => simp at e; obtain ⟨x, e1, e2⟩ := ih j y e; exact ⟨x, by simpa using e1, e2⟩
  have ok : PlainSeq "list" s.heap a (ps.map Value.ref).toArray ∧ PairItems s.heap (ps.map Value.ref).toArray (fun j => ps.getD j 0) (hs.map fun y => (Value.ref y.2.1, y.2.2)) := by
    refine ⟨⟨o, n, ho, hcl, hd, hdat⟩, by simp [l2], fun j k v e => ?_⟩
    rw [List.getElem?_map] at e
    cases ej : hs[j]? with
    | none => rw [ej] at e; cases e
    | some y =>
      rw [ej] at e
      cases e
      obtain ⟨p, e1, e2⟩ := at2 hpr j y ej
      have e3 : ps.getD j 0 = p := by rw [List.getD_eq_getElem?_getD, e1]; rfl
      refine ⟨by simp [e1, e3], .inl ?_⟩
      show s.heap.IsTuple (ps.getD j 0) _
      rw [e3]
      obtain ⟨o, h1, h2, n, h3⟩ := id e2
      exact ⟨o, h1, h2, n, h3⟩
  have hst : KeysStay (tupleKind (mixKind X.prog X.w)) s.heap s.heap.objs.size [] hs := fun h' hk x hx => by
    obtain ⟨j, hj⟩ := List.mem_iff_getElem?.mp hx
    obtain ⟨y, e1, e2, e3, e4, e5⟩ := at2 rel j x hj
    have hki := key_of I.hok e5
    rw [← e2, ← e3] at hki
    exact (PySem.tupleKind_stays (prog := X.prog) (w := X.w) (knd := mixKind X.prog X.w)).stays (fun b ob vs n hb _ => hk b ob (Nat.ne_of_lt (Heap.lt_size hb)) (fun z => nomatch z) hb) hki
  refine PySem.call_dict_pairsH (knd := tupleKind (mixKind X.prog X.w)) (ps := hs) P (I.ok.hd hc) (by show X.A.units + 1 + 1 < cLine; omega) ok ⟨by simp, fun i key v e => ?_⟩ hst (by simp; omega) fun h' tk hd' k => ?_
  · have e : (hs.map fun y => (Value.ref y.2.1, y.2.2))[i]? = some (key, v) := e
    rw [List.getElem?_map] at e
    cases ej : hs[i]? with
    | none => rw [ej] at e; cases e
    | some y =>
      rw [ej] at e
      cases e
      exact ⟨y.1, y.2.1, rfl, rfl⟩
  · have hm : (s.heap.objs.size == sysModules) = false := beq_eq_false_iff_ne.mpr (Nat.ne_of_gt I.big)
    have hlen : (mergeT ks).length ≤ sizeLine := by
      refine Nat.le_trans (mergeT_len ks []) ?_
      rw [List.length_nil, Nat.zero_add, l1, ← l2]
      exact hz
    have kt : KT H (mergeT ks) (storedAllH [] hs) := kt_all rel .nil
    obtain ⟨od, es, ep, h1, h2, h3, h4, _, h5⟩ := hd'
    refine ⟨.ref s.heap.objs.size, upd H s.heap.objs.size (.dT (mergeT ks)), I.laid (t' := tk) (fun b u e => k b u (fun z => nomatch z) e) (Nat.le_refl _) ⟨hlen, hm, _, kt.keeps fun c ys ec => ?_, od, es, ep, h1, h2, h3, h4, h5⟩, rfl, q _ (I.hok.fresh (Nat.le_refl _))⟩
    rw [upd_ne (ne_of_none ec (I.hok.fresh (Nat.le_refl _)))]
    exact ec
/-- sorted(d), d a dict by tuples of numbers -/
theorem call_sortD (hc : X.calm = true) (hu : X.A.units + 64 < cLine) : CallR X (.builtin "sorted") (fun vs H Q => ∃ (d : Addr) (kvs : List (List Key × V)) (k : V → List Int), vs = [V.ref d] ∧ Rd H d (.dT kvs) ∧
    (∀ bs, IsKeys H kvs bs → ∀ b ∈ bs, SqT X.K H b ((k (.ref b)).map V.int)) ∧ ∀ (bs : List Addr) (ys : List V) (p : Addr), IsKeys H kvs bs → ys.Perm (bs.map V.ref) → ys.Pairwise (fun x y => HT.lexLt (k y) (k x) = false) → H p = none → Q (.ref p) (upd H p (.lst ys))) := by
  intro pins s σ H vs us Q I r h
  obtain ⟨d, kvs, k, rfl, hd, hk, q⟩ := h
  rw [Vals.ref1 r]
  obtain ⟨z, hs, ks, pr, o, es, ep, ho, hx, hdt, he, hn⟩ := (show ObjOk X.prog X.w H s.heap d (.dT kvs) from hd.ok I.hok)
  have l1 : es.size = ks.length := size_of_entries he
  have l2 : kvs.length = ks.length := Paired.length pr
  refine PySem.Calls.call_function_entry kind_sorted plain_sorted entry_sorted (args_sorted1 _) ?_
  unfold Builtin.«sorted»
  refine wpAny_bind (m := checkCount "sorted" 1 1 _) (wpAny_pure ?_)
  refine wpAny_bind (PySem.W.kdu_collect (A := X.A.in1) (kdl_raw hs hx hdt) (I.ok.hd hc) ho (by omega) fun h' tk acc kp it => ?_)
  have ea : acc.toList = (ks.map fun x => x.2.1).map Value.ref := by
    have hl : acc.toList.length = ks.length := by rw [Array.length_toList, it.1]; exact l1
    rw [List.map_map]
    apply List.ext_getElem?
    intro j
    rw [List.getElem?_map]
    cases hj : acc.toList[j]? with
    | none =>
      have h1 := List.getElem?_eq_none_iff.mp hj
      rw [List.getElem?_eq_none (by omega)]
      all_goals rfl
    | some v =>
      obtain ⟨en, hen, hv⟩ := it.2 j v (by rw [← Array.getElem?_toList]; exact hj)
      have qe := entry_at he j
      rw [hen] at qe
      cases hb : ks[j]? with
      | none =>
        rw [hb] at qe
        exact nomatch (show some en = none from qe)
      | some b =>
        rw [hb] at qe
        have e2 : en = entryOfKey (tupleKind (mixKind X.prog X.w)) b := Option.some.inj qe
        rw [hv, e2]
        all_goals rfl
  have hkeys := isKeys_of pr
  generalize ks.map (fun x => x.2.1) = bs at ea hkeys
  have hkb := hk bs hkeys
  have lb : bs.length ≤ sizeLine := by have := Paired.length hkeys; omega
  rw [ea]
  have tp : ∀ u ∈ bs.map Value.ref, TpI h' u (k (bkV u)) := fun u hm => by
    obtain ⟨b, hb, rfl⟩ := List.mem_map.mp hm
    exact (tpI_raw I (hkb b hb)).keeps fun c o _ g => kp c o g
  refine wpAny_bind (wpAny_newList ?_ (by rw [List.length_map]; exact lb))
  have hoL : (h'.push (seqObj "list" (bs.map Value.ref).toArray 0)).get? h'.objs.size = some (seqObj "list" (bs.map Value.ref).toArray 0) := Heap.get?_push_size _ rfl
  have keep : ∀ b o, s.heap.get? b = some o → b ≠ h'.objs.size ∧ (h'.push (seqObj "list" (bs.map Value.ref).toArray 0)).get? b = some o := fun b o q => by
    have := kp b o q
    exact ⟨Nat.ne_of_lt (Heap.lt_size this), Heap.get?_push_of_some _ this⟩
  have hn' : H h'.objs.size = none := (I.hok.kept kp).fresh (Nat.le_refl _)
  have hp' : s.heap.get? h'.objs.size = none := by
    cases e : s.heap.get? h'.objs.size with
    | none => rfl
    | some o => exact absurd (Heap.lt_size (kp _ _ e)) (Nat.lt_irrefl _)
  have lz : (bs.map Value.ref).length ≤ sizeLine := by rw [List.length_map]; exact lb
  show wpAny _ _ _ _ _ { s with heap := h'.push (seqObj "list" (bs.map Value.ref).toArray 0), toks := tk }
  refine wpAny_bind (wpAny_holding (wpAny_call_entry slot_list_sort ⟨_, hoL, rfl⟩ entry_list_sort (SrtO.list_sort_ord (NtL.swo_lexL fun u => k (bkV u)) hoL lz (fun h2 => tp_sortable (s := { s with heap := h'.push (seqObj "list" (bs.map Value.ref).toArray 0), toks := tk }) h2 (by show X.A.units + 1 + 1 < cLine; omega)
    (fun u hm => (tp u hm).keeps fun c o _ g => Heap.get?_push_of_some _ g) fun u hm z => ?_) fun out h1 h2 => ⟨_, rfl, ?_⟩) (args_list_sort _)))
  · obtain ⟨c, dd, items, n, sl, ev, g, i⟩ := tp u hm
    rw [z] at ev
    cases ev
    exact absurd (Heap.lt_size g) (Nat.lt_irrefl _)
  · obtain ⟨ep, he'⟩ := PyProof.Rows.sortedHeap_at (out := out.toArray) hoL
    have h3 : ∀ u ∈ out, ∃ a, u = Value.ref a := fun u hu => by
      obtain ⟨b, _, e⟩ := List.mem_map.mp (h2.perm.mem_iff.mp hu)
      exact ⟨b, e.symm⟩
    have hp : (out.map bkV).Perm (bs.map V.ref) := by
      have := h2.perm.map bkV
      rw [List.map_map] at this
      exact this
    have hlen : (out.map bkV).length ≤ sizeLine := by
      rw [hp.length_eq, List.length_map]
      exact lb
    refine wpAny_pure ⟨_, rfl, .ref _, upd H h'.objs.size (.lst (out.map bkV)), I.laidN (t' := tk) (fun b o e => ?_) hp' hn' ⟨hlen, out, ep, bkV_vals h3, he'⟩, rfl, q bs _ _ hkeys hp ?_ hn'⟩
    · obtain ⟨k1, k2⟩ := keep b o e
      rw [PyProof.Rows.sortedHeap_old k1 (Heap.lt_size k2)]
      exact k2
    · exact List.pairwise_map.mpr (h1.imp fun {x y} z => z)
end
end SG
set_option Elab.async false
set_option linter.all false
set_option maxRecDepth 100000
set_option maxHeartbeats 4000000
/-! .. over data -/
namespace SG
open PySem PySem.Spec PyProof.Rows L2
def putP {α : Type} (kvs : List (List Nat × α)) (k : List Nat) (v : α) : List (List Nat × α) :=
  if (kvs.any fun kv => decide (kv.1 = k)) = true then kvs.map (fun kv => if kv.1 = k then (kv.1, v) else kv) else kvs ++ [(k, v)]
def ddP {α : Type} (prs : List (List Nat × α)) : List (List Nat × α) := prs.foldl (fun acc p => putP acc p.1 p.2) []
theorem natK_kV (l : List Nat) : (natK l).map kV = (castL l).map V.int := by
  unfold natK castL
  rw [List.map_map, List.map_map]
  rfl
theorem natK_inj {a b : List Nat} (h : natK a = natK b) : a = b := by
  have : (natK a).map kV = (natK b).map kV := by rw [h]
  rw [natK_kV, natK_kV] at this
  exact castL_inj (vint_inj _ _ this)
theorem natK_iff {a b : List Nat} : natK a = natK b ↔ a = b := ⟨natK_inj, fun h => by rw [h]⟩
theorem da_lotK {F : Hp} {l : List Nat} {v : V} : Da F (lotD l) v ↔ ∃ t, v = .ref t ∧ F t = some (.tup ((natK l).map kV)) := by
  rw [da_lot, natK_kV]
theorem tv_put {F : Hp} {kvs : List (List Nat × PyData)} {ps : List (List Key × V)} (h : TvR F kvs ps) (l : List Nat) {d : PyData} {v : V} (hd : Da F d v) : TvR F (putP kvs l d) (putK ps (natK l) v) := by
  have e : (kvs.any fun kv => decide (kv.1 = l)) = (ps.any fun kv => decide (kv.1 = natK l)) := by
    induction h with
    | nil => rfl
    | @cons p q _ _ h t ih =>
      simp only [List.any_cons, ih]
      congr 1
      rw [h.1]
      simp [natK_iff]
  unfold putP putK
  rw [e]
  by_cases q : (ps.any fun kv => decide (kv.1 = natK l)) = true
  · rw [if_pos q, if_pos q]
    clear e q
    induction h with
    | nil => exact .nil
    | @cons p q _ _ h t ih =>
      rw [List.map_cons, List.map_cons]
      refine .cons ?_ ih
      by_cases z : p.1 = l
      · rw [if_pos z, if_pos (by rw [h.1, z])]
        exact ⟨h.1, hd⟩
      · rw [if_neg z, if_neg (by rw [h.1]; exact fun w => z (natK_inj w))]
        exact h
  · rw [if_neg q, if_neg q]
    exact Paired.snoc h ⟨rfl, hd⟩
theorem tv_fold {F : Hp} : ∀ {prs : List (List Nat × PyData)} {ks : List (List Key × Addr × V)}, Paired (fun p x => x.1 = natK p.1 ∧ Da F p.2 x.2.2) prs ks → ∀ {kvs : List (List Nat × PyData)} {ps : List (List Key × V)}, TvR F kvs ps →
    TvR F (prs.foldl (fun acc p => putP acc p.1 p.2) kvs) (ks.foldl (fun acc x => putK acc x.1 x.2.2) ps) := by
  intro prs ks h
  induction h with
  | nil => intro kvs ps r; exact r
  | @cons p x _ _ h t ih =>
    intro kvs ps r
    refine ih (kvs := putP kvs p.1 p.2) (ps := putK ps x.1 x.2.2) ?_
    rw [h.1]
    exact tv_put r p.1 h.2
theorem paired_mono {α β : Type} {R S : α → β → Prop} {l : List α} {m : List β} (h : Paired R l m) (f : ∀ a b, R a b → S a b) : Paired S l m := by
  induction h with
  | nil => exact .nil
  | cons h t ih => exact .cons (f _ _ h) ih
section
variable {X : Cx}
theorem f_dictT {α : Type} (hu : X.A.units + 64 < cLine) {xs : List α} {k : α → List Nat} {g : α → PyData} (hc : X.calm = true := by rfl) : CalOk X (.type "dict") [.d (.list (xs.map fun a => .tuple [lotD (k a), g a]))] (.dt (ddP (xs.map fun a => (k a, g a)))) := ⟨_, call_dictT hc hu, fun M H vs l h Q q => by
  obtain ⟨v, rfl, hv⟩ := rpl_1 h
  rw [rp_lst] at hv
  obtain ⟨a, ys, rfl, h1, h2⟩ := hv
  obtain ⟨ps, ks, e, r1, r2⟩ : ∃ (ps : List Addr) (ks : List (List Key × Addr × V)), ys = ps.map V.ref ∧ Paired (fun p x => SqT X.K H p [.ref x.2.1, x.2.2] ∧ H x.2.1 = some (.tup (x.1.map kV))) ps ks ∧ Paired (fun p x => x.1 = natK p.1 ∧ Da (off M H) p.2 x.2.2) (xs.map fun a => (k a, g a)) ks := by
    clear h1 q h
    induction xs generalizing ys with
    | nil =>
      simp only [List.map_nil, DaL] at h2
      subst h2
      exact ⟨[], [], rfl, .nil, .nil⟩
    | cons a xs ih =>
      simp only [List.map_cons, DaL] at h2
      obtain ⟨y, ys', rfl, h3, h4⟩ := h2
      obtain ⟨ps, ks, rfl, r1, r2⟩ := ih ys' h4
      simp only [Da] at h3
      obtain ⟨p, zs, rfl, h5, h6⟩ := h3
      simp only [DaL] at h6
      obtain ⟨y1, _, rfl, h7, y2, _, rfl, h8, rfl⟩ := h6
      obtain ⟨c, rfl, h9⟩ := da_lotK.mp h7
      exact ⟨p :: ps, (natK (k a), c, y2) :: ks, rfl, .cons ⟨SqT.of (off_sub _ _ h5), off_sub _ _ h9⟩ r1, .cons ⟨rfl, h8⟩ r2⟩
  subst e
  refine ⟨a, ps, ks, rfl, SqL.of (off_sub _ _ h1), r1, fun p hp => q _ _ (upd_ext hp) ⟨p, mergeT ks, rfl, off_new l hp, ?_⟩⟩
  have sm : Same (off M H) (off M (upd H p (.dT (mergeT ks)))) := off_same (upd_ext hp)
  exact tv_fold (paired_mono r2 fun p x z => ⟨z.1, Da.mono sm _ _ z.2⟩) .nil⟩
theorem tv_keys {F H : Hp} {M : List Addr} {kvs : List (List Nat × PyData)} {ps : List (List Key × V)} (h : TvR F kvs ps) (nt : ∀ a ∈ M, ∀ xs, H a ≠ some (.tup xs)) : ∀ {bs : List Addr}, IsKeys H ps bs → DaL (off M H) ((kvs.map (·.1)).map lotD) (bs.map V.ref) := by
  induction h with
  | nil => intro bs hb; cases hb; simp only [List.map_nil]; exact DaL.nil
  | @cons p q _ _ h t ih =>
    intro bs hb
    cases hb with
    | @cons _ b _ bs hb tb =>
      refine DaL.cons ?_ (ih tb)
      rw [h.1] at hb
      refine da_lotK.mpr ⟨b, rfl, ?_⟩
      rw [off_out (fun m => nt b m _ hb)]
      exact hb
theorem Hd.nt {W : List Ow} {H : Hp} (h : Hd W H) : ∀ a ∈ adrs W, ∀ xs, H a ≠ some (.tup xs) := fun a ha xs e => by
  obtain ⟨o, ho, rfl⟩ := List.mem_map.mp ha
  have hh := h.hold o ho
  cases o with
  | raw b x => exact hh.2.1 xs (Option.some.inj (hh.1.symm.trans e))
  | lst b ds =>
    obtain ⟨vs, h1, _⟩ := hh
    cases h1.symm.trans e
  | tab b q =>
    obtain ⟨ps, h1, _⟩ := hh
    cases h1.symm.trans e
variable {e : Expr} {pos p : Pos} {W W1 : List Ow} {ρ : Rho} {kvs : List (List Nat × PyData)}
theorem e_listDT (ha : PA X [e] (tA W ρ [.dt kvs] W1)) (hm : X.mg "list" = none) (hc : X.calm = true := by rfl) (hg : Gl X "list" := by rfl) (he : starEach [e] X.env = (false, eval e X.env) :: starEach [] X.env := by rfl) (hpl : (backTo pos (starEach [] X.env)).any (·.1) = false := by rfl) :
    PE X (.Call (.Name "list" p) [e] [] pos) (tE W ρ (.d (llD (kvs.map (·.1)))) W1) :=
  PEto (pe_callTy (call_list_dT hc) hg hm rfl ha (by decide) (by decide) he hpl) fun σ H Q ⟨Z, c, q⟩ => ⟨Z, c, fun vs H1 g1 d1 q1 => by
    obtain ⟨v, rfl, h⟩ := rpl_1 q1
    obtain ⟨a, ps, rfl, h1, h2⟩ := h
    refine ⟨a, ps, rfl, .inl (off_sub _ _ h1), fun p bs hp hb => ?_⟩
    have hd := tv_keys h2 d1.nt hb
    have sm := upd_ext (o := .lst (bs.map V.ref)) hp
    refine q _ _ (g1.trans (Go.same sm)) (d1.same sm) ?_
    unfold llD
    rw [rp_lst]
    exact ⟨p, _, rfl, off_new d1.lv hp, DaL.mono (off_same sm) _ _ hd⟩⟩
theorem e_sortDT (hu : X.A.units + 64 < cLine) (ha : PA X [e] (tA W ρ [.dt kvs] W1)) (hm : X.mg "sorted" = none) (hc : X.calm = true := by rfl) (hg : Gl X "sorted" := by rfl) (he : starEach [e] X.env = (false, eval e X.env) :: starEach [] X.env := by rfl) (hpl : (backTo pos (starEach [] X.env)).any (·.1) = false := by rfl) :
    PE X (.Call (.Name "sorted" p) [e] [] pos) (tE W ρ (.d (llD (sortL (kvs.map (·.1))))) W1) :=
  PEto (pe_callB (call_sortD hc hu) hg hm rfl ha (by decide) (by decide) he hpl) fun σ H Q ⟨Z, c, q⟩ => ⟨Z, c, fun vs H1 g1 d1 q1 => by
    obtain ⟨v, rfl, h⟩ := rpl_1 q1
    obtain ⟨a, ps, rfl, h1, h2⟩ := h
    refine ⟨a, ps, fun v => castL (kOf (off (adrs (Z ++ W1)) H1) v), rfl, .inl (off_sub _ _ h1), fun bs hb b hm => ?_, fun bs ys p hb hp hs hn => ?_⟩
    · have hd := tv_keys h2 d1.nt hb
      obtain ⟨e1, e2⟩ := dal_lots hd
      obtain ⟨t, e3, e4⟩ := da_lot.mp (e2 (.ref b) (List.mem_map.mpr ⟨b, hm, rfl⟩))
      cases e3
      exact SqT.of (off_sub _ _ e4)
    · have hd := tv_keys h2 d1.nt hb
      obtain ⟨e1, e2⟩ := dal_lots hd
      have hy : ∀ y ∈ ys, Da (off (adrs (Z ++ W1)) H1) (lotD (kOf (off (adrs (Z ++ W1)) H1) y)) y := fun y m => e2 y (hp.mem_iff.mp m)
      have hd' := dal_of hy
      have es : ys.map (kOf (off (adrs (Z ++ W1)) H1)) = sortL (kvs.map (·.1)) := sortL_uniq (by rw [e1]; exact hp.map _) (List.pairwise_map.mpr (hs.imp fun {x y} z => z))
      rw [es] at hd'
      have sm := upd_ext (o := .lst ys) hn
      refine q _ _ (g1.trans (Go.same sm)) (d1.same sm) ?_
      unfold llD
      rw [rp_lst]
      exact ⟨p, _, rfl, off_new d1.lv hn, DaL.mono (off_same sm) _ _ hd'⟩⟩
/-- what stands at a lot -/
def getP (kvs : List (List Nat × PyData)) (l : List Nat) : Option PyData := (kvs.find? fun kv => decide (kv.1 = l)).map (·.2)
theorem tv_get {F : Hp} {kvs : List (List Nat × PyData)} {ps : List (List Key × V)} (h : TvR F kvs ps) {l : List Nat} {d : PyData} (e : getP kvs l = some d) : ∃ v, valV ps (natK l) = some v ∧ Da F d v := by
  induction h with
  | nil => cases e
  | @cons p q _ _ h t ih =>
    unfold getP at e
    rw [List.find?_cons] at e
    by_cases z : p.1 = l
    · rw [decide_eq_true z] at e
      cases e
      exact ⟨q.2, valV_pos (by rw [h.1, z]), h.2⟩
    · rw [decide_eq_false z] at e
      obtain ⟨v, e1, e2⟩ := ih e
      exact ⟨v, by rw [valV_neg (by rw [h.1]; exact fun w => z (natK_inj w))]; exact e1, e2⟩
theorem e_dtget {o i : Expr} {W2 : List Ow} {l : List Nat} {d : PyData} (hu : X.A.units + 64 < cLine) (ho : PE X o (tE W ρ (.dt kvs) W1)) (hi : PE X i (tE W1 ρ (.d (lotD l)) W2)) (hd : getP kvs l = some d) (hs : NoSl i := by exact fun _ _ => rfl) : PE X (.Subscript o i pos) (tE W ρ (.d d) W2) :=
  PEto (pe_dget (by omega) ho hi hs) fun σ H Q ⟨Z, c, q⟩ => ⟨Z, c, fun x H1 g1 d1 q1 => ⟨Z, c.go g1 d1, fun y H2 g2 d2 q2 => by
    have q1' := q1.mono g2.off
    obtain ⟨a, ps, rfl, h1, h2⟩ := q1'
    obtain ⟨t, rfl, h3⟩ := da_lotK.mp (show Da _ (lotD l) y from q2)
    obtain ⟨v, e1, e2⟩ := tv_get h2 hd
    have g := DGet.t (k := natK l) (off_sub _ _ h1) (off_sub _ _ h3)
    rw [e1] at g
    exact ⟨a, v, rfl, g, q v H2 (g1.trans g2) d2 e2⟩⟩⟩
end
end SG
set_option Elab.async false
set_option linter.all false
set_option maxRecDepth 100000
set_option maxHeartbeats 4000000
namespace SG
open PySem PySem.Spec PyProof.Rows L2
/-! the law's lots and spaces -/
def commonL (a b : List Nat) : List Nat := a.filter fun p => decide (p ∈ b)
def hasL (here part : List Nat) : Bool := (part.filter fun p => !decide (p ∈ here)).isEmpty
def subs : Nat → List (List Nat)
  | 0 => [[]]
  | n + 1 => subs n ++ (subs n).map fun r => r ++ [n]
def lawLots (n : Nat) : List (List Nat) := sortL (subs n)
def spanL (S : Sp2) (l : List Nat) : List Nat := S.2.foldl (fun f c => if hasL c l then commonL f c else f) (List.range S.1)
def keysOf (ls : List (List Nat)) : List (List Nat) := (ddP (ls.map fun l => (l, PyData.bool true))).map (·.1)
def madeL (n : Nat) (ls : List (List Nat)) : Sp2 := (n, sortL (keysOf ls))
theorem subs_len : ∀ n, (subs n).length = 2 ^ n
  | 0 => rfl
  | n + 1 => by
    show (subs n ++ (subs n).map _).length = _
    rw [List.length_append, List.length_map, subs_len n, Nat.pow_succ]
    omega
theorem subs_row : ∀ {n : Nat} {r : List Nat}, r ∈ subs n → r.length ≤ n ∧ r.Pairwise (· < ·) ∧ ∀ p ∈ r, p < n
  | 0, r, h => by
    have : r = [] := by simpa [subs] using h
    subst this
    exact ⟨Nat.le_refl _, .nil, fun p hp => nomatch hp⟩
  | n + 1, r, h => by
    rcases List.mem_append.mp (show r ∈ subs n ++ (subs n).map _ from h) with z | z
    · obtain ⟨h1, h2, h3⟩ := subs_row z
      exact ⟨by omega, h2, fun p hp => by have := h3 p hp; omega⟩
    · obtain ⟨q, hq, rfl⟩ := List.mem_map.mp z
      obtain ⟨h1, h2, h3⟩ := subs_row hq
      refine ⟨by simp; omega, List.pairwise_append.mpr ⟨h2, List.pairwise_singleton _ _, fun a ha b hb => ?_⟩, fun p hp => ?_⟩
      · have : b = n := by simpa using hb
        subst this; exact h3 a ha
      · rcases List.mem_append.mp hp with w | w
        · have := h3 p w; omega
        · have : p = n := by simpa using w
          omega
theorem lots_len (n : Nat) : (lawLots n).length = 2 ^ n := by unfold lawLots; rw [(sortL_perm _).length_eq, subs_len]
theorem lots_mem {n : Nat} {l : List Nat} (h : l ∈ lawLots n) : l.length ≤ n ∧ l.Pairwise (· < ·) ∧ ∀ p ∈ l, p < n := subs_row ((sortL_perm _).mem_iff.mp h)
theorem p2_le {n : Nat} (h : n ≤ 9) : 2 ^ n ≤ 512 := Nat.pow_le_pow_right (n := 2) (by decide) h
section
variable {P : Program} {w : World} {K : PySem.W.Frag} {mg : Str → Option Value} {base : Heap}
inductive F_law_common : Spec
  | mk {a b : List Nat} (h : a.length < sizeLine) : F_law_common [] [.d (lotD a), .d (lotD b)] (.d (lotD (commonL a b))) []
theorem sc_law_common : FnScope ["_law_one", "_law_other", "_law_point"] ["_law_one", "_law_other"] (C8.fnScope s_law_common) := ⟨rfl, rfl, rfl, by decide +kernel, rfl, by decide +kernel, by decide +kernel⟩
theorem f_law_common (T : Top K mg) : Fn P w K mg base false 1 "_law_common" F_law_common := by
  refine Fn.of T.s_law_common sc_law_common (fun _ _ _ _ _ _ us hl => match us, hl with | [_, _], _ => rfl) (by rintro _ _ _ _ ⟨⟩ <;> rfl) fun f cdv A outer s H E hr W rs r W' hF => ?_
  cases hF with | @mk a b h =>
  exact h_one (s_ret (r_calT (a_cons (e_comp (comp_N [("_law_point", 2)] 2 (p := fun p => decide (p ∈ b)) (f := nD) (xs := a) (i_tup (e_var 0)) sc_law_common.nd (by first | assumption | omega | decide) (fun a ha s H C cl fp => s_one (rt_cmp (e_var 2) (e_var 1) c_inN)) (fun a ha hp s H C cl fp => (e_var 2)) (fun s H C cl fp => g_nm 2 sc_law_common.nd))) a_nil) f_tuple T.b_tuple rfl))
inductive F_law_has : Spec
  | mk {a b : List Nat} (h : b.length < sizeLine) : F_law_has [] [.d (lotD a), .d (lotD b)] (B_ (hasL a b)) []
theorem sc_law_has : FnScope ["_law_lot_here", "_law_part", "_law_point"] ["_law_lot_here", "_law_part"] (C8.fnScope s_law_has) := ⟨rfl, rfl, rfl, by decide +kernel, rfl, by decide +kernel, by decide +kernel⟩
theorem f_law_has (T : Top K mg) : Fn P w K mg base false 1 "_law_has" F_law_has := by
  refine Fn.of T.s_law_has sc_law_has (fun _ _ _ _ _ _ us hl => match us, hl with | [_, _], _ => rfl) (by rintro _ _ _ _ ⟨⟩ <;> rfl) fun f cdv A outer s H E hr W rs r W' hF => ?_
  cases hF with | @mk a b h =>
  exact h_one (s_ret (r_cmp (e_comp (comp_N [("_law_point", 2)] 2 (p := fun p => !decide (p ∈ a)) (f := nD) (xs := b) (i_tup (e_var 1)) sc_law_has.nd (by first | assumption | omega | decide) (fun a ha s H C cl fp => s_one (rt_cmp (e_var 2) (e_var 0) c_niN)) (fun a ha hp s H C cl fp => (e_var 2)) (fun s H C cl fp => g_nm 2 sc_law_has.nd))) e_nilL (c_mL0 hr.units (by first | assumption | exact sh_lot | exact sh_nl | exact sh_ll | exact sh_lots | exact sh_int | exact sh_bool | exact sh_none | exact sh_nil | exact sh_nilT | exact sh_ones _))))
inductive F_law_lots : Spec
  | mk {n : Nat} (h : n ≤ 9) : F_law_lots [] [I_ (n : Nat)] (.d (llD (lawLots n))) []
theorem sc_law_lots : FnScope ["_law_points", "_law_rows", "_law_point", "_law_row"] ["_law_points"] (C8.fnScope s_law_lots) := ⟨rfl, rfl, rfl, by decide +kernel, rfl, by decide +kernel, by decide +kernel⟩
theorem f_law_lots (T : Top K mg) : Fn P w K mg base false 1 "_law_lots" F_law_lots := by
  refine Fn.of T.s_law_lots sc_law_lots (fun _ _ _ _ _ _ us hl => match us, hl with | [_], _ => rfl) (by rintro _ _ _ _ ⟨⟩ <;> rfl) fun f cdv A outer s H E hr W rs r W' hF => ?_
  cases hF with | @mk n h =>
  refine h_cons (s_set 1 (e_to (.d (llD (subs 0))) (e_lst1 (a_cons (e_to (.d (lotD [])) e_nilT rfl) a_nil)) rfl) sc_law_lots.nd) ?_
  refine h_cons (s_forI (fun _ => []) (fun j => [some (I_ (n : Nat)), some (.d (llD (subs j))), none, none]) 2 (xs := List.range n) (gg := nD) (i_rgN T.b_range (a_cons (e_var 0) a_nil) (by first | assumption | omega | decide)) sc_law_lots.nd (by repeat (first | exact trivial | refine ⟨.inr rfl, ?_⟩ | refine ⟨.inl rfl, ?_⟩)) fun j a ha => ?_) ?_
  · have hj : j < n ∧ a = j := by
      obtain ⟨h1, h2⟩ := List.getElem?_eq_some_iff.mp ha
      rw [List.getElem_range] at h2
      exact ⟨by simpa using h1, h2.symm⟩
    obtain ⟨hjn, rfl⟩ := hj
    have hz : (subs a).length < sizeLine := by
      rw [subs_len]
      exact Nat.lt_of_le_of_lt (p2_le (by omega)) (by decide)
    have hc : ((subs a).map lotD).length + ((subs a).map fun r => PyData.tuple (r.map nD ++ [nD a])).length ≤ sizeLine := by
      rw [List.length_map, List.length_map, subs_len]
      exact Nat.le_trans (Nat.add_le_add (p2_le (n := a) (by omega)) (p2_le (n := a) (by omega))) (by decide)
    refine hs_wk (h_one (s_set 1 (e_to (.d (llD (subs (a + 1)))) (r_bin (e_var 1) (e_comp (comp_M [("_law_row", 3)] 3 (f := fun r => PyData.tuple (r.map nD ++ [nD a])) (xs := subs a) (gg := lotD) (i_lst (e_var 1)) sc_law_lots.nd (by first | assumption | omega | exact hc | (have := (subs_row ha').1; simp only [List.length_map, List.length_cons, List.length_nil]; exact Nat.le_trans (show _ ≤ 11 by omega) (by decide)) | decide) (fun r ha' s H C cl fp => (r_bin (e_var 3) (e_tup1 (a_cons (e_var 2) a_nil)) (b_catT (by first | assumption | omega | exact hc | (have := (subs_row ha').1; simp only [List.length_map, List.length_cons, List.length_nil]; exact Nat.le_trans (show _ ≤ 11 by omega) (by decide)) | decide)))) (fun s H C cl fp => g_nm 3 sc_law_lots.nd))) (b_catL (by first | assumption | omega | exact hc | (have := (subs_row ha').1; simp only [List.length_map, List.length_cons, List.length_nil]; exact Nat.le_trans (show _ ≤ 11 by omega) (by decide)) | decide))) ?_) sc_law_lots.nd)) (by repeat (first | exact trivial | refine ⟨.inr rfl, ?_⟩ | refine ⟨.inl rfl, ?_⟩))
    show Sl.d (.list ((subs a).map lotD ++ (subs a).map _)) = Sl.d (.list ((subs a ++ (subs a).map _).map lotD))
    rw [List.map_append, List.map_map]
    congr 4
    funext r
    show PyData.tuple _ = PyData.tuple ((r ++ [a]).map nD)
    rw [List.map_append]
    rfl
  · rw [List.length_range]
    exact h_one (s_ret (r_calB (a_cons (e_var 1) a_nil) (f_sortL hr.units) T.b_sorted rfl))
inductive F_law_span : Spec
  | mk {S : Sp2} {l : List Nat} (h1 : S.1 ≤ 9) (h : l.length < sizeLine) : F_law_span [] [.d (spD S), .d (lotD l)] (.d (lotD (spanL S l))) []
theorem sc_law_span : FnScope ["_law_space", "_law_lot_here", "_law_found", "_law_closed"] ["_law_space", "_law_lot_here"] (C8.fnScope s_law_span) := ⟨rfl, rfl, rfl, by decide +kernel, rfl, by decide +kernel, by decide +kernel⟩
theorem f_law_span (T : Top K mg) : Fn P w K mg base false 2 "_law_span" F_law_span := by
  refine Fn.of T.s_law_span sc_law_span (fun _ _ _ _ _ _ us hl => match us, hl with | [_, _], _ => rfl) (by rintro _ _ _ _ ⟨⟩ <;> rfl) fun f cdv A outer s H E hr W rs r W' hF => ?_
  cases hF with | @mk S l h1 h =>
  refine h_cons (s_set 2 (e_tupRg (r_ix (e_var 0) e_nat x_sp0) (by first | assumption | omega | decide) T.b_tuple T.b_range) sc_law_span.nd) ?_
  refine h_cons (s_forN (fun f => f.length ≤ 9) (fun f c => if hasL c l then commonL f c else f) (fun _ => []) (fun f => [some (.d (spD S)), some (.d (lotD l)), some (.d (lotD f)), none]) (List.range S.1) 3 (xs := S.2) (gg := lotD) (i_tup (r_ix (e_var 0) e_nat x_sp1)) sc_law_span.nd (by rw [List.length_range]; exact h1) (by repeat (first | exact trivial | refine ⟨.inr rfl, ?_⟩ | refine ⟨.inl rfl, ?_⟩)) (fun f c _ hf => ?_) fun f c hl hf => ?_) ?_
  · show (if hasL c l then commonL f c else f).length ≤ 9
    split
    · exact Nat.le_trans (List.length_filter_le _ _) hf
    · exact hf
  · have hfz : f.length < sizeLine := Nat.lt_of_le_of_lt hf (by decide)
    cases hc : hasL c l with
    | true =>
      rw [if_pos rfl]
      exact hs_wk (h_one (s_ifT (t_val (e_to (B_ true) (r_callP (f_law_has T) (hr.mono (by decide)) (a_cons (e_var 3) (a_cons (e_var 1) a_nil)) (.mk (by first | assumption | omega | decide))) (by rw [hc]))) (h_one (s_set 2 (r_callP (f_law_common T) (hr.mono (by decide)) (a_cons (e_var 2) (a_cons (e_var 3) a_nil)) (.mk (by first | assumption | omega | decide))) sc_law_span.nd)))) (by repeat (first | exact trivial | refine ⟨.inr rfl, ?_⟩ | refine ⟨.inl rfl, ?_⟩))
    | false =>
      rw [if_neg (by decide)]
      exact hs_wk (h_one (s_ifF (t_val (e_to (B_ false) (r_callP (f_law_has T) (hr.mono (by decide)) (a_cons (e_var 3) (a_cons (e_var 1) a_nil)) (.mk (by first | assumption | omega | decide))) (by rw [hc]))) h_nil)) (by repeat (first | exact trivial | refine ⟨.inr rfl, ?_⟩ | refine ⟨.inl rfl, ?_⟩))
  · exact h_one (s_ret (e_var 2))
inductive F_law_made : Spec
  | mk {n : Nat} {ls : List (List Nat)} (h : ls.length < sizeLine) : F_law_made [] [I_ (n : Nat), .d (llD ls)] (.d (spD (madeL n ls))) []
theorem sc_law_made : FnScope ["_law_points", "_law_lots_here", "_law_lot_here"] ["_law_points", "_law_lots_here"] (C8.fnScope s_law_made) := ⟨rfl, rfl, rfl, by decide +kernel, rfl, by decide +kernel, by decide +kernel⟩
theorem f_law_made (T : Top K mg) : Fn P w K mg base false 1 "_law_made" F_law_made := by
  refine Fn.of T.s_law_made sc_law_made (fun _ _ _ _ _ _ us hl => match us, hl with | [_, _], _ => rfl) (by rintro _ _ _ _ ⟨⟩ <;> rfl) fun f cdv A outer s H E hr W rs r W' hF => ?_
  cases hF with | @mk n ls h =>
  exact h_one (s_ret (e_tup2 (a_cons (e_var 0) (a_cons (r_calT (a_cons (e_sortDT hr.units (a_cons (r_calT (a_cons (e_comp (comp_M [("_law_lot_here", 2)] 2 (f := fun l => PyData.tuple [lotD l, PyData.bool true]) (xs := ls) (i_lst (e_var 1)) sc_law_made.nd (by first | assumption | omega | decide) (fun a ha s H C cl fp => (e_tup2 (a_cons (e_var 2) (a_cons e_bl a_nil)))) (fun s H C cl fp => g_nm 2 sc_law_made.nd))) a_nil) (f_dictT hr.units (k := fun l => l) (g := fun _ => .bool true)) T.b_dict rfl) a_nil) T.b_sorted) a_nil) f_tuple T.b_tuple rfl) a_nil))))
end
end SG
set_option Elab.async false
set_option linter.all false
set_option maxRecDepth 100000
set_option maxHeartbeats 4000000
namespace SG
open PySem PySem.Spec PyProof.Rows L2
/-! the law's looks -/
theorem filt_lay (p : PyData → Bool) : ∀ ds : List PyData, PyData.canLayAll0 ds = true → PyData.canLayAll0 (ds.filter p) = true
  | [], h => h
  | d :: ds, h => by
    simp only [PyData.canLayAll0, Bool.and_eq_true] at h
    have ih := filt_lay p ds h.2
    rw [List.filter_cons]
    split
    · simp only [PyData.canLayAll0, Bool.and_eq_true]
      exact ⟨h.1, ih⟩
    · exact ih
theorem filt_dep (p : PyData → Bool) : ∀ ds : List PyData, PyData.depthAll (ds.filter p) ≤ PyData.depthAll ds
  | [] => Nat.le_refl _
  | d :: ds => by
    have ih := filt_dep p ds
    rw [List.filter_cons]
    split
    · simp only [PyData.depthAll]; omega
    · simp only [PyData.depthAll]; omega
theorem sh_filt {ds : List PyData} (h : Sh (.tuple ds)) (p : PyData → Bool) : Sh (.list ((ds.filter p).map id)) := by
  rw [List.map_id]
  have ⟨h1, h2⟩ := shaped_iff.mp h
  refine shaped_iff.mpr ⟨?_, ?_⟩
  · simp only [PyData.canLay0] at h1 ⊢
    exact filt_lay p ds h1
  · have := filt_dep p ds
    simp only [PyData.depth] at h2 ⊢
    omega
theorem sh_ones {α : Type} (xs : List α) : Sh (.list (xs.map fun _ => nD 1)) := by
  have e : (xs.map fun _ => nD 1) = (xs.map fun _ => (1 : Nat)).map nD := by rw [List.map_map]; rfl
  rw [e]; exact sh_nl
theorem emp_filt {α : Type} (xs : List α) (p : α → Bool) : (xs.filter fun a => !p a).isEmpty = xs.all p := by
  induction xs with
  | nil => rfl
  | cons a xs ih =>
    rw [List.filter_cons]
    cases h : p a with
    | true => simpa [h] using ih
    | false => simp [h]
section
variable {P : Program} {w : World} {K : PySem.W.Frag} {mg : Str → Option Value} {base : Heap}
inductive F_law_is_int : Spec
  | mk {d : PyData} {a b : Int} (h : Sh d) : F_law_is_int [] [.d d, I_ a, I_ b] (B_ (isInt d a b)) []
theorem sc_law_is_int : FnScope ["_law_thing", "_law_least", "_law_most"] ["_law_thing", "_law_least", "_law_most"] (C8.fnScope s_law_is_int) := ⟨rfl, rfl, rfl, by decide +kernel, rfl, by decide +kernel, by decide +kernel⟩
theorem f_law_is_int (T : Top K mg) : Fn P w K mg base false 1 "_law_is_int" F_law_is_int := by
  refine Fn.of T.s_law_is_int sc_law_is_int (fun _ _ _ _ _ _ us hl => match us, hl with | [_, _, _], _ => rfl) (by rintro _ _ _ _ ⟨⟩ <;> rfl) fun f cdv A outer s H E hr W rs r W' hF => ?_
  cases hF with | @mk d a b h =>
  refine h_one (s_ret ?_)
  by_cases hd : ∃ i, d = .int i
  · obtain ⟨i, rfl⟩ := hd
    refine (v_andT (r_calB (a_cons (e_var 0) (a_cons (e_bty T.b_int rfl) a_nil)) (f_isInt (Sh.nd (by first | assumption | omega | decide))) T.b_isinstance rfl) (v_andT (v_notT (r_calB (a_cons (e_var 0) (a_cons (e_bty T.b_bool rfl) a_nil)) (f_isBl (Sh.nd (by first | assumption | omega | decide))) T.b_isinstance rfl)) (v_one (e_chainP c_le c_le (e_var 1) (e_var 0) (e_var 2))))) <;> exact h
  · have e : isInt d a b = false := by cases d <;> first | rfl | exact absurd ⟨_, rfl⟩ hd
    rw [e]
    cases d with
    | int i => exact absurd ⟨_, rfl⟩ hd
    | bool k => refine (v_andT (r_calB (a_cons (e_var 0) (a_cons (e_bty T.b_int rfl) a_nil)) (f_isInt (Sh.nd (by first | assumption | omega | decide))) T.b_isinstance rfl) (v_andF (v_notF (r_calB (a_cons (e_var 0) (a_cons (e_bty T.b_bool rfl) a_nil)) (f_isBl (Sh.nd (by first | assumption | omega | decide))) T.b_isinstance rfl)))) <;> exact h
    | _ => refine (v_andF (r_calB (a_cons (e_var 0) (a_cons (e_bty T.b_int rfl) a_nil)) (f_isInt (Sh.nd (by first | assumption | omega | decide))) T.b_isinstance rfl)) <;> exact h
inductive F_law_is_lot : Spec
  | mk {p : Int} {d : PyData} (h : Sh d) (hz : ∀ ds, d = .tuple ds → ds.length < sizeLine) : F_law_is_lot [] [I_ p, .d d] (B_ (isLot p d)) []
theorem sc_law_is_lot : FnScope ["_law_points", "_law_thing", "_law_one", "_law_other"] ["_law_points", "_law_thing"] (C8.fnScope s_law_is_lot) := ⟨rfl, rfl, rfl, by decide +kernel, rfl, by decide +kernel, by decide +kernel⟩
theorem f_law_is_lot (T : Top K mg) : Fn P w K mg base false 2 "_law_is_lot" F_law_is_lot := by
  refine Fn.of T.s_law_is_lot sc_law_is_lot (fun _ _ _ _ _ _ us hl => match us, hl with | [_, _], _ => rfl) (by rintro _ _ _ _ ⟨⟩ <;> rfl) fun f cdv A outer s H E hr W rs r W' hF => ?_
  cases hF with | @mk p d h hz =>
  by_cases ht : ∃ ds, d = .tuple ds
  · obtain ⟨ds, rfl⟩ := ht
    have hz' := hz ds rfl
    have hs : ∀ x ∈ ds, Sh x := sh_tup h
    refine h_ifR (k := !(ds.filter fun d => !isInt d 0 (p - 1)).isEmpty) (PW.pt (w_orF (t_notF (t_val (r_calB (a_cons (e_var 1) (a_cons (e_bty T.b_tuple rfl) a_nil)) (f_isTup (Sh.nd (by first | assumption | omega | exact hs _ ‹_› | decide))) T.b_isinstance rfl))) (w_or1 (rt_cmp (e_comp (comp_N [("_law_one", 2)] 2 (p := fun d => !isInt d 0 (p - ((1 : Nat) : Int))) (f := id) (xs := ds) (gg := id) (i_id (i_tup (e_var 1))) sc_law_is_lot.nd (by first | assumption | omega | exact hs _ ‹_› | decide) (fun a ha s H C cl fp => s_one (t_not (t_val (r_callP (f_law_is_int T) (hr.mono (by decide)) (a_cons (e_var 2) (a_cons e_nat (a_cons (r_bin (e_var 0) e_nat b_sub) a_nil))) (.mk (by first | assumption | omega | exact hs _ ‹_› | decide)))))) (fun a ha hp s H C cl fp => (e_var 2)) (fun s H C cl fp => g_nm 2 sc_law_is_lot.nd))) e_nilL (c_mL0n hr.units (sh_filt h _)))))) (fun h1 => h_one (s_retE e_bl ?_)) (fun h2 => ?_)
    · have e : (ds.all fun d => isInt d 0 (p - 1)) = false := by rw [← emp_filt]; simpa using h1
      show B_ false = B_ (_ && _)
      rw [e]
      rfl
    · have e : (ds.all fun d => isInt d 0 (p - 1)) = true := by rw [← emp_filt]; simpa using h2
      have hi : ∀ d ∈ ds, ∃ i, d = .int i := fun d hd => isInt_int (List.all_eq_true.mp e d hd)
      obtain ⟨ns, rfl⟩ : ∃ ns : List Int, ds = ns.map .int := ⟨_, toI_map hi⟩
      have en : (ns.map PyData.int).map toI = ns := by rw [List.map_map]; exact List.map_id _
      have hz2 : (ns.zip (ns.drop 1)).length < sizeLine := by
        rw [List.length_map] at hz'
        rw [List.length_zip]
        omega
      refine h_one (s_retE (r_cmp (e_comp (comp_P [("_law_one", 2), ("_law_other", 3)] 2 3 (p := fun p => decide (p.2 ≤ p.1)) (f := fun _ => nD 1) (xs := ns.zip (ns.drop 1)) (i_zT T.b_zip (a_cons (e_var 1) (a_cons (e_sl s_dropM (e_var 1) (p_some e_nat) p_none) a_nil))) sc_law_is_lot.nd (by first | assumption | omega | exact hs _ ‹_› | decide) (fun a ha s H C cl fp => s_one (rt_cmp (e_var 2) (e_var 3) c_ge)) (fun a ha hp s H C cl fp => e_nat) (fun s H C cl fp => g_pr 2 3 sc_law_is_lot.nd))) e_nilL (c_mL0 hr.units (sh_ones _))) ?_)
      show B_ _ = B_ (_ && asc _)
      rw [e, en]
      unfold asc
      have : ∀ q : Int × Int, decide (q.2 ≤ q.1) = !decide (q.1 < q.2) := fun q => by
        rw [← decide_not]
        simp [Int.not_lt]
      rw [funext this, emp_filt]
      rfl
  · have e : isLot p d = false := by cases d <;> first | rfl | exact absurd ⟨_, rfl⟩ ht
    rw [e]
    refine h_ifT (PW.pt (w_orT (t_notT (t_val (k := false) (e_eq (r_calB (a_cons (e_var 1) (a_cons (e_bty T.b_tuple rfl) a_nil)) (f_isTup (Sh.nd (by first | assumption | omega | exact hs _ ‹_› | decide))) T.b_isinstance rfl) ?_))))) (h_one (s_ret e_bl))
    cases d <;> first | rfl | exact absurd ⟨_, rfl⟩ ht
def areTold (n : Nat) (G : Sp2) (d : PyData) : Bool := match d with
  | .tuple ds => decide (ds.length = G.1) && (ds.all fun d => isInt d 0 ((n : Int) - 1))
  | _ => false
inductive F_law_are_told : Spec
  | mk {n : Nat} {G : Sp2} {d : PyData} (h : Sh d) (hz : ∀ ds, d = .tuple ds → ds.length < sizeLine) : F_law_are_told [] [I_ (n : Nat), .d (spD G), .d d] (B_ (areTold n G d)) []
theorem sc_law_are_told : FnScope ["_law_points", "_law_system_here", "_law_thing", "_law_one"] ["_law_points", "_law_system_here", "_law_thing"] (C8.fnScope s_law_are_told) := ⟨rfl, rfl, rfl, by decide +kernel, rfl, by decide +kernel, by decide +kernel⟩
theorem f_law_are_told (T : Top K mg) : Fn P w K mg base false 2 "_law_are_told" F_law_are_told := by
  refine Fn.of T.s_law_are_told sc_law_are_told (fun _ _ _ _ _ _ us hl => match us, hl with | [_, _, _], _ => rfl) (by rintro _ _ _ _ ⟨⟩ <;> rfl) fun f cdv A outer s H E hr W rs r W' hF => ?_
  cases hF with | @mk n G d h hz =>
  by_cases ht : ∃ ds, d = .tuple ds
  · obtain ⟨ds, rfl⟩ := ht
    have hz' := hz ds rfl
    have hs : ∀ x ∈ ds, Sh x := sh_tup h
    refine h_ifR (k := !decide (ds.length = G.1)) (PW.pt (w_orF (t_notF (t_val (r_calB (a_cons (e_var 2) (a_cons (e_bty T.b_tuple rfl) a_nil)) f_isTupT T.b_isinstance rfl))) (w_or1 (rt_cmp (r_calB (a_cons (e_var 2) a_nil) f_lenT T.b_len rfl) (r_ix (e_var 1) e_nat x_sp0) c_neN)))) (fun h1 => h_one (s_retE e_bl ?_)) (fun h2 => ?_)
    · have e : decide (ds.length = G.1) = false := by simpa using h1
      show B_ false = B_ (_ && _)
      rw [e]
      rfl
    · have e : decide (ds.length = G.1) = true := by simpa using h2
      refine h_one (s_retE (r_cmp (e_comp (comp_N [("_law_one", 3)] 3 (p := fun d => !isInt d 0 ((n : Int) - ((1 : Nat) : Int))) (f := id) (xs := ds) (gg := id) (i_id (i_tup (e_var 2))) sc_law_are_told.nd (by first | assumption | omega | exact hs _ ‹_› | decide) (fun a ha s H C cl fp => s_one (t_not (t_val (r_callP (f_law_is_int T) (hr.mono (by decide)) (a_cons (e_var 3) (a_cons e_nat (a_cons (r_bin (e_var 0) e_nat b_sub) a_nil))) (.mk (by first | assumption | omega | exact hs _ ‹_› | decide)))))) (fun a ha hp s H C cl fp => (e_var 3)) (fun s H C cl fp => g_nm 3 sc_law_are_told.nd))) e_nilL (c_mL0 hr.units (sh_filt h _))) ?_)
      show B_ _ = B_ (_ && _)
      rw [e, emp_filt]
      rfl
  · have e : areTold n G d = false := by cases d <;> first | rfl | exact absurd ⟨_, rfl⟩ ht
    rw [e]
    refine h_ifT (PW.pt (w_orT (t_notT (t_val (k := false) (e_eq (r_calB (a_cons (e_var 2) (a_cons (e_bty T.b_tuple rfl) a_nil)) (f_isTup (Sh.nd (by first | assumption | omega | exact h | decide))) T.b_isinstance rfl) ?_))))) (h_one (s_ret e_bl))
    cases d <;> first | rfl | exact absurd ⟨_, rfl⟩ ht
end
end SG
set_option Elab.async false
set_option linter.all false
set_option maxRecDepth 100000
set_option maxHeartbeats 4000000
/-! sorted(set(numbers)) -/
namespace SG
open PySem PySem.Spec PyProof.Rows L2
section
variable {P : Program} {w : World} {A : Around} {E : Value → Shared → Prop} {s : Shared}
/-- an empty set, as set(..) makes it first -/
abbrev set0 (w : World) : Obj := { cls := .type "set", dict := none, data := .set #[] 0 (.fresh 0 0 (!w.params.followText "set-order")) }
/-- the loop over a list's numbers -/
theorem fill_set {l it S : Addr} {items : Array Value} {ns : List Int} {R : Result → Shared → Prop} (hh : A.handled = none) (ne : l ≠ it) (n1 : S ≠ it) (n2 : S ≠ l) (hi : IntsAre items.toList ns) (hb : ns.length + 1 < scanBound)
    (h1 : s.heap.IsListIter it l 0) (h2 : s.heap.IsList l items) (h3 : SetR w s.heap S (fun j => decide (j ∈ ns.take 0)) 0)
    (q : ∀ h' tk c, SetR w h' S (fun j => decide (j ∈ ns)) c → c ≤ ns.length → (∀ b o, b ≠ S → b ≠ it → s.heap.get? b = some o → h'.get? b = some o) → R (.ok (.ret .none)) { s with heap := h', toks := tk }) :
    codeAny (model P w) A (.builtin "set.update.loop" ⟨[.ref S, .ref it], []⟩) R s := by
  have len : items.size = ns.length := by rw [← Array.length_toList]; exact IntsAre.length hi
  have vals : ∀ (i : Nat) (v : Value), items[i]? = some v → ∃ k t, ns[i]? = some k ∧ v = .int k t := fun i v hv => by
    have lt : i < ns.length := by rw [← len]; exact (Array.getElem?_eq_some_iff.mp hv).1
    obtain ⟨t, e⟩ := IntsAre.int_at hi i v (by rw [Array.getElem?_toList]; exact hv)
    have g : ns.getD i 0 = ns[i] := by rw [List.getD_eq_getElem?_getD, List.getElem?_eq_getElem lt]; rfl
    exact ⟨ns[i], t, List.getElem?_eq_getElem lt, by rw [e, g]⟩
  refine set_update_ints (Walks.list (by simp [hh]) it l ne items).toS S (by simp only [List.mem_cons, List.not_mem_nil, or_false, not_or]; exact ⟨n1, n2⟩) ns len hb vals items.size 0 s (by omega) (Nat.zero_le _) ⟨h1, h2⟩ ⟨0, Nat.le_refl 0, h3⟩ fun s' c m hc hS => ?_
  obtain ⟨h', g', d', tk', os'⟩ := s'
  obtain rfl : g' = s.gens := m.gens
  obtain rfl : d' = s.drawn := m.drawn
  obtain rfl : os' = s.os := m.os
  exact q h' tk' c hS (by rw [← len]; exact hc) fun b o b1 b2 e => m.heap b o (by simp only [List.mem_cons, List.not_mem_nil, or_false, not_or]; exact ⟨b1, b2⟩) e
/-- set.__init__ of a fresh set and a list -/
theorem init_set {l : Addr} {items : Array Value} {ns : List Int} {R : Result → Shared → Prop} {N : Addr} (hh : A.handled = none) (hN : s.heap.get? N = some (set0 w)) (hl : s.heap.IsList l items) (hi : IntsAre items.toList ns) (hb : ns.length + 1 < scanBound) (e0 : ∀ x y, R (.error x) y ↔ E x y)
    (q : ∀ h' tk c, SetR w h' N (fun j => decide (j ∈ ns)) c → c ≤ ns.length → (∀ b o, b ≠ N → s.heap.get? b = some o → h'.get? b = some o) → R (.ok (.ret .none)) { s with heap := h', toks := tk }) :
    codeAny (model P w) A (.call (.builtin "set.__init__") ⟨[.ref N, .ref l], []⟩) R s := by
  have hT : s.TypeIs (.ref N) "set" := ⟨_, hN, rfl⟩
  refine codeAny_call_builtin F.called_set.init.plain F.entry_set_init (check_set_init_1 hT ?_)
  obtain ⟨⟨cl, di, da, sl⟩, ho, rfl, n, rfl⟩ := id hl
  have k1 := F.sub_list_set
  have k2 := F.sub_list_frozenset
  have k3 : (Value.type "list" == Value.type "dict") = false := by decide
  unfold Builtin.«set.__init__» noKeywords Builtin.Frozenset.updateFrom
  generalize hp : pyIter = PI
  wp_walk
  subst hp
  refine wpAny_pyIter_list hl (wpAny_bind (wpAny_runValue ?_))
  have b1 : l < s.heap.objs.size := Heap.lt_size ho
  have b2 : N < s.heap.objs.size := Heap.lt_size hN
  have nl : N ≠ l := fun z => by
    rw [z] at hN
    exact absurd (congrArg Obj.cls (Option.some.inj (hN.symm.trans ho))) (by show ¬ (Value.type "set" = Value.type "list"); decide)
  refine fill_set (A := A.in1) (by simp [hh]) (Nat.ne_of_lt b1) (Nat.ne_of_lt b2) nl hi hb ?h1 ?h2 ?h3 ?h4
  case h1 => exact ⟨_, Heap.get?_push_size _ rfl, rfl, rfl⟩
  case h2 => exact hl.push _
  case h3 => exact setR_new_at (w := w) (Heap.get?_push_of_some _ hN)
  intro h' tk c hS hc hk
  refine wpAny_pure ?_
  show wpAny _ _ (ret Value.none) _ _ _
  exact wpAny_pure (q h' tk c hS hc fun b o hb' e => hk b o hb' (Nat.ne_of_lt (Heap.lt_size e)) (Heap.get?_push_of_some _ e))
theorem call_setL {l : Addr} {items : Array Value} {ns : List Int} {Q : Value → Shared → Prop} (hh : A.handled = none) (hl : s.heap.IsList l items) (hi : IntsAre items.toList ns) (hb : ns.length + 1 < scanBound)
    (q : ∀ h' tk c, SetR w h' s.heap.objs.size (fun j => decide (j ∈ ns)) c → c ≤ ns.length → (∀ b o, s.heap.get? b = some o → h'.get? b = some o) → Q (.ref s.heap.objs.size) { s with heap := h', toks := tk }) :
    wpAny (model P w) A (call (.type "set") [.ref l]) Q E s := by
  have T := F.called_set
  obtain ⟨c, tl, f1⟩ := T.mro
  have f2 := T.made
  have f3 := T.sub
  have f4 := T.notType
  have f5 := T.canCreate
  have f6 := F.typeCall_set_1 (.ref l)
  refine wpAny_call (codeAny_of_tree ?_)
  show wpAny _ _ (callAny (.type "set") _) _ _ _
  refine wpAny_pure ⟨Code.quiet_builtin _ (by decide +kernel), codeAny_builtin F.entry_type_call ?_⟩
  rw [Around.under_plain (weight_type_call_type "set" [.ref l] []) rfl]
  repeat (any_goals (first | assumption | wp_step))
  let Q1 : Value → Shared → Prop := fun obj s1 => obj = .ref s.heap.objs.size ∧ s1 = { s with heap := s.heap.push (set0 w) }
  refine codeAny_mono (code_set_led1 (.ref l) (E := E) (Q₁ := Q1) ⟨rfl, rfl⟩) fun r s1 hr => ?_
  match r, hr with
  | .error e, hr => exact hr
  | .ok (.ret obj), hr =>
    obtain ⟨rfl, rfl⟩ := hr
    have g1 : (s.heap.push (set0 w)).get? s.heap.objs.size = some (set0 w) := Heap.get?_push_size _ rfl
    have f7 : Shared.TypeIs { s with heap := s.heap.push (set0 w) } (.ref s.heap.objs.size) "set" := ⟨_, g1, rfl⟩
    have f8 := T.init.lookup
    have f9 := T.init.bind (.ref s.heap.objs.size)
    repeat (any_goals (first | assumption | wp_step))
    let R1 : Result → Shared → Prop := wants (fun r s2 => r = .none ∧ ∃ h' tk c, s2 = { s with heap := h', toks := tk } ∧ SetR w h' s.heap.objs.size (fun j => decide (j ∈ ns)) c ∧ c ≤ ns.length ∧ ∀ b o, s.heap.get? b = some o → h'.get? b = some o) E
    refine codeAny_mono (init_set (R := R1) (E := E) (ns := ns) (by simp [hh]) g1 (hl.push _) hi hb (fun _ _ => Iff.rfl) fun h' tk c hS hc hk => ⟨rfl, h', tk, c, rfl, hS, hc, fun b o e => hk b o (Nat.ne_of_lt (Heap.lt_size e)) (Heap.get?_push_of_some _ e)⟩) fun r2 s2 hr2 => ?_
    match r2, hr2 with
    | .error e, hr2 => exact hr2
    | .ok (.ret r), hr2 =>
      obtain ⟨rfl, h', tk, c, rfl, hS, hc, hk⟩ := hr2
      repeat (any_goals (first | assumption | wp_step))
      exact q h' tk c hS hc hk
end
section
variable {X : Cx}
theorem cr_setL (hc : X.calm = true) : CallR X (.type "set") (fun xs H Q => ∃ (l : Addr) (ns : List Int), xs = [V.ref l] ∧ SqL X.K H l (ns.map V.int) ∧ ns.length < 64 ∧ ∀ p c, H p = none → c ≤ ns.length → Q (.ref p) (upd H p (SetO X.w p (fun j => decide (j ∈ ns)) c))) := by
  intro pins s σ H xs us Q I r h
  obtain ⟨l, ns, rfl, hl, h64, q⟩ := h
  obtain ⟨its, rv, pl, hz⟩ := I.list hl
  rw [Vals.ref1 r]
  refine call_setL (I.ok.hd hc) pl.isList (ns := ns) (by simpa using rv.ints) (by unfold scanBound; omega) fun h' tk c hS hc hk => ?_
  exact ⟨.ref _, upd H s.heap.objs.size (SetO X.w s.heap.objs.size (fun j => decide (j ∈ ns)) c), I.laid (t' := tk) hk (Nat.le_refl _) (setO_new hS), rfl, q _ _ (I.hok.fresh (Nat.le_refl _)) hc⟩
theorem ints_sorted {ns : List Int} {xs : List Nat} (h1 : ns.Pairwise (· < ·)) (h2 : ∀ k : Int, k ∈ ns ↔ decide (k ∈ castL xs) = true) : ns = castL (sortU xs) := by
  have h3 : ∀ k ∈ ns, ∃ n : Nat, k = (n : Int) ∧ n ∈ xs := fun k hk => by
    have := of_decide_eq_true ((h2 k).mp hk)
    obtain ⟨n, hn, e⟩ := List.mem_map.mp this
    exact ⟨n, e.symm, hn⟩
  have e : ns = castL (ns.map Int.toNat) := by
    unfold castL
    rw [List.map_map]
    refine (List.map_id ns).symm.trans (List.map_congr_left fun k hk => ?_)
    obtain ⟨n, rfl, _⟩ := h3 k hk
    simp
  rw [e]
  congr 1
  have l1 : (ns.map Int.toNat).Pairwise (· < ·) := by
    clear e h2
    induction ns with
    | nil => exact .nil
    | cons a ns ih =>
      obtain ⟨k1, k2⟩ := List.pairwise_cons.mp h1
      rw [List.map_cons]
      refine List.pairwise_cons.mpr ⟨fun b hb => ?_, ih k2 fun k hk => h3 k (List.mem_cons_of_mem _ hk)⟩
      obtain ⟨k, hk, rfl⟩ := List.mem_map.mp hb
      have := k1 k hk
      obtain ⟨n, rfl, _⟩ := h3 a List.mem_cons_self
      obtain ⟨m, rfl, _⟩ := h3 k (List.mem_cons_of_mem _ hk)
      simp
      omega
  refine sorted_uniq (l1.imp fun {a b} z => Nat.le_of_lt z) (sortU_le xs) ((List.perm_ext_iff_of_nodup (l1.imp fun {a b} z => Nat.ne_of_lt z) (sortU_nd xs)).mpr fun n => ?_)
  rw [sortU_mem]
  constructor
  · intro h
    obtain ⟨k, hk, e⟩ := List.mem_map.mp h
    obtain ⟨m, rfl, hm⟩ := h3 k hk
    simp at e
    rw [← e]; exact hm
  · intro h
    refine List.mem_map.mpr ⟨(n : Int), (h2 _).mpr (decide_eq_true (List.mem_map.mpr ⟨n, h, rfl⟩)), by simp⟩
variable {e : Expr} {pos pos2 p p2 : Pos} {W W1 : List Ow} {ρ : Rho} {xs : List Nat}
theorem e_sortSet (ha : PA X [e] (tA W ρ [.d (.list (xs.map nD))] W1)) (h64 : xs.length < 64) (hm : X.mg "sorted" = none) (hm2 : X.mg "set" = none) (hc : X.calm = true := by rfl) (hg : Gl X "sorted" := by rfl) (hg2 : Gl X "set" := by rfl) (he : starEach [e] X.env = (false, eval e X.env) :: starEach [] X.env := by rfl)
    (hpl : (backTo pos2 (starEach [] X.env)).any (·.1) = false := by rfl) (he2 : starEach [.Call (.Name "set" p2) [e] [] pos2] X.env = (false, eval (.Call (.Name "set" p2) [e] [] pos2) X.env) :: starEach [] X.env := by rfl) (hpl2 : (backTo pos (starEach [] X.env)).any (·.1) = false := by rfl) :
    PE X (.Call (.Name "sorted" p) [.Call (.Name "set" p2) [e] [] pos2] [] pos) (tE W ρ (.d (nlD (sortU xs))) W1) :=
  PEto (pe_callB (cr_sortedSet hc) hg hm rfl (pa_cons (pe_callTy (cr_setL hc) hg2 hm2 rfl ha (by decide) (by decide) he hpl) pa_nil he2) (by decide) (by decide) he2 hpl2) fun σ H Q ⟨Z, c, q⟩ => ⟨Z, c, fun vs H1 g1 d1 q1 => by
    obtain ⟨v, rfl, h⟩ := rpl_1 q1
    rw [rp_lst] at h
    obtain ⟨a, ys, rfl, h1, h2⟩ := h
    rw [map_nD] at h2
    have e := h2.ints
    subst e
    refine ⟨a, castL xs, rfl, SqL.of (off_sub _ _ h1), by unfold castL; rw [List.length_map]; exact h64, fun p c hp hcl => ?_⟩
    have sm := upd_ext (o := SetO X.w p (fun j => decide (j ∈ castL xs)) c) hp
    refine ⟨p, _, c, rfl, upd_same, by unfold castL at hcl; rw [List.length_map] at hcl; omega, fun ns p' l1 l2 _ hp' => ?_⟩
    have en := ints_sorted l1 l2
    subst en
    have sm2 := upd_ext (o := .lst ((castL (sortU xs)).map V.int)) hp'
    have d2 := d1.same sm
    refine q _ _ (g1.trans (Go.same (sm.trans sm2))) (d2.same sm2) ?_
    unfold nlD
    rw [rp_lst, map_nD]
    exact ⟨p', _, rfl, off_new d2.lv hp', DaL.ofInts⟩⟩
end
end SG
set_option Elab.async false
set_option linter.all false
set_option maxRecDepth 100000
set_option maxHeartbeats 4000000
namespace SG
open PySem PySem.Spec PyProof.Rows L2
/-! the law's spans, stray lots, safe points -/
def spansD (S : Sp2) : List (List Nat × PyData) := ddP ((lawLots S.1).map fun l => (l, lotD (spanL S l)))
def dropL (l : List Nat) (p : Nat) : List Nat := l.filter fun q => !decide (q = p)
def coreL (S : Sp2) (l : List Nat) : List Nat := l.foldl (fun f p => commonL f (spanL S (dropL l p))) (List.range S.1)
def straysL (S : Sp2) : List (List Nat) := (lawLots S.1).filter fun l => !l.isEmpty && (coreL S l).isEmpty
def safeL (S G : Sp2) (told : List Nat) : List Nat := G.2.foldl (fun f c => commonL f (spanL S (restM told c))) (List.range S.1)
theorem subs_all : ∀ {n : Nat} {l : List Nat}, l.Pairwise (· < ·) → (∀ p ∈ l, p < n) → l ∈ subs n
  | 0, l, _, h => by
    cases l with
    | nil => exact List.mem_singleton.mpr rfl
    | cons a l => exact absurd (h a List.mem_cons_self) (Nat.not_lt_zero _)
  | n + 1, l, hp, h => by
    show l ∈ subs n ++ (subs n).map _
    by_cases hn : n ∈ l
    · obtain ⟨i, j, e⟩ := List.append_of_mem hn
      subst e
      have hj : j = [] := by
        cases j with
        | nil => rfl
        | cons b j =>
          have h1 := h b (by simp)
          have h2 := (List.pairwise_cons.mp (List.pairwise_append.mp hp).2.1).1 b List.mem_cons_self
          omega
      subst hj
      obtain ⟨p1, _, p3⟩ := List.pairwise_append.mp hp
      exact List.mem_append_right _ (List.mem_map.mpr ⟨i, subs_all p1 fun p hp' => p3 p hp' n List.mem_cons_self, rfl⟩)
    · refine List.mem_append_left _ (subs_all hp fun p hp' => ?_)
      have h1 := h p hp'
      have : p ≠ n := fun z => hn (z ▸ hp')
      omega
theorem lots_iff {n : Nat} {l : List Nat} : l ∈ lawLots n ↔ l.Pairwise (· < ·) ∧ ∀ p ∈ l, p < n :=
  ⟨fun h => (lots_mem h).2, fun ⟨h1, h2⟩ => (sortL_perm _).mem_iff.mpr (subs_all h1 h2)⟩
theorem getP_put {α : Type} (kvs : List (List Nat × α)) (k : List Nat) (v : α) (l : List Nat) : ((putP kvs k v).find? fun kv => decide (kv.1 = l)).map (·.2) = if k = l then some v else (kvs.find? fun kv => decide (kv.1 = l)).map (·.2) := by
  unfold putP
  by_cases h : (kvs.any fun kv => decide (kv.1 = k)) = true
  · rw [if_pos h]
    induction kvs with
    | nil => cases h
    | cons p kvs ih =>
      rw [List.map_cons, List.find?_cons, List.find?_cons]
      by_cases hp : p.1 = k
      · rw [if_pos hp]
        simp only [hp]
        by_cases hl : k = l
        · simp [hl]
        · simp only [hl, decide_false, if_false]
          have key : ∀ kvs : List (List Nat × α), (List.find? (fun kv => decide (kv.1 = l)) (kvs.map fun kv => if kv.1 = k then (kv.1, v) else kv)).map (·.2) = (List.find? (fun kv => decide (kv.1 = l)) kvs).map (·.2) := by
            intro kvs
            induction kvs with
            | nil => rfl
            | cons q kvs ih2 =>
              rw [List.map_cons, List.find?_cons, List.find?_cons]
              by_cases hq : q.1 = k
              · rw [if_pos hq]
                simp only [hq, hl, decide_false]
                exact ih2
              · rw [if_neg hq]
                by_cases hql : q.1 = l
                · simp [hql]
                · simp only [hql, decide_false]
                  exact ih2
          exact key kvs
      · rw [if_neg hp]
        by_cases hl : p.1 = l
        · have : k ≠ l := fun z => hp (by rw [hl, z])
          simp [hl, this]
        · simp only [hl, decide_false]
          refine ih ?_
          simpa [hp] using h
  · rw [if_neg h, List.find?_append]
    by_cases hl : k = l
    · subst hl
      have : kvs.find? (fun kv => decide (kv.1 = k)) = none := List.find?_eq_none.mpr fun p hp => by
        intro z
        exact h (List.any_eq_true.mpr ⟨p, hp, z⟩)
      simp [this]
    · simp [hl]
theorem getP_dd {α : Type} (xs : List α) (k : α → List Nat) (g : α → PyData) (hk : ∀ a ∈ xs, ∀ b ∈ xs, k a = k b → g a = g b) {a : α} (ha : a ∈ xs) : getP (ddP (xs.map fun a => (k a, g a))) (k a) = some (g a) := by
  have key : ∀ (ys : List α) (acc : List (List Nat × PyData)), (∀ y ∈ ys, y ∈ xs) → (a ∈ ys ∨ getP acc (k a) = some (g a)) → getP ((ys.map fun a => (k a, g a)).foldl (fun acc p => putP acc p.1 p.2) acc) (k a) = some (g a) := by
    intro ys
    induction ys with
    | nil => intro acc _ h; exact h.resolve_left (fun z => nomatch z)
    | cons y ys ih =>
      intro acc hs h
      refine ih _ (fun z hz => hs z (List.mem_cons_of_mem _ hz)) ?_
      have e : getP (putP acc (k y) (g y)) (k a) = if k y = k a then some (g y) else getP acc (k a) := getP_put acc (k y) (g y) (k a)
      by_cases hy : k y = k a
      · right
        show getP (putP acc (k y) (g y)) (k a) = _
        rw [e, if_pos hy, hk y (hs y List.mem_cons_self) a ha hy]
      · rcases h with h | h
        · rcases List.mem_cons.mp h with z | z
          · exact absurd (by rw [z]) hy
          · exact .inl z
        · right
          show getP (putP acc (k y) (g y)) (k a) = _
          rw [e, if_neg hy]; exact h
  exact key xs [] (fun _ h => h) (.inl ha)
theorem spans_get {S : Sp2} {l : List Nat} (h1 : l.Pairwise (· < ·)) (h2 : ∀ p ∈ l, p < S.1) : getP (spansD S) l = some (lotD (spanL S l)) :=
  getP_dd (lawLots S.1) (fun l => l) (fun l => lotD (spanL S l)) (fun a _ b _ e => by rw [e]) (lots_iff.mpr ⟨h1, h2⟩)
theorem dropL_ok {l : List Nat} {n p : Nat} (h1 : l.Pairwise (· < ·)) (h2 : ∀ p ∈ l, p < n) : (dropL l p).Pairwise (· < ·) ∧ ∀ q ∈ dropL l p, q < n :=
  ⟨h1.sublist List.filter_sublist, fun q hq => h2 q (List.mem_filter.mp hq).1⟩
section
variable {P : Program} {w : World} {K : PySem.W.Frag} {mg : Str → Option Value} {base : Heap}
inductive F_law_spans : Spec
  | mk {S : Sp2} (h : S.1 ≤ 9) : F_law_spans [] [.d (spD S)] (.dt (spansD S)) []
theorem sc_law_spans : FnScope ["_law_space", "_law_lot_here"] ["_law_space"] (C8.fnScope s_law_spans) := ⟨rfl, rfl, rfl, by decide +kernel, rfl, by decide +kernel, by decide +kernel⟩
theorem f_law_spans (T : Top K mg) : Fn P w K mg base false 3 "_law_spans" F_law_spans := by
  refine Fn.of T.s_law_spans sc_law_spans (fun _ _ _ _ _ _ us hl => match us, hl with | [_], _ => rfl) (by rintro _ _ _ _ ⟨⟩ <;> rfl) fun f cdv A outer s H E hr W rs r W' hF => ?_
  cases hF with | @mk S h =>
  have hz : (lawLots S.1).length < sizeLine := by rw [lots_len]; exact Nat.lt_of_le_of_lt (p2_le h) (by decide)
  have hl : ∀ l ∈ lawLots S.1, l.length < sizeLine := fun l hl => Nat.lt_of_le_of_lt (Nat.le_trans (lots_mem hl).1 h) (by decide)
  exact h_one (s_ret (r_calT (a_cons (e_comp (comp_M [("_law_lot_here", 1)] 1 (f := fun l => PyData.tuple [lotD l, lotD (spanL S l)]) (xs := lawLots S.1) (i_lst (r_callP (f_law_lots T) (hr.mono (by decide)) (a_cons (r_ix (e_var 0) e_nat x_sp0) a_nil) (.mk (by first | assumption | omega | exact hl _ ‹_› | decide)))) sc_law_spans.nd (by first | assumption | omega | exact hl _ ‹_› | decide) (fun a ha s H C cl fp => (e_tup2 (a_cons (e_var 1) (a_cons (r_callP (f_law_span T) (hr.mono (by decide)) (a_cons (e_var 0) (a_cons (e_var 1) a_nil)) (.mk (by first | assumption | omega | exact hl _ ‹_› | decide) (by first | assumption | omega | exact hl _ ‹_› | decide))) a_nil)))) (fun s H C cl fp => g_nm 1 sc_law_spans.nd))) a_nil) (f_dictT hr.units (k := fun l => l) (g := fun l => lotD (spanL S l))) T.b_dict rfl))
inductive F_law_without : Spec
  | mk {l : List Nat} {p : Nat} (h : l.length < sizeLine) : F_law_without [] [.d (lotD l), I_ (p : Nat)] (.d (lotD (dropL l p))) []
theorem sc_law_without : FnScope ["_law_lot_here", "_law_point", "_law_one"] ["_law_lot_here", "_law_point"] (C8.fnScope s_law_without) := ⟨rfl, rfl, rfl, by decide +kernel, rfl, by decide +kernel, by decide +kernel⟩
theorem f_law_without (T : Top K mg) : Fn P w K mg base false 1 "_law_without" F_law_without := by
  refine Fn.of T.s_law_without sc_law_without (fun _ _ _ _ _ _ us hl => match us, hl with | [_, _], _ => rfl) (by rintro _ _ _ _ ⟨⟩ <;> rfl) fun f cdv A outer s H E hr W rs r W' hF => ?_
  cases hF with | @mk l p h =>
  exact h_one (s_ret (r_calT (a_cons (e_comp (comp_N [("_law_one", 2)] 2 (p := fun q => !decide (q = p)) (f := nD) (xs := l) (i_tup (e_var 0)) sc_law_without.nd (by first | assumption | omega | decide) (fun a ha s H C cl fp => s_one (rt_cmp (e_var 2) (e_var 1) c_neN)) (fun a ha hp s H C cl fp => (e_var 2)) (fun s H C cl fp => g_nm 2 sc_law_without.nd))) a_nil) f_tuple T.b_tuple rfl))
inductive F_law_core : Spec
  | mk {S : Sp2} {l : List Nat} (h : S.1 ≤ 9) (h1 : l.Pairwise (· < ·)) (h2 : ∀ p ∈ l, p < S.1) : F_law_core [] [.dt (spansD S), I_ (S.1 : Nat), .d (lotD l)] (.d (lotD (coreL S l))) []
theorem sc_law_core : FnScope ["_law_spans_here", "_law_points", "_law_lot_here", "_law_found", "_law_point"] ["_law_spans_here", "_law_points", "_law_lot_here"] (C8.fnScope s_law_core) := ⟨rfl, rfl, rfl, by decide +kernel, rfl, by decide +kernel, by decide +kernel⟩
theorem f_law_core (T : Top K mg) : Fn P w K mg base false 2 "_law_core" F_law_core := by
  refine Fn.of T.s_law_core sc_law_core (fun _ _ _ _ _ _ us hl => match us, hl with | [_, _, _], _ => rfl) (by rintro _ _ _ _ ⟨⟩ <;> rfl) fun f cdv A outer s H E hr W rs r W' hF => ?_
  cases hF with | @mk S l h h1 h2 =>
  have hlz : l.length < sizeLine := Nat.lt_of_le_of_lt (len_lt h1 h2) (Nat.lt_of_le_of_lt h (by decide))
  refine h_cons (s_set 3 (e_tupRg (e_var 1) (by first | assumption | omega | decide) T.b_tuple T.b_range) sc_law_core.nd) ?_
  refine h_cons (s_forN (fun f => f.length ≤ 9) (fun f p => commonL f (spanL S (dropL l p))) (fun _ => []) (fun f => [some (.dt (spansD S)), some (I_ (S.1 : Nat)), some (.d (lotD l)), some (.d (lotD f)), none]) (List.range S.1) 4 (xs := l) (gg := nD) (i_tup (e_var 2)) sc_law_core.nd (by rw [List.length_range]; exact h) (by repeat (first | exact trivial | refine ⟨.inr rfl, ?_⟩ | refine ⟨.inl rfl, ?_⟩)) (fun f p _ hf => Nat.le_trans (List.length_filter_le _ _) hf) fun f p hl hf => ?_) ?_
  · have hfz : f.length < sizeLine := Nat.lt_of_le_of_lt hf (by decide)
    obtain ⟨d1, d2⟩ := dropL_ok (p := p) h1 h2
    exact hs_wk (h_one (s_set 3 (r_callP (f_law_common T) (hr.mono (by decide)) (a_cons (e_var 3) (a_cons (e_dtget hr.units (e_var 0) (r_callP (f_law_without T) (hr.mono (by decide)) (a_cons (e_var 2) (a_cons (e_var 4) a_nil)) (.mk (by first | assumption | omega | decide))) (spans_get d1 d2)) a_nil)) (.mk hfz)) sc_law_core.nd)) (by repeat (first | exact trivial | refine ⟨.inr rfl, ?_⟩ | refine ⟨.inl rfl, ?_⟩))
  · exact h_one (s_ret (e_var 3))
inductive F_law_strays : Spec
  | mk {S : Sp2} (h : S.1 ≤ 9) : F_law_strays [] [.dt (spansD S), I_ (S.1 : Nat)] (.d (llD (straysL S))) []
theorem sc_law_strays : FnScope ["_law_spans_here", "_law_points", "_law_lot_here"] ["_law_spans_here", "_law_points"] (C8.fnScope s_law_strays) := ⟨rfl, rfl, rfl, by decide +kernel, rfl, by decide +kernel, by decide +kernel⟩
theorem f_law_strays (T : Top K mg) : Fn P w K mg base false 3 "_law_strays" F_law_strays := by
  refine Fn.of T.s_law_strays sc_law_strays (fun _ _ _ _ _ _ us hl => match us, hl with | [_, _], _ => rfl) (by rintro _ _ _ _ ⟨⟩ <;> rfl) fun f cdv A outer s H E hr W rs r W' hF => ?_
  cases hF with | @mk S h =>
  have hz : (lawLots S.1).length < sizeLine := by rw [lots_len]; exact Nat.lt_of_le_of_lt (p2_le h) (by decide)
  refine h_one (s_ret (e_comp (comp_N [("_law_lot_here", 2)] 2 (p := fun l => !l.isEmpty && (coreL S l).isEmpty) (f := lotD) (xs := lawLots S.1) (gg := lotD) (i_lst (r_callP (f_law_lots T) (hr.mono (by decide)) (a_cons (e_var 1) a_nil) (.mk (by first | assumption | omega | decide)))) sc_law_strays.nd (by first | assumption | omega | decide) (fun a ha s H C cl fp => s_one (PW.pt (w_andP (rt_cmp (e_var 2) e_nilT (c_lot0n hr.units)) (w_and1 (rt_cmp (r_callP (f_law_core T) (hr.mono (by decide)) (a_cons (e_var 0) (a_cons (e_var 1) (a_cons (e_var 2) a_nil))) (.mk h (lots_mem ha).2.1 (lots_mem ha).2.2)) e_nilT (c_lot0 hr.units)))))) (fun a ha hp s H C cl fp => (e_var 2)) (fun s H C cl fp => g_nm 2 sc_law_strays.nd))))
inductive F_law_rest : Spec
  | mk1 {told c : List Nat} (h : told.length < 64) : F_law_rest [] [.d (lotD told), .d (lotD c)] (.d (lotD (restM told c))) []
  | mk2 {told c : List Nat} (h : told.length < 64) : F_law_rest [] [.d (nlD told), .d (lotD c)] (.d (lotD (restM told c))) []
theorem sc_law_rest : FnScope ["_law_told", "_law_crew", "_law_teller", "_law_point"] ["_law_told", "_law_crew"] (C8.fnScope s_law_rest) := ⟨rfl, rfl, rfl, by decide +kernel, rfl, by decide +kernel, by decide +kernel⟩
theorem f_law_rest (T : Top K mg) : Fn P w K mg base false 1 "_law_rest" F_law_rest := by
  refine Fn.of T.s_law_rest sc_law_rest (fun _ _ _ _ _ _ us hl => match us, hl with | [_, _], _ => rfl) (by rintro _ _ _ _ ⟨⟩ <;> rfl) fun f cdv A outer s H E hr W rs r W' hF => ?_
  cases hF with
  | @mk1 told c h =>
    have h1 : (told.zipIdx).length < sizeLine := by rw [List.length_zipIdx]; exact Nat.lt_trans h (by decide)
    have h2 : (((told.zipIdx.filter fun p => !decide (p.2 ∈ c)).map (·.1))).length < 64 := by
      rw [List.length_map]
      exact Nat.lt_of_le_of_lt (List.length_filter_le _ _) (by rw [List.length_zipIdx]; exact h)
    exact h_one (s_ret (r_calT (a_cons (e_sortSet (xs := (told.zipIdx.filter fun p => !decide (p.2 ∈ c)).map (·.1)) (a_cons (e_to (.d (.list (((told.zipIdx.filter fun p => !decide (p.2 ∈ c)).map (·.1)).map nD))) (e_comp (comp_P [("_law_teller", 2), ("_law_point", 3)] 2 3 (p := fun p => !decide (p.2 ∈ c)) (f := fun p => nD p.1) (xs := told.zipIdx) (i_enT T.b_enumerate (a_cons (e_var 0) a_nil)) sc_law_rest.nd (by first | assumption | omega | decide) (fun a ha s H C cl fp => s_one (rt_cmp (e_var 2) (e_var 1) c_niN)) (fun a ha hp s H C cl fp => (e_var 3)) (fun s H C cl fp => g_pr 2 3 sc_law_rest.nd))) (by rw [List.map_map]; rfl)) a_nil) h2 T.b_sorted T.b_set) a_nil) f_tuple T.b_tuple rfl))
  | @mk2 told c h =>
    have h1 : (told.zipIdx).length < sizeLine := by rw [List.length_zipIdx]; exact Nat.lt_trans h (by decide)
    have h2 : (((told.zipIdx.filter fun p => !decide (p.2 ∈ c)).map (·.1))).length < 64 := by
      rw [List.length_map]
      exact Nat.lt_of_le_of_lt (List.length_filter_le _ _) (by rw [List.length_zipIdx]; exact h)
    exact h_one (s_ret (r_calT (a_cons (e_sortSet (xs := (told.zipIdx.filter fun p => !decide (p.2 ∈ c)).map (·.1)) (a_cons (e_to (.d (.list (((told.zipIdx.filter fun p => !decide (p.2 ∈ c)).map (·.1)).map nD))) (e_comp (comp_P [("_law_teller", 2), ("_law_point", 3)] 2 3 (p := fun p => !decide (p.2 ∈ c)) (f := fun p => nD p.1) (xs := told.zipIdx) (i_enL T.b_enumerate (a_cons (e_var 0) a_nil)) sc_law_rest.nd (by first | assumption | omega | decide) (fun a ha s H C cl fp => s_one (rt_cmp (e_var 2) (e_var 1) c_niN)) (fun a ha hp s H C cl fp => (e_var 3)) (fun s H C cl fp => g_pr 2 3 sc_law_rest.nd))) (by rw [List.map_map]; rfl)) a_nil) h2 T.b_sorted T.b_set) a_nil) f_tuple T.b_tuple rfl))
end
end SG
set_option Elab.async false
set_option linter.all false
set_option maxRecDepth 100000
set_option maxHeartbeats 4000000
namespace SG
open PySem PySem.Spec PyProof.Rows L2
/-! the law's safe points, all that can be told, covers -/
def allT (n : Nat) : Nat → List (List Nat)
  | 0 => [[]]
  | k + 1 => (allT n k).flatMap fun r => (List.range n).map fun p => r ++ [p]
theorem allT_len (n : Nat) : ∀ k, (allT n k).length = n ^ k
  | 0 => rfl
  | k + 1 => by
    show ((allT n k).flatMap _).length = _
    rw [List.length_flatMap]
    have : ((allT n k).map fun r => ((List.range n).map fun p => r ++ [p]).length) = (allT n k).map fun _ => n := List.map_congr_left fun r _ => by rw [List.length_map, List.length_range]
    rw [this, List.map_const', List.sum_replicate_nat, allT_len n k, Nat.pow_succ]
theorem allT_row {n : Nat} : ∀ {k : Nat} {r : List Nat}, r ∈ allT n k → r.length = k ∧ ∀ p ∈ r, p < n
  | 0, r, h => by
    have : r = [] := by simpa [allT] using h
    subst this
    exact ⟨rfl, fun p hp => nomatch hp⟩
  | k + 1, r, h => by
    obtain ⟨q, hq, h2⟩ := List.mem_flatMap.mp (show r ∈ (allT n k).flatMap _ from h)
    obtain ⟨p, hp, rfl⟩ := List.mem_map.mp h2
    obtain ⟨h3, h4⟩ := allT_row hq
    refine ⟨by simp [h3], fun x hx => ?_⟩
    rcases List.mem_append.mp hx with z | z
    · exact h4 x z
    · have : x = p := by simpa using z
      rw [this]; exact List.mem_range.mp hp
def covsL (G : Sp2) : List (List Nat) := (lawLots G.2.length).filter fun r => (bare G r).isEmpty
def minL (l : List Nat) : Nat := l.foldl Nat.min 99
theorem minL_le : ∀ (l : List Nat) (a : Nat), l.foldl Nat.min a ≤ a ∧ (∀ y ∈ l, l.foldl Nat.min a ≤ y) ∧ (l.foldl Nat.min a = a ∨ l.foldl Nat.min a ∈ l)
  | [], a => ⟨Nat.le_refl _, (fun y hy => nomatch hy), .inl rfl⟩
  | b :: l, a => by
    obtain ⟨h1, h2, h3⟩ := minL_le l (Nat.min a b)
    have k1 : Nat.min a b ≤ a := Nat.min_le_left a b
    have k2 : Nat.min a b ≤ b := Nat.min_le_right a b
    refine ⟨Nat.le_trans h1 k1, fun y hy => ?_, ?_⟩
    · rcases List.mem_cons.mp hy with z | z
      · rw [z]; exact Nat.le_trans h1 k2
      · exact h2 y z
    · rcases h3 with z | z
      · by_cases hab : a ≤ b
        · left; show l.foldl Nat.min (Nat.min a b) = a
          rw [z]; exact Nat.min_eq_left hab
        · right; show l.foldl Nat.min (Nat.min a b) ∈ b :: l
          rw [z, show Nat.min a b = b from Nat.min_eq_right (by omega)]
          exact List.mem_cons_self
      · right; exact List.mem_cons_of_mem _ z
def covL (G : Sp2) : List (List Nat) := (covsL G).filter fun r => decide (r.length = minL ((covsL G).map List.length))
section
variable {X : Cx}
theorem f_minN {α : Type} {xs : List α} {g : α → Nat} (hc : X.calm = true := by rfl) : CalOk X (.builtin "min") [.d (.list ((xs.map fun a => nD (g a)) ++ [nD 99]))] (I_ (minL (xs.map g) : Nat)) := by
  have e : (xs.map fun a => nD (g a)) ++ [nD 99] = (castL (xs.map g ++ [99])).map .int := by
    unfold castL
    rw [List.map_append, List.map_append, List.map_map, List.map_map]
    rfl
  rw [e]
  obtain ⟨h1, h2, h3⟩ := minL_le (xs.map g) 99
  refine f_min hc ?_ ?_
  · refine List.mem_map.mpr ⟨minL (xs.map g), ?_, rfl⟩
    rcases h3 with z | z
    · exact List.mem_append_right _ (by rw [show minL (xs.map g) = 99 from z]; exact List.mem_singleton.mpr rfl)
    · exact List.mem_append_left _ z
  · intro y hy
    obtain ⟨n, hn, rfl⟩ := List.mem_map.mp hy
    have : minL (xs.map g) ≤ n := by
      rcases List.mem_append.mp hn with z | z
      · exact h2 n z
      · have : n = 99 := by simpa using z
        rw [this]; exact h1
    omega
end
section
variable {P : Program} {w : World} {K : PySem.W.Frag} {mg : Str → Option Value} {base : Heap}
theorem emp_any {α : Type} (xs : List α) (p : α → Bool) : (xs.filter p).isEmpty = !xs.any p := by
  induction xs with
  | nil => rfl
  | cons a xs ih =>
    rw [List.filter_cons]
    cases h : p a with
    | true => simp [h]
    | false => simpa [h] using ih
theorem rest_ok {told c : List Nat} {n : Nat} (h : ∀ p ∈ told, p < n) : (restM told c).Pairwise (· < ·) ∧ ∀ p ∈ restM told c, p < n := ⟨restM_lt _ _, fun p hp => h p (restM_mem hp)⟩
inductive F_law_safe : Spec
  | mk1 {S G : Sp2} {told : List Nat} (h : S.1 ≤ 9) (h1 : told.length < 64) (h2 : ∀ p ∈ told, p < S.1) : F_law_safe [] [.dt (spansD S), I_ (S.1 : Nat), .d (lotsD G.2), .d (lotD told)] (.d (lotD (safeL S G told))) []
  | mk2 {S G : Sp2} {told : List Nat} (h : S.1 ≤ 9) (h1 : told.length < 64) (h2 : ∀ p ∈ told, p < S.1) : F_law_safe [] [.dt (spansD S), I_ (S.1 : Nat), .d (lotsD G.2), .d (nlD told)] (.d (lotD (safeL S G told))) []
theorem sc_law_safe : FnScope ["_law_spans_here", "_law_points", "_law_gangs", "_law_told", "_law_found", "_law_crew"] ["_law_spans_here", "_law_points", "_law_gangs", "_law_told"] (C8.fnScope s_law_safe) := ⟨rfl, rfl, rfl, by decide +kernel, rfl, by decide +kernel, by decide +kernel⟩
theorem f_law_safe (T : Top K mg) : Fn P w K mg base false 2 "_law_safe" F_law_safe := by
  refine Fn.of T.s_law_safe sc_law_safe (fun _ _ _ _ _ _ us hl => match us, hl with | [_, _, _, _], _ => rfl) (by rintro _ _ _ _ ⟨⟩ <;> rfl) fun f cdv A outer s H E hr W rs r W' hF => ?_
  cases hF with
  | @mk1 S G told h h1 h2 =>
    refine h_cons (s_set 4 (e_tupRg (e_var 1) (by first | assumption | omega | decide) T.b_tuple T.b_range) sc_law_safe.nd) ?_
    refine h_cons (s_forN (fun f => f.length ≤ 9) (fun f c => commonL f (spanL S (restM told c))) (fun _ => []) (fun f => [some (.dt (spansD S)), some (I_ (S.1 : Nat)), some (.d (lotsD G.2)), some (.d (lotD told)), some (.d (lotD f)), none]) (List.range S.1) 5 (xs := G.2) (gg := lotD) (i_tup (e_var 2)) sc_law_safe.nd (by rw [List.length_range]; exact h) (by repeat (first | exact trivial | refine ⟨.inr rfl, ?_⟩ | refine ⟨.inl rfl, ?_⟩)) (fun f p _ hf => Nat.le_trans (List.length_filter_le _ _) hf) fun f c hl hf => ?_) ?_
    · have hfz : f.length < sizeLine := Nat.lt_of_le_of_lt hf (by decide)
      obtain ⟨d1, d2⟩ := rest_ok (c := c) h2
      exact hs_wk (h_one (s_set 4 (r_callP (f_law_common T) (hr.mono (by decide)) (a_cons (e_var 4) (a_cons (e_dtget hr.units (e_var 0) (r_callP (f_law_rest T) (hr.mono (by decide)) (a_cons (e_var 3) (a_cons (e_var 5) a_nil)) (.mk1 h1)) (spans_get d1 d2)) a_nil)) (.mk hfz)) sc_law_safe.nd)) (by repeat (first | exact trivial | refine ⟨.inr rfl, ?_⟩ | refine ⟨.inl rfl, ?_⟩))
    · exact h_one (s_ret (e_var 4))
  | @mk2 S G told h h1 h2 =>
    refine h_cons (s_set 4 (e_tupRg (e_var 1) (by first | assumption | omega | decide) T.b_tuple T.b_range) sc_law_safe.nd) ?_
    refine h_cons (s_forN (fun f => f.length ≤ 9) (fun f c => commonL f (spanL S (restM told c))) (fun _ => []) (fun f => [some (.dt (spansD S)), some (I_ (S.1 : Nat)), some (.d (lotsD G.2)), some (.d (nlD told)), some (.d (lotD f)), none]) (List.range S.1) 5 (xs := G.2) (gg := lotD) (i_tup (e_var 2)) sc_law_safe.nd (by rw [List.length_range]; exact h) (by repeat (first | exact trivial | refine ⟨.inr rfl, ?_⟩ | refine ⟨.inl rfl, ?_⟩)) (fun f p _ hf => Nat.le_trans (List.length_filter_le _ _) hf) fun f c hl hf => ?_) ?_
    · have hfz : f.length < sizeLine := Nat.lt_of_le_of_lt hf (by decide)
      obtain ⟨d1, d2⟩ := rest_ok (c := c) h2
      exact hs_wk (h_one (s_set 4 (r_callP (f_law_common T) (hr.mono (by decide)) (a_cons (e_var 4) (a_cons (e_dtget hr.units (e_var 0) (r_callP (f_law_rest T) (hr.mono (by decide)) (a_cons (e_var 3) (a_cons (e_var 5) a_nil)) (.mk2 h1)) (spans_get d1 d2)) a_nil)) (.mk hfz)) sc_law_safe.nd)) (by repeat (first | exact trivial | refine ⟨.inr rfl, ?_⟩ | refine ⟨.inl rfl, ?_⟩))
    · exact h_one (s_ret (e_var 4))
inductive F_law_is_cover : Spec
  | mk {G : Sp2} {l : List Nat} (h : G.1 ≤ 9) (h1 : l.length < sizeLine) (h2 : ∀ k ∈ l, k < G.2.length) : F_law_is_cover [] [.d (spD G), .d (lotD l)] (B_ (bare G l).isEmpty) []
theorem sc_law_is_cover : FnScope ["_law_system_here", "_law_taken_so", "_law_crews", "_law_k", "_law_teller", "_law_crew"] ["_law_system_here", "_law_taken_so"] (C8.fnScope s_law_is_cover) := ⟨rfl, rfl, rfl, by decide +kernel, rfl, by decide +kernel, by decide +kernel⟩
theorem f_law_is_cover (T : Top K mg) : Fn P w K mg base false 1 "_law_is_cover" F_law_is_cover := by
  refine Fn.of T.s_law_is_cover sc_law_is_cover (fun _ _ _ _ _ _ us hl => match us, hl with | [_, _], _ => rfl) (by rintro _ _ _ _ ⟨⟩ <;> rfl) fun f cdv A outer s H E hr W rs r W' hF => ?_
  cases hF with | @mk G l h h1 h2 =>
  have hz9 : G.1 < sizeLine := Nat.lt_of_le_of_lt h (by decide)
  have hz2 : (l.map fun k => G.2.getD k []).length < sizeLine := by rw [List.length_map]; exact h1
  refine h_cons (s_wk (s_set 2 (e_comp (comp_M [("_law_k", 3)] 3 (f := fun k => lotD (G.2.getD k [])) (xs := l) (i_tup (e_var 1)) sc_law_is_cover.nd (by first | assumption | omega | exact h2 _ ‹_› | (rw [List.length_range]; exact hz9) | decide) (fun a ha s H C cl fp => (r_ix (r_ix (e_var 0) e_nat x_sp1) (e_var 3) (x_lots (by first | assumption | omega | exact h2 _ ‹_› | (rw [List.length_range]; exact hz9) | decide)))) (fun s H C cl fp => g_nm 3 sc_law_is_cover.nd))) sc_law_is_cover.nd) (ρ2 := [some (.d (spD G)), some (.d (lotD l)), some (.d (llD (l.map fun k => G.2.getD k []))), none, none, none]) ⟨.inr rfl, .inr rfl, .inr (by unfold llD; rw [List.map_map]; rfl), .inr rfl, .inr rfl, .inr rfl, trivial⟩) ?_
  refine h_one (s_retE (r_cmp (e_comp (comp_N [("_law_teller", 4)] 4 (p := fun t => ((l.map fun k => G.2.getD k []).filter fun c => decide (t ∈ c)).isEmpty) (f := nD) (xs := List.range G.1) (i_rgN T.b_range (a_cons (r_ix (e_var 0) e_nat x_sp0) a_nil) (by first | assumption | omega | exact h2 _ ‹_› | (rw [List.length_range]; exact hz9) | decide)) sc_law_is_cover.nd (by first | assumption | omega | exact h2 _ ‹_› | (rw [List.length_range]; exact hz9) | decide) (fun a ha s H C cl fp => s_one (rt_cmp (e_comp (comp_N [("_law_crew", 5)] 5 (p := fun c => decide (a ∈ c)) (f := fun _ => nD 1) (xs := l.map fun k => G.2.getD k []) (i_lst (e_var 2)) sc_law_is_cover.nd (by first | assumption | omega | exact h2 _ ‹_› | (rw [List.length_range]; exact hz9) | decide) (fun a ha s H C cl fp => s_one (rt_cmp (e_var 4) (e_var 5) c_inN)) (fun a ha hp s H C cl fp => e_nat) (fun s H C cl fp => g_nm 5 sc_law_is_cover.nd))) e_nilL (c_mL0 hr.units (by first | assumption | exact sh_lot | exact sh_nl | exact sh_ll | exact sh_lots | exact sh_int | exact sh_bool | exact sh_none | exact sh_nil | exact sh_nilT | exact sh_ones _)))) (fun a ha hp s H C cl fp => (e_var 4)) (fun s H C cl fp => g_nm 4 sc_law_is_cover.nd))) e_nilL (c_mL0 hr.units (by first | assumption | exact sh_lot | exact sh_nl | exact sh_ll | exact sh_lots | exact sh_int | exact sh_bool | exact sh_none | exact sh_nil | exact sh_nilT | exact sh_ones _))) ?_)
  unfold bare
  congr 3
  refine List.filter_congr fun t _ => ?_
  rw [emp_any, List.any_map]
  rfl
inductive F_law_all_covers : Spec
  | mk {G : Sp2} (h : G.1 ≤ 9) (h1 : G.2.length ≤ 9) : F_law_all_covers [] [.d (spD G)] (.d (llD (covsL G))) []
theorem sc_law_all_covers : FnScope ["_law_system_here", "_law_row"] ["_law_system_here"] (C8.fnScope s_law_all_covers) := ⟨rfl, rfl, rfl, by decide +kernel, rfl, by decide +kernel, by decide +kernel⟩
theorem f_law_all_covers (T : Top K mg) : Fn P w K mg base false 2 "_law_all_covers" F_law_all_covers := by
  refine Fn.of T.s_law_all_covers sc_law_all_covers (fun _ _ _ _ _ _ us hl => match us, hl with | [_], _ => rfl) (by rintro _ _ _ _ ⟨⟩ <;> rfl) fun f cdv A outer s H E hr W rs r W' hF => ?_
  cases hF with | @mk G h h1 =>
  have hz : (lawLots G.2.length).length < sizeLine := by rw [lots_len]; exact Nat.lt_of_le_of_lt (p2_le h1) (by decide)
  have hl : ∀ l ∈ lawLots G.2.length, l.length < sizeLine := fun l hl => Nat.lt_of_le_of_lt (Nat.le_trans (lots_mem hl).1 h1) (by decide)
  have hk : ∀ l ∈ lawLots G.2.length, ∀ k ∈ l, k < G.2.length := fun l hl => (lots_mem hl).2.2
  exact h_one (s_ret (e_comp (comp_N [("_law_row", 1)] 1 (p := fun r => (bare G r).isEmpty) (f := lotD) (xs := lawLots G.2.length) (i_lst (r_callP (f_law_lots T) (hr.mono (by decide)) (a_cons (r_calB (a_cons (r_ix (e_var 0) e_nat x_sp1) a_nil) f_lenNs T.b_len rfl) a_nil) (.mk (by first | assumption | omega | exact hl _ ‹_› | exact hk _ ‹_› | decide)))) sc_law_all_covers.nd (by first | assumption | omega | exact hl _ ‹_› | exact hk _ ‹_› | decide) (fun a ha s H C cl fp => s_one (t_val (r_callP (f_law_is_cover T) (hr.mono (by decide)) (a_cons (e_var 0) (a_cons (e_var 1) a_nil)) (.mk (by first | assumption | omega | exact hl _ ‹_› | exact hk _ ‹_› | decide) (by first | assumption | omega | exact hl _ ‹_› | exact hk _ ‹_› | decide) (by first | assumption | omega | exact hl _ ‹_› | exact hk _ ‹_› | decide))))) (fun a ha hp s H C cl fp => (e_var 1)) (fun s H C cl fp => g_nm 1 sc_law_all_covers.nd))))
inductive F_law_covers : Spec
  | mk {G : Sp2} (h : G.1 ≤ 9) (h1 : G.2.length ≤ 9) : F_law_covers [] [.d (spD G)] (.d (llD (covL G))) []
theorem sc_law_covers : FnScope ["_law_system_here", "_law_some", "_law_least", "_law_row"] ["_law_system_here"] (C8.fnScope s_law_covers) := ⟨rfl, rfl, rfl, by decide +kernel, rfl, by decide +kernel, by decide +kernel⟩
theorem f_law_covers (T : Top K mg) : Fn P w K mg base false 3 "_law_covers" F_law_covers := by
  refine Fn.of T.s_law_covers sc_law_covers (fun _ _ _ _ _ _ us hl => match us, hl with | [_], _ => rfl) (by rintro _ _ _ _ ⟨⟩ <;> rfl) fun f cdv A outer s H E hr W rs r W' hF => ?_
  cases hF with | @mk G h h1 =>
  have hz : (covsL G).length < sizeLine := by
    refine Nat.lt_of_le_of_lt (List.length_filter_le _ _) ?_
    rw [lots_len]; exact Nat.lt_of_le_of_lt (p2_le h1) (by decide)
  have hz2 : ((covsL G).map fun r => nD r.length).length + ([nD 99] : List PyData).length ≤ sizeLine := by
    rw [List.length_map]
    exact Nat.succ_le_of_lt hz
  refine h_cons (s_set 1 (r_callP (f_law_all_covers T) (hr.mono (by decide)) (a_cons (e_var 0) a_nil) (.mk (by first | assumption | omega | exact hz2 | decide) (by first | assumption | omega | exact hz2 | decide))) sc_law_covers.nd) ?_
  refine h_cons (s_set 2 (r_calB (a_cons (r_bin (e_comp (comp_M [("_law_row", 3)] 3 (f := fun r => nD r.length) (xs := covsL G) (i_lst (e_var 1)) sc_law_covers.nd (by first | assumption | omega | exact hz2 | decide) (fun a ha s H C cl fp => (r_calB (a_cons (e_var 3) a_nil) f_lenN T.b_len rfl)) (fun s H C cl fp => g_nm 3 sc_law_covers.nd))) (e_lst1 (a_cons e_nat a_nil)) (b_catL (by first | assumption | omega | exact hz2 | decide))) a_nil) (f_minN (g := List.length)) T.b_min rfl) sc_law_covers.nd) ?_
  exact h_one (s_ret (e_comp (comp_N [("_law_row", 3)] 3 (p := fun r => decide (r.length = minL ((covsL G).map List.length))) (f := lotD) (xs := covsL G) (i_lst (e_var 1)) sc_law_covers.nd (by first | assumption | omega | exact hz2 | decide) (fun a ha s H C cl fp => s_one (rt_cmp (r_calB (a_cons (e_var 3) a_nil) f_lenN T.b_len rfl) (e_var 2) c_eqN)) (fun a ha hp s H C cl fp => (e_var 3)) (fun s H C cl fp => g_nm 3 sc_law_covers.nd))))
inductive F_law_all_told : Spec
  | mk {n k : Nat} (h : n ≤ 5) (h1 : k ≤ 5) : F_law_all_told [] [I_ (n : Nat), I_ (k : Nat)] (.d (llD (allT n k))) []
theorem sc_law_all_told : FnScope ["_law_points", "_law_crowd", "_law_rows", "_law_teller", "_law_longer", "_law_row", "_law_point"] ["_law_points", "_law_crowd"] (C8.fnScope s_law_all_told) := ⟨rfl, rfl, rfl, by decide +kernel, rfl, by decide +kernel, by decide +kernel⟩
theorem f_law_all_told (T : Top K mg) : Fn P w K mg base false 1 "_law_all_told" F_law_all_told := by
  refine Fn.of T.s_law_all_told sc_law_all_told (fun _ _ _ _ _ _ us hl => match us, hl with | [_, _], _ => rfl) (by rintro _ _ _ _ ⟨⟩ <;> rfl) fun f cdv A outer s H E hr W rs r W' hF => ?_
  cases hF with | @mk n k h h1 =>
  have pw : ∀ j ≤ k, n ^ j ≤ 3125 := fun j hj => Nat.le_trans (Nat.pow_le_pow_left h j) (Nat.le_trans (Nat.pow_le_pow_right (by decide) (show j ≤ 5 by omega)) (by decide))
  refine h_cons (s_set 2 (e_to (.d (llD (allT n 0))) (e_lst1 (a_cons (e_to (.d (lotD [])) e_nilT rfl) a_nil)) rfl) sc_law_all_told.nd) ?_
  refine h_cons (s_forI (fun _ => []) (fun j => [some (I_ (n : Nat)), some (I_ (k : Nat)), some (.d (llD (allT n j))), none, none, none, none]) 3 (xs := List.range k) (gg := nD) (i_rgN T.b_range (a_cons (e_var 1) a_nil) (by first | assumption | omega | decide)) sc_law_all_told.nd (by repeat (first | exact trivial | refine ⟨.inr rfl, ?_⟩ | refine ⟨.inl rfl, ?_⟩)) fun j a ha => ?_) ?_
  · have hj : j < k ∧ a = j := by
      obtain ⟨h1, h2⟩ := List.getElem?_eq_some_iff.mp ha
      rw [List.getElem_range] at h2
      exact ⟨by simpa using h1, h2.symm⟩
    obtain ⟨hjk, rfl⟩ := hj
    refine hs_wk (ρ1 := [some (I_ (n : Nat)), some (I_ (k : Nat)), some (.d (llD (allT n (a + 1)))), none, some (.d (llD (allT n (a + 1)))), none, none]) (h_new 4 (fun p => ?_) sc_law_all_told.nd) (by repeat (first | exact trivial | refine ⟨.inr rfl, ?_⟩ | refine ⟨.inl rfl, ?_⟩))
    let F : Nat → List (List Nat) := fun i => ((allT n a).take i).flatMap fun r => (List.range n).map fun p => r ++ [p]
    have hF : F (allT n a).length = allT n (a + 1) := by show ((allT n a).take _).flatMap _ = _; rw [List.take_length]; rfl
    refine h_cons (s_forI (fun i => [.lst p ((F i).map lotD)]) (fun i => [some (I_ (n : Nat)), some (I_ (k : Nat)), some (.d (llD (allT n a))), none, some (.v (.ref p)), none, none]) 5 (xs := allT n a) (gg := lotD) (i_lst (e_var 2)) sc_law_all_told.nd (by repeat (first | exact trivial | refine ⟨.inr rfl, ?_⟩ | refine ⟨.inl rfl, ?_⟩)) fun i r hr' => ?_) ?_
    · obtain ⟨hi, hri⟩ := List.getElem?_eq_some_iff.mp hr'
      have hrm : r ∈ allT n a := List.mem_of_getElem? hr'
      have hrl := (allT_row hrm).1
      have eF : F (i + 1) = F i ++ (List.range n).map fun p => r ++ [p] := by
        show ((allT n a).take (i + 1)).flatMap _ = _
        rw [List.take_add_one, hr', List.flatMap_append]
        simp [F]
      have lF : (F i).length ≤ 3125 := by
        have h1 : ((allT n a).take i).length ≤ (allT n a).length := by rw [List.length_take]; omega
        have h2 : (F i).length = ((allT n a).take i).length * n := by
          show (((allT n a).take i).flatMap _).length = _
          rw [List.length_flatMap]
          have : (((allT n a).take i).map fun r => ((List.range n).map fun p => r ++ [p]).length) = ((allT n a).take i).map fun _ => n := List.map_congr_left fun r _ => by rw [List.length_map, List.length_range]
          rw [this, List.map_const', List.sum_replicate_nat]
        rw [allT_len] at h1
        have h3 := Nat.mul_le_mul_right n h1
        have h4 := pw (a + 1) (by omega)
        rw [Nat.pow_succ] at h4
        omega
      have lz : ((F i).map lotD).length + ((List.range n).map fun p => lotD (r ++ [p])).length ≤ sizeLine := by
        rw [List.length_map, List.length_map, List.length_range]
        exact Nat.le_trans (show _ ≤ 3130 by omega) (by decide)
      rw [eF, List.map_append, List.map_map]
      refine hs_wk (h_one (s_extend 4 (e_to (.d (.list ((List.range n).map (lotD ∘ fun p => r ++ [p])))) (e_comp (comp_M [("_law_point", 6)] 6 (f := fun p => PyData.tuple (r.map nD ++ [nD p])) (xs := List.range n) (i_rgN T.b_range (a_cons (e_var 0) a_nil) (by first | assumption | omega | (simp only [List.length_map, List.length_cons, List.length_nil]; exact Nat.le_trans (show _ ≤ 9 by omega) (by decide)) | (rw [List.length_range]; exact Nat.lt_of_le_of_lt h (by decide)) | decide)) sc_law_all_told.nd (by first | assumption | omega | (simp only [List.length_map, List.length_cons, List.length_nil]; exact Nat.le_trans (show _ ≤ 9 by omega) (by decide)) | (rw [List.length_range]; exact Nat.lt_of_le_of_lt h (by decide)) | decide) (fun a ha s H C cl fp => (r_bin (e_var 5) (e_tup1 (a_cons (e_var 6) a_nil)) (b_catT (by first | assumption | omega | (simp only [List.length_map, List.length_cons, List.length_nil]; exact Nat.le_trans (show _ ≤ 9 by omega) (by decide)) | (rw [List.length_range]; exact Nat.lt_of_le_of_lt h (by decide)) | decide)))) (fun s H C cl fp => g_nm 6 sc_law_all_told.nd))) ?_) lz)) (by repeat (first | exact trivial | refine ⟨.inr rfl, ?_⟩ | refine ⟨.inl rfl, ?_⟩))
      congr 4
      funext p
      show PyData.tuple _ = PyData.tuple ((r ++ [p]).map nD)
      rw [List.map_append]
      rfl
    · rw [hF]
      refine h_frz 4 ?_
      exact h_one (s_set 2 (r_calT (a_cons (e_var 4) a_nil) f_listL T.b_list rfl) sc_law_all_told.nd)
  · rw [List.length_range]
    exact h_one (s_ret (e_var 2))
end
end SG
set_option Elab.async false
set_option linter.all false
set_option maxRecDepth 100000
set_option maxHeartbeats 4000000
namespace SG
open PySem PySem.Spec PyProof.Rows L2
/-! the law's spaces -/
theorem putP_len {α : Type} (kvs : List (List Nat × α)) (k : List Nat) (v : α) : (putP kvs k v).length ≤ kvs.length + 1 := by
  unfold putP
  split
  · rw [List.length_map]; omega
  · simp
theorem ddP_len {α : Type} (prs : List (List Nat × α)) : (ddP prs).length ≤ prs.length := by
  have key : ∀ (ps acc : List (List Nat × α)), (ps.foldl (fun acc p => putP acc p.1 p.2) acc).length ≤ acc.length + ps.length := by
    intro ps
    induction ps with
    | nil => intro acc; exact Nat.le_refl _
    | cons p ps ih =>
      intro acc
      have h1 := ih (putP acc p.1 p.2)
      have h2 := putP_len acc p.1 p.2
      simp only [List.foldl_cons, List.length_cons]
      omega
  have := key prs []
  rw [List.length_nil, Nat.zero_add] at this
  exact this
theorem keysOf_len (ls : List (List Nat)) : (keysOf ls).length ≤ ls.length := by
  unfold keysOf
  rw [List.length_map]
  have := ddP_len (ls.map fun l => (l, PyData.bool true))
  rwa [List.length_map] at this
def metStep (rows : List (List Nat)) (l : List Nat) : List (List Nat) := keysOf (rows ++ (rows.map (commonL l) ++ [l]))
def metRows (n : Nat) (ls : List (List Nat)) : List (List Nat) := ls.foldl metStep [[], List.range n]
def metL (n : Nat) (ls : List (List Nat)) : Sp2 := madeL n (metRows n ls)
theorem metRows_len (n : Nat) (ls : List (List Nat)) : (metRows n ls).length + 1 ≤ 3 * 2 ^ ls.length := by
  have key : ∀ (ls rows : List (List Nat)), (ls.foldl metStep rows).length + 1 ≤ (rows.length + 1) * 2 ^ ls.length := by
    intro ls
    induction ls with
    | nil => intro rows; show rows.length + 1 ≤ (rows.length + 1) * 1; omega
    | cons l ls ih =>
      intro rows
      have h1 := ih (metStep rows l)
      have h2 : (metStep rows l).length + 1 ≤ (rows.length + 1) * 2 := by
        unfold metStep
        have := keysOf_len (rows ++ (rows.map (commonL l) ++ [l]))
        simp only [List.length_append, List.length_map, List.length_singleton] at this
        omega
      have h3 := Nat.mul_le_mul_right (2 ^ ls.length) h2
      rw [List.length_cons, Nat.pow_succ, Nat.mul_comm (2 ^ ls.length) 2, ← Nat.mul_assoc]
      exact Nat.le_trans h1 h3
  exact key ls [[], List.range n]
def ruleOk (given : List (List Nat × Nat)) (l : List Nat) : Bool := (given.filter fun g => !decide (g.2 ∈ l) && hasL l g.1).isEmpty
def byRules (n : Nat) (given : List (List Nat × Nat)) : Sp2 := madeL n ((lawLots n).filter (ruleOk given))
def lineL (n : Nat) : List (List Nat × Nat) := (List.range n).flatMap fun a => (List.range (n - (a + 2))).flatMap fun j => (List.range (a + 2 + j - (a + 1))).map fun m => ([a, a + 2 + j], a + 1 + m)
def ruD (g : List Nat × Nat) : PyData := .tuple [lotD g.1, nD g.2]
section
variable {P : Program} {w : World} {K : PySem.W.Frag} {mg : Str → Option Value} {base : Heap}
inductive F_law_met : Spec
  | mk {n : Nat} {ls : List (List Nat)} (h : n ≤ 9) (h1 : ls.length ≤ 9) (h2 : ∀ l ∈ ls, l.length < sizeLine) : F_law_met [] [I_ (n : Nat), .d (llD ls)] (.d (spD (metL n ls))) []
theorem sc_law_met : FnScope ["_law_points", "_law_lots_here", "_law_rows", "_law_lot_here", "_law_more", "_law_row"] ["_law_points", "_law_lots_here"] (C8.fnScope s_law_met) := ⟨rfl, rfl, rfl, by decide +kernel, rfl, by decide +kernel, by decide +kernel⟩
theorem f_law_met (T : Top K mg) : Fn P w K mg base false 2 "_law_met" F_law_met := by
  refine Fn.of T.s_law_met sc_law_met (fun _ _ _ _ _ _ us hl => match us, hl with | [_, _], _ => rfl) (by rintro _ _ _ _ ⟨⟩ <;> rfl) fun f cdv A outer s H E hr W rs r W' hF => ?_
  cases hF with | @mk n ls h h1 h2 =>
  have pw : ∀ j ≤ 9, 3 * 2 ^ j ≤ 1536 := fun j hj => by
    have := Nat.pow_le_pow_right (n := 2) (by decide) hj
    omega
  refine h_cons (s_set 2 (e_to (.d (llD [[], List.range n])) (e_lst2 (a_cons (e_to (.d (lotD [])) e_nilT rfl) (a_cons (e_tupRg (e_var 0) (by first | assumption | omega | decide) T.b_tuple T.b_range) a_nil))) rfl) sc_law_met.nd) ?_
  refine h_cons (s_forI (fun _ => []) (fun j => [some (I_ (n : Nat)), some (.d (llD ls)), some (.d (llD (metRows n (ls.take j)))), none, none, none]) 3 (xs := ls) (gg := lotD) (i_lst (e_var 1)) sc_law_met.nd (by repeat (first | exact trivial | refine ⟨.inr rfl, ?_⟩ | refine ⟨.inl rfl, ?_⟩)) fun j l hl => ?_) ?_
  · obtain ⟨hj, _⟩ := List.getElem?_eq_some_iff.mp hl
    have hlz := h2 l (List.mem_of_getElem? hl)
    have e : metRows n (ls.take (j + 1)) = metStep (metRows n (ls.take j)) l := by
      unfold metRows
      rw [List.take_add_one, hl, List.foldl_append]
      rfl
    have lb : (metRows n (ls.take j)).length ≤ 1536 := by
      have h3 := metRows_len n (ls.take j)
      have h4 : (ls.take j).length ≤ 9 := by rw [List.length_take]; omega
      have := pw _ h4
      omega
    rw [e]
    generalize metRows n (ls.take j) = rows at lb
    have hz : rows.length < sizeLine := Nat.lt_of_le_of_lt lb (by decide)
    have hz1 : (rows.map fun r => lotD (commonL l r)).length + ([lotD l] : List PyData).length ≤ sizeLine := by
      rw [List.length_map]
      exact Nat.le_trans (show _ ≤ 1537 by simp only [List.length_cons, List.length_nil]; omega) (by decide)
    have hz2 : (rows.map lotD).length + ((rows.map (commonL l) ++ [l]).map lotD).length ≤ sizeLine := by
      simp only [List.length_map, List.length_append, List.length_singleton]
      exact Nat.le_trans (show _ ≤ 4000 by omega) (by decide)
    have hz3 : (rows ++ (rows.map (commonL l) ++ [l])).length < sizeLine := by
      simp only [List.length_map, List.length_append, List.length_singleton]
      exact Nat.lt_of_le_of_lt (show _ ≤ 4000 by omega) (by decide)
    refine hs_wk (h_cons (s_set 4 (e_to (.d (llD (rows.map (commonL l) ++ [l]))) (r_bin (e_comp (comp_M [("_law_row", 5)] 5 (f := fun r => lotD (commonL l r)) (xs := rows) (i_lst (e_var 2)) sc_law_met.nd (by first | assumption | omega | exact hz1 | exact hz2 | decide) (fun a ha s H C cl fp => (r_callP (f_law_common T) (hr.mono (by decide)) (a_cons (e_var 3) (a_cons (e_var 5) a_nil)) (.mk (by first | assumption | omega | exact hz1 | exact hz2 | decide)))) (fun s H C cl fp => g_nm 5 sc_law_met.nd))) (e_lst1 (a_cons (e_var 3) a_nil)) (b_catL (by first | assumption | omega | exact hz1 | exact hz2 | decide))) (by unfold llD; rw [List.map_append, List.map_map]; rfl)) sc_law_met.nd) (h_one (s_set 2 (e_listDT (a_cons (r_calT (a_cons (e_comp (comp_M [("_law_row", 5)] 5 (f := fun r => PyData.tuple [lotD r, PyData.bool true]) (xs := rows ++ (rows.map (commonL l) ++ [l])) (gg := lotD) (i_lst (e_to (.d (llD (rows ++ (rows.map (commonL l) ++ [l])))) (r_bin (e_var 2) (e_var 4) (b_catL (by first | assumption | omega | exact hz1 | exact hz2 | decide))) (by unfold llD; rw [List.map_append (l₁ := rows)]))) sc_law_met.nd (by first | assumption | omega | exact hz1 | exact hz2 | decide) (fun a ha s H C cl fp => (e_tup2 (a_cons (e_var 5) (a_cons e_bl a_nil)))) (fun s H C cl fp => g_nm 5 sc_law_met.nd))) a_nil) (f_dictT hr.units (k := fun l => l) (g := fun _ => .bool true)) T.b_dict rfl) a_nil) T.b_list) sc_law_met.nd))) (by repeat (first | exact trivial | refine ⟨.inr rfl, ?_⟩ | refine ⟨.inl rfl, ?_⟩))
  · rw [List.take_length]
    have hz : (metRows n ls).length < sizeLine := by
      have h3 := metRows_len n ls
      have := pw _ h1
      exact Nat.lt_of_le_of_lt (show _ ≤ 1536 by omega) (by decide)
    exact h_one (s_ret (r_callP (f_law_made T) (hr.mono (by decide)) (a_cons (e_var 0) (a_cons (e_var 2) a_nil)) (.mk (by first | assumption | omega | exact hz1 | exact hz2 | decide))))
inductive F_law_by_rules : Spec
  | mk {n : Nat} {given : List (List Nat × Nat)} (h : n ≤ 9) (h1 : given.length < sizeLine) (h2 : ∀ g ∈ given, g.1.length < sizeLine) : F_law_by_rules [] [I_ (n : Nat), .d (.list (given.map ruD))] (.d (spD (byRules n given))) []
theorem sc_law_by_rules : FnScope ["_law_points", "_law_given_so", "_law_good", "_law_lot_here", "_law_own", "_law_point"] ["_law_points", "_law_given_so"] (C8.fnScope s_law_by_rules) := ⟨rfl, rfl, rfl, by decide +kernel, rfl, by decide +kernel, by decide +kernel⟩
theorem f_law_by_rules (T : Top K mg) : Fn P w K mg base false 2 "_law_by_rules" F_law_by_rules := by
  refine Fn.of T.s_law_by_rules sc_law_by_rules (fun _ _ _ _ _ _ us hl => match us, hl with | [_, _], _ => rfl) (by rintro _ _ _ _ ⟨⟩ <;> rfl) fun f cdv A outer s H E hr W rs r W' hF => ?_
  cases hF with | @mk n given h h1 h2 =>
  have hln : (lawLots n).length ≤ 512 := by rw [lots_len]; exact p2_le h
  refine h_new 2 (fun p => ?_) sc_law_by_rules.nd
  refine h_cons (s_forI (fun j => [.lst p ((((lawLots n).take j).filter (ruleOk given)).map lotD)]) (fun _ => [some (I_ (n : Nat)), some (.d (.list (given.map ruD))), some (.v (.ref p)), none, none, none]) 3 (xs := lawLots n) (gg := lotD) (i_lst (r_callP (f_law_lots T) (hr.mono (by decide)) (a_cons (e_var 0) a_nil) (.mk (by first | assumption | omega | decide)))) sc_law_by_rules.nd (by repeat (first | exact trivial | refine ⟨.inr rfl, ?_⟩ | refine ⟨.inl rfl, ?_⟩)) fun j l hl => ?_) ?_
  · have e : ((lawLots n).take (j + 1)).filter (ruleOk given) = ((lawLots n).take j).filter (ruleOk given) ++ [l].filter (ruleOk given) := by
      rw [List.take_add_one, hl, List.filter_append]
      rfl
    have hz : ((((lawLots n).take j).filter (ruleOk given)).map lotD).length < sizeLine := by
      rw [List.length_map]
      refine Nat.lt_of_le_of_lt (List.length_filter_le _ _) ?_
      rw [List.length_take]
      exact Nat.lt_of_le_of_lt (show _ ≤ 512 by omega) (by decide)
    rw [e]
    refine hs_wk (ρ1 := [some (I_ (n : Nat)), some (.d (.list (given.map ruD))), some (.v (.ref p)), some (.d (lotD l)), none, none]) (h_one (h_if (k := ruleOk given l) (rt_cmp (e_comp (comp_P [("_law_own", 4), ("_law_point", 5)] 4 5 (p := fun g => !decide (g.2 ∈ l) && hasL l g.1) (f := fun _ => nD 1) (xs := given) (g1 := fun g => lotD g.1) (g2 := fun g => nD g.2) (i_lst (e_var 1)) sc_law_by_rules.nd (by first | assumption | omega | exact h2 _ ‹_› | decide) (fun a ha s H C cl fp => s_one (PW.pt (w_andP (rt_cmp (e_var 5) (e_var 3) c_niN) (w_and1 (t_val (r_callP (f_law_has T) (hr.mono (by decide)) (a_cons (e_var 3) (a_cons (e_var 4) a_nil)) (.mk (by first | assumption | omega | exact h2 _ ‹_› | decide)))))))) (fun a ha hp s H C cl fp => e_nat) (fun s H C cl fp => g_pr 4 5 sc_law_by_rules.nd))) e_nilL (c_mL0 hr.units (sh_ones _))) (fun hc => ?_) (fun hc => ?_))) (by repeat (first | exact trivial | refine ⟨.inr rfl, ?_⟩ | refine ⟨.inl rfl, ?_⟩))
    · have e2 : [l].filter (ruleOk given) = [l] := by rw [List.filter_cons, if_pos hc]; rfl
      rw [e2, List.map_append]
      exact h_one (s_append 2 (e_var 3) hz)
    · have e2 : [l].filter (ruleOk given) = [] := by rw [List.filter_cons, if_neg (by rw [hc]; decide)]; rfl
      rw [e2, List.append_nil]
      exact h_nil
  · rw [List.take_length]
    refine h_frz 2 ?_
    have hz : ((lawLots n).filter (ruleOk given)).length < sizeLine := Nat.lt_of_le_of_lt (Nat.le_trans (List.length_filter_le _ _) hln) (by decide)
    exact h_one (s_ret (r_callP (f_law_made T) (hr.mono (by decide)) (a_cons (e_var 0) (a_cons (e_var 2) a_nil)) (.mk (by first | assumption | omega | exact h2 _ ‹_› | decide))))
end
end SG
set_option Elab.async false
set_option linter.all false
set_option maxRecDepth 100000
set_option maxHeartbeats 4000000
/-! comprehensions that draw -/
namespace SG
open PySem PySem.Spec PyProof.Rows L2
def selS {α : Type} (step : α → LS → Option PyData × LS) : List α → LS → List PyData × LS
  | [], s => ([], s)
  | a :: xs, s => ((step a s).1.toList ++ (selS step xs (step a s).2).1, (selS step xs (step a s).2).2)
theorem selS_app {α : Type} (step : α → LS → Option PyData × LS) : ∀ (xs ys : List α) (s : LS), selS step (xs ++ ys) s = ((selS step xs s).1 ++ (selS step ys (selS step xs s).2).1, (selS step ys (selS step xs s).2).2)
  | [], ys, s => by simp [selS]
  | a :: xs, ys, s => by
    show selS step (a :: (xs ++ ys)) s = _
    simp only [selS, selS_app step xs ys]
    simp
theorem selS_one {α : Type} (step : α → LS → Option PyData × LS) (a : α) (s : LS) : selS step [a] s = ((step a s).1.toList, (step a s).2) := by simp [selS]
section
variable {X : Cx} {iter elt : Expr} {ifs : List Expr} {pos px : Pos} {W : List Ow} {ρ : Rho} {x : Str}
theorem comp_G {α : Type} {scope : Scope} (own : List (Str × Nat)) (i : Nat) {xs : List α} {gg : α → PyData} (I : Nat → LS → Prop) (step : α → LS → Option PyData × LS) (mid : α → LS → LS) (Wn : LS → List Ow) (s0 : LS)
    (hi : PI X (.Name x px) iter (tI W ρ (xs.map gg) (Wn s0))) (hN : X.N.Nodup) (hz : xs.length < sizeLine) (h0 : I 0 s0) (hI : ∀ j a s, xs[j]? = some a → I j s → I (j + 1) (step a s).2) (hskip : ∀ a s, (step a s).1 = none → mid a s = (step a s).2)
    (htest : ∀ j a s, xs[j]? = some a → I j s → ∀ s' H C cl fp, PTs (Bk X scope s' H C cl fp) ifs (tT (Wn s) ((wipeR ρ (own.map (·.2))).set i (some (.d (gg a)))) (step a s).1.isSome (Wn (mid a s))))
    (helt : ∀ j a s d, xs[j]? = some a → I j s → (step a s).1 = some d → ∀ s' H C cl fp, PE (Bk X scope s' H C cl fp) elt (tE (Wn (mid a s)) ((wipeR ρ (own.map (·.2))).set i (some (.d (gg a)))) (.d d) (Wn (step a s).2)))
    (hg : ∀ s H C cl fp, PG (Bk X scope s H C cl fp) (.Name x px) (gName i)) (his : i ∈ own.map (·.2) := by decide) (hc : X.calm = true := by rfl) (ok : BlkOk X.N X.env.scope scope own := by exact blkOk_by (by kernel_rfl)) :
    CompP X (.Name x px) iter elt ifs scope W ρ (selS step xs s0).1 (Wn (selS step xs s0).2) := by
  let st : Nat → LS := fun j => (selS step (xs.take j) s0).2
  have st1 : ∀ j a, xs[j]? = some a → st (j + 1) = (step a (st j)).2 := fun j a e => by
    show (selS step (xs.take (j + 1)) s0).2 = _
    rw [List.take_add_one, e, selS_app]
    exact congrArg Prod.snd (selS_one step a _)
  have inv : ∀ j, j ≤ xs.length → I j (st j) := by
    intro j
    induction j with
    | zero => intro _; exact h0
    | succ j ih =>
      intro hj
      have e : xs[j]? = some xs[j] := List.getElem?_eq_getElem (by omega)
      rw [st1 j _ e]
      exact hI j _ _ e (ih (by omega))
  have at' : ∀ j, j < (xs.map gg).length → ∃ a, xs[j]? = some a ∧ I j (st j) := fun j hj => by
    rw [List.length_map] at hj
    exact ⟨xs[j], List.getElem?_eq_getElem hj, inv j (Nat.le_of_lt hj)⟩
  refine ⟨own, gName i, [i], gN i, xs.map gg, fun j => Wn (st j), fun j => match xs[j]? with | some a => Wn (mid a (st j)) | none => [], fun j => match xs[j]? with | some a => (step a (st j)).1.isSome | none => false,
    fun j => match xs[j]? with | some a => (step a (st j)).1.getD .none | none => .none, fun j => match xs[j]? with | some a => (wipeR ρ (own.map (·.2))).set i (some (.d (gg a))) | none => [], hc, hN, hi, ok, tgs_name i, fun k hk => by
      have : k = i := by simpa using hk
      rw [this]; exact his, fun j d e => ?_, fun j hj hp => ?_, by rw [List.length_map]; exact hz, hg, fun j hj s H C cl fp => ?_, fun j hj hp s H C cl fp => ?_, ?_, ?_⟩
  · rw [List.getElem?_map] at e
    cases q : xs[j]? with
    | none => rw [q] at e; cases e
    | some a =>
      rw [q] at e
      cases e
      simp only [gN, q]
  · obtain ⟨a, ea, _⟩ := at' j hj
    simp only [ea] at hp ⊢
    rw [st1 j a ea]
    have hn : (step a (st j)).1 = none := by
      cases q : (step a (st j)).1 with
      | none => rfl
      | some d => rw [q] at hp; cases hp
    rw [hskip a _ hn]
  · obtain ⟨a, ea, ia⟩ := at' j hj
    simp only [ea]
    exact htest j a (st j) ea ia s H C cl fp
  · obtain ⟨a, ea, ia⟩ := at' j hj
    simp only [ea] at hp ⊢
    obtain ⟨d, hd⟩ := Option.isSome_iff_exists.mp hp
    rw [st1 j a ea, hd]
    exact helt j a (st j) d ea ia hd s H C cl fp
  · rw [List.length_map]
    have key : ∀ n, n ≤ xs.length → (selS step (xs.take n) s0).1 = pick (fun j => match xs[j]? with | some a => (step a (st j)).1.isSome | none => false) (fun j => match xs[j]? with | some a => (step a (st j)).1.getD .none | none => .none) n := by
      intro n
      induction n with
      | zero => intro _; rfl
      | succ n ih =>
        intro hn
        have e : xs[n]? = some xs[n] := List.getElem?_eq_getElem (by omega)
        have e1 : (selS step (xs.take (n + 1)) s0).1 = (selS step (xs.take n) s0).1 ++ (step xs[n] (st n)).1.toList := by
          rw [List.take_add_one, e, selS_app]
          show _ ++ (selS step [xs[n]] _).1 = _
          rw [selS_one]
        rw [e1, ih (by omega)]
        cases q : (step xs[n] (st n)).1 with
        | none =>
          rw [pick_no (by simp only [e, q]; rfl)]
          show _ ++ [] = _
          rw [List.append_nil]
        | some d =>
          rw [pick_yes (by simp only [e, q]; rfl)]
          simp only [e, q]
          rfl
    have := key xs.length (Nat.le_refl _)
    rwa [List.take_length] at this
  · show _ = Wn (selS step (xs.take (xs.map gg).length) s0).2
    rw [List.length_map, List.take_length]
end
end SG
set_option Elab.async false
set_option linter.all false
set_option maxRecDepth 100000
set_option maxHeartbeats 4000000
/-! a, b = x, y -/
namespace SG
open PySem PySem.Spec PyProof.Rows L2
theorem rpl_3 {F : Hp} {s s' s'' : Sl} {vs : List V} (h : RpL F [s, s', s''] vs) : ∃ v u w, vs = [v, u, w] ∧ Rp F s v ∧ Rp F s' u ∧ Rp F s'' w := by
  obtain ⟨y, ys, rfl, h1, h2⟩ := h
  obtain ⟨v, u, rfl, h3, h4⟩ := rpl_2 h2
  exact ⟨y, v, u, rfl, h1, h3, h4⟩
section
variable {X : Cx} {a b c e : Expr} {x y z : Str} {px py pz pt pos lp lp2 pt2 : Pos} {kt k2 : Nat} {W W1 : List Ow} {ρ : Rho} {r s t : Sl} {sts : List Stmt} {o : Oc}
theorem s_par (i j : Nat) (ha : PA X [a, b] (tA W ρ [r, s] W1)) (hN : X.N.Nodup) (hc : X.calm = true := by rfl) (hi : X.N[i]? = some x := by rfl) (hj : X.N[j]? = some y := by rfl) (hij : i ≠ j := by decide)
    (hx : X.env.scope.names.lookup x = some .local := by rfl) (hy : X.env.scope.names.lookup y = some .local := by rfl) (hw : swappedStores [.Tuple [.Name x px, .Name y py] kt pt] (.Tuple [a, b] k2 pt2) X.env = pure (some [x, y]) := by rfl)
    (hs : swapsWithSole [.Tuple [.Name x px, .Name y py] kt pt] (.Tuple [a, b] k2 pt2) pos.line X.env = pure false := by rfl) :
    PS X (.Assign [.Tuple [.Name x px, .Name y py] kt pt] (.Tuple [a, b] k2 pt2) pos) (oS W ρ (.nx W1 ((ρ.set i (some r)).set j (some s)))) :=
  PSto (ps_par hc hN hi hj hij hx hy ha hw hs) fun D σ H ⟨Z, cf, k⟩ => ⟨Z, cf, fun vs H1 g1 d1 q1 => by
    obtain ⟨v, u, rfl, h1, h2⟩ := rpl_2 q1
    exact ⟨v, u, rfl, k _ _ g1 (((cf.go g1 d1).set h1 i).set h2 j)⟩⟩
theorem s_par3 (i j l : Nat) (ha : PA X [a, b, c] (tA W ρ [r, s, t] W1)) (hN : X.N.Nodup) (hc : X.calm = true := by rfl) (hi : X.N[i]? = some x := by rfl) (hj : X.N[j]? = some y := by rfl) (hl : X.N[l]? = some z := by rfl) (hij : i ≠ j := by decide) (hil : i ≠ l := by decide) (hjl : j ≠ l := by decide)
    (hx : X.env.scope.names.lookup x = some .local := by rfl) (hy : X.env.scope.names.lookup y = some .local := by rfl) (hz : X.env.scope.names.lookup z = some .local := by rfl) (hw : swappedStores [.Tuple [.Name x px, .Name y py, .Name z pz] kt pt] (.Tuple [a, b, c] k2 pt2) X.env = pure (some [x, y, z]) := by rfl)
    (hs : swapsWithSole [.Tuple [.Name x px, .Name y py, .Name z pz] kt pt] (.Tuple [a, b, c] k2 pt2) pos.line X.env = pure false := by rfl) :
    PS X (.Assign [.Tuple [.Name x px, .Name y py, .Name z pz] kt pt] (.Tuple [a, b, c] k2 pt2) pos) (oS W ρ (.nx W1 (((ρ.set i (some r)).set j (some s)).set l (some t)))) :=
  PSto (ps_par3 hc hN hi hj hl hij hil hjl hx hy hz ha hw hs) fun D σ H ⟨Z, cf, k⟩ => ⟨Z, cf, fun vs H1 g1 d1 q1 => by
    obtain ⟨v, u, w, rfl, h1, h2, h3⟩ := rpl_3 q1
    exact ⟨v, u, w, rfl, k _ _ g1 ((((cf.go g1 d1).set h1 i).set h2 j).set h3 l)⟩⟩
/-- x, y, z = e, [], [] : two own lists -/
theorem h_par3n (i j l : Nat) (ha : PE X a (tE W ρ r W1)) (h : ∀ p q, PSs X sts (oS (.lst q [] :: .lst p [] :: W1) (((ρ.set i (some r)).set j (some (.v (.ref p)))).set l (some (.v (.ref q)))) o)) (hN : X.N.Nodup) (hc : X.calm = true := by rfl) (hi : X.N[i]? = some x := by rfl) (hj : X.N[j]? = some y := by rfl) (hl : X.N[l]? = some z := by rfl) (hij : i ≠ j := by decide) (hil : i ≠ l := by decide) (hjl : j ≠ l := by decide)
    (hx : X.env.scope.names.lookup x = some .local := by rfl) (hy : X.env.scope.names.lookup y = some .local := by rfl) (hz : X.env.scope.names.lookup z = some .local := by rfl) (hw : swappedStores [.Tuple [.Name x px, .Name y py, .Name z pz] kt pt] (.Tuple [a, .List [] lp, .List [] lp2] k2 pt2) X.env = pure (some [x, y, z]) := by rfl)
    (hs : swapsWithSole [.Tuple [.Name x px, .Name y py, .Name z pz] kt pt] (.Tuple [a, .List [] lp, .List [] lp2] k2 pt2) pos.line X.env = pure false := by rfl)
    (hst : starEach [a, .List [] lp, .List [] lp2] X.env = (false, eval a X.env) :: starEach [.List [] lp, .List [] lp2] X.env := by rfl) (hst2 : starEach [.List [] lp, .List [] lp2] X.env = (false, eval (.List [] lp) X.env) :: starEach [.List [] lp2] X.env := by rfl) (hst3 : starEach [.List [] lp2] X.env = (false, eval (.List [] lp2) X.env) :: starEach [] X.env := by rfl) :
    PSs X (.Assign [.Tuple [.Name x px, .Name y py, .Name z pz] kt pt] (.Tuple [a, .List [] lp, .List [] lp2] k2 pt2) pos :: sts) (oS W ρ o) := by
  have h' : PSs X sts (fun D σ H => ∃ p q, oS (.lst q [] :: .lst p [] :: W1) (((ρ.set i (some r)).set j (some (.v (.ref p)))).set l (some (.v (.ref q)))) o D σ H) := ⟨fun pins s σ H D I ⟨p, q, k⟩ => (h p q).run pins s σ H D I k⟩
  refine PSsto (pss_cons (ps_par3 hc hN hi hj hl hij hil hjl hx hy hz (pa_cons ha (pa_cons (pe_lst (pos := lp) pa_nil) (pa_cons (pe_lst (pos := lp2) pa_nil) pa_nil hst3) hst2) hst) hw hs) h') fun D σ H k => ?_
  have go : ∀ (Z : List Ow) (p q : Addr) (v : V) (H1 : Hp), Cf (Z ++ W1) ρ σ H1 → Rp (off (adrs (Z ++ W1)) H1) r v → H1 p = none → upd H1 p (.lst []) q = none →
      Cf (Z ++ .lst q [] :: .lst p [] :: W1) (((ρ.set i (some r)).set j (some (.v (.ref p)))).set l (some (.v (.ref q)))) (((σ.set i (some v)).set j (some (.ref p))).set l (some (.ref q))) (upd (upd H1 p (.lst [])) q (.lst [])) ∧
      Go (Z ++ W1) (Z ++ .lst q [] :: .lst p [] :: W1) H1 (upd (upd H1 p (.lst [])) q (.lst [])) := fun Z p q v H1 c hv hp hq => by
    obtain ⟨c1, g1⟩ := (c.set hv i).newL hp
    have c1' := c1.set (s := .v (.ref p)) rfl j
    obtain ⟨c2, g2⟩ := c1'.newL hq
    have c2' := c2.set (s := .v (.ref q)) rfl l
    have pm : (Z ++ .lst q [] :: .lst p [] :: W1).Perm (.lst q [] :: .lst p [] :: (Z ++ W1)) := mid.trans ((mid (Z := Z) (W := W1)).cons _)
    exact ⟨c2'.perm pm.symm, (g1.trans g2).permR pm.symm⟩
  cases o with
  | nx W2 ρ2 =>
    obtain ⟨Z, c, k⟩ := k
    refine ⟨Z, c, fun v H1 g1 d1 q1 => ⟨by decide, fun p hp => ⟨by decide, fun q hq => ⟨v, _, _, rfl, p, q, ?_⟩⟩⟩⟩
    obtain ⟨c1, g2⟩ := go Z p q v H1 (c.go g1 d1) q1 hp hq
    exact ⟨Z, c1, fun σ2 H2 g3 c2 => k σ2 H2 ((g1.trans g2).trans g3) c2⟩
  | rt r W2 =>
    obtain ⟨Z, c, k⟩ := k
    refine ⟨Z, c, fun v H1 g1 d1 q1 => ⟨by decide, fun p hp => ⟨by decide, fun q hq => ⟨v, _, _, rfl, p, q, ?_⟩⟩⟩⟩
    obtain ⟨c1, g2⟩ := go Z p q v H1 (c.go g1 d1) q1 hp hq
    exact ⟨Z, c1, fun v2 H2 g3 d2 q2 => k v2 H2 ((g1.trans g2).trans g3) d2 q2⟩
end
end SG
set_option Elab.async false
set_option linter.all false
set_option maxRecDepth 100000
set_option maxHeartbeats 4000000
namespace SG
open PySem PySem.Spec PyProof.Rows L2
/-! drawn lots, drawn things of some -/
def lotF : List Nat → LS → List Nat × LS
  | [], s => ([], s)
  | p :: ps, s => (if (draw s 2).1 = 1 then p :: (lotF ps (draw s 2).2).1 else (lotF ps (draw s 2).2).1, (lotF ps (draw s 2).2).2)
def lotS (n : Nat) (s : LS) : List Nat × LS := lotF (List.range n) s
def lotStep (p : Nat) (s : LS) : Option PyData × LS := (if (draw s 2).1 = 1 then some (nD p) else none, (draw s 2).2)
theorem lotF_sel : ∀ (ps : List Nat) (s : LS), selS lotStep ps s = ((lotF ps s).1.map nD, (lotF ps s).2)
  | [], s => rfl
  | p :: ps, s => by
    have ih := lotF_sel ps (draw s 2).2
    simp only [selS, lotF, lotStep]
    rw [show selS lotStep ps (draw s 2).2 = _ from ih]
    by_cases h : (draw s 2).1 = 1
    · simp [h]
    · simp [h]
theorem lotF_ok : ∀ (ps : List Nat) {b : Nat} {s : LS}, OkS b s → OkS (b + ps.length) (lotF ps s).2
  | [], b, s, h => h
  | p :: ps, b, s, h => (lotF_ok ps (draw_ok h 2)).mono (by simp only [List.length_cons]; omega)
theorem lotF_sub : ∀ (ps : List Nat) (s : LS), (lotF ps s).1.Sublist ps
  | [], s => List.Sublist.slnil
  | p :: ps, s => by
    simp only [lotF]
    split
    · exact (lotF_sub ps _).cons₂ p
    · exact (lotF_sub ps _).cons p
theorem lotS_ok {n b : Nat} {s : LS} (h : OkS b s) : OkS (b + n) (lotS n s).2 := by
  have := lotF_ok (List.range n) h
  rwa [List.length_range] at this
theorem lotS_lot (n : Nat) (s : LS) : (lotS n s).1.Pairwise (· < ·) ∧ (∀ p ∈ (lotS n s).1, p < n) ∧ (lotS n s).1.length ≤ n :=
  ⟨List.pairwise_lt_range.sublist (lotF_sub _ s), fun p hp => List.mem_range.mp ((lotF_sub _ s).subset hp), by have := (lotF_sub (List.range n) s).length_le; rwa [List.length_range] at this⟩
def ofS (ds : List PyData) (s : LS) : PyData × LS := (ds.getD (draw s ds.length).1 .none, (draw s ds.length).2)
section
variable {P : Program} {w : World} {K : PySem.W.Frag} {mg : Str → Option Value} {base : Heap}
inductive F_law_lot : Spec
  | mk {A : LAd} {s : LS} {n : Nat} (h : OkS 900000 s) (hn : n ≤ 9) : F_law_lot (SW A s) [stV A, I_ (n : Nat)] (.d (lotD (lotS n s).1)) (SW A (lotS n s).2)
theorem sc_law_lot : FnScope ["_law_state", "_law_points", "_law_point"] ["_law_state", "_law_points"] (C8.fnScope s_law_lot) := ⟨rfl, rfl, rfl, by decide +kernel, rfl, by decide +kernel, by decide +kernel⟩
theorem f_law_lot (T : Top K mg) : Fn P w K mg base false 3 "_law_lot" F_law_lot := by
  refine Fn.of T.s_law_lot sc_law_lot (fun _ _ _ _ _ _ us hl => match us, hl with | [_, _], _ => rfl) (by rintro _ _ _ _ ⟨⟩ <;> rfl) fun f cdv A outer s H E hr W rs r W' hF => ?_
  cases hF with | @mk B s0 n h hn =>
  have hz : (List.range n).length < sizeLine := by rw [List.length_range]; exact Nat.lt_of_le_of_lt hn (by decide)
  have e2 : (lotS n s0).2 = (selS lotStep (List.range n) s0).2 := by rw [lotF_sel]; rfl
  have e1 : (selS lotStep (List.range n) s0).1 = (lotS n s0).1.map nD := by rw [lotF_sel]; rfl
  rw [e2]
  refine h_one (s_ret (r_calT (a_cons (e_to (.d (nlD (lotS n s0).1)) (e_comp (comp_G [("_law_point", 2)] 2 (xs := List.range n) (gg := nD) (fun j s => OkS (900000 + j) s ∧ j ≤ n) lotStep (fun _ s => (draw s 2).2) (SW B) s0 (i_rgN T.b_range (a_cons (e_var 1) a_nil) (by first | assumption | omega | decide)) sc_law_lot.nd hz ⟨h, Nat.zero_le _⟩ (fun j a s e hs => ⟨(draw_ok hs.1 2).mono (by omega), ?_⟩) (fun a s _ => rfl)
    (fun j a s e hs s' H C cl fp => s_one (t_eq (rt_cmp (r_callS (f_law_draw T) (hr.mono (by decide)) (a_cons (e_var 0) (a_cons e_nat a_nil)) (.mk (hs.1.mono (by omega)) (by decide) (by decide))) e_nat c_eqN) ?_)) (fun j a s d e hs hd s' H C cl fp => ?_) (fun s H C cl fp => g_nm 2 sc_law_lot.nd))) ?_) a_nil) f_tuple T.b_tuple rfl))
  · have := (List.getElem?_eq_some_iff.mp e).1
    rw [List.length_range] at this
    omega
  · show _ = (if (draw s 2).1 = 1 then some (nD a) else none).isSome
    by_cases h1 : (draw s 2).1 = 1 <;> simp [h1]
  · have hd' : (if (draw s 2).1 = 1 then some (nD a) else none) = some d := hd
    have e3 : d = nD a := by
      by_cases h1 : (draw s 2).1 = 1
      · rw [if_pos h1] at hd'; exact (Option.some.inj hd').symm
      · rw [if_neg h1] at hd'; cases hd'
    rw [e3]
    exact (e_var 2)
  · rw [e1]
    rfl
inductive F_law_of : Spec
  | mk1 {A : LAd} {s : LS} {ds : List PyData} (h : OkS 1000000 s) (h0 : 0 < ds.length) (h1 : ds.length < 1000000) : F_law_of (SW A s) [stV A, .d (.list ds)] (.d (ofS ds s).1) (SW A (ofS ds s).2)
theorem sc_law_of : FnScope ["_law_state", "_law_some"] ["_law_state", "_law_some"] (C8.fnScope s_law_of) := ⟨rfl, rfl, rfl, by decide +kernel, rfl, by decide +kernel, by decide +kernel⟩
theorem f_law_of (T : Top K mg) : Fn P w K mg base false 3 "_law_of" F_law_of := by
  refine Fn.of T.s_law_of sc_law_of (fun _ _ _ _ _ _ us hl => match us, hl with | [_, _], _ => rfl) (by rintro _ _ _ _ ⟨⟩ <;> rfl) fun f cdv A outer s H E hr W rs r W' hF => ?_
  cases hF with | @mk1 B s0 ds h h0 h1 =>
  have hlt := draw_lt (s := s0) h0
  have e : ds[(draw s0 ds.length).1]? = some (ds.getD (draw s0 ds.length).1 .none) := by
    rw [List.getD_eq_getElem?_getD, List.getElem?_eq_getElem hlt]; rfl
  exact h_one (s_ret (r_ix (e_var 1) (r_callS (f_law_draw T) (hr.mono (by decide)) (a_cons (e_var 0) (a_cons (r_calB (a_cons (e_var 1) a_nil) f_len T.b_len rfl) a_nil)) (.mk h h0 h1)) (x_lst (atI_nat e))))
def lineI (a j : Nat) : List (List Nat × Nat) := (List.range (a + 2 + j - (a + 1))).map fun m => ([a, a + 2 + j], a + 1 + m)
def lineO (n i : Nat) : List (List Nat × Nat) := (List.range i).flatMap fun a => (List.range (n - (a + 2))).flatMap (lineI a)
theorem line_bd : ∀ n < 6, ∀ i < 6, ∀ j < 6, (lineO n i ++ (List.range j).flatMap (lineI i)).length ≤ 5000 := by decide +kernel
inductive F_law_line : Spec
  | mk {n : Nat} (h : n ≤ 5) : F_law_line [] [I_ (n : Nat)] (.d (.list ((lineL n).map ruD))) []
theorem sc_law_line : FnScope ["_law_points", "_law_found", "_law_one", "_law_other", "_law_here"] ["_law_points"] (C8.fnScope s_law_line) := ⟨rfl, rfl, rfl, by decide +kernel, rfl, by decide +kernel, by decide +kernel⟩
theorem f_law_line (T : Top K mg) : Fn P w K mg base false 1 "_law_line" F_law_line := by
  refine Fn.of T.s_law_line sc_law_line (fun _ _ _ _ _ _ us hl => match us, hl with | [_], _ => rfl) (by rintro _ _ _ _ ⟨⟩ <;> rfl) fun f cdv A outer s H E hr W rs r W' hF => ?_
  cases hF with | @mk n h =>
  refine h_new 1 (fun p => ?_) sc_law_line.nd
  refine h_cons (s_forI (fun i => [.lst p ((lineO n i).map ruD)]) (fun _ => [some (I_ (n : Nat)), some (.v (.ref p)), none, none, none]) 2 (xs := List.range n) (gg := nD) (i_rgN T.b_range (a_cons (e_var 0) a_nil) (by first | assumption | omega | decide)) sc_law_line.nd (by repeat (first | exact trivial | refine ⟨.inr rfl, ?_⟩ | refine ⟨.inl rfl, ?_⟩)) fun i a ha => ?_) ?_
  · have hj : i < n ∧ a = i := by
      obtain ⟨h1, h2⟩ := List.getElem?_eq_some_iff.mp ha
      rw [List.getElem_range] at h2
      exact ⟨by simpa using h1, h2.symm⟩
    obtain ⟨hin, rfl⟩ := hj
    refine hs_wk (ρ1 := [some (I_ (n : Nat)), some (.v (.ref p)), some (I_ (a : Nat)), none, none]) ?_ (by repeat (first | exact trivial | refine ⟨.inr rfl, ?_⟩ | refine ⟨.inl rfl, ?_⟩))
    have e0 : lineO n (a + 1) = lineO n a ++ (List.range (n - (a + 2))).flatMap (lineI a) := by
      unfold lineO
      rw [List.range_succ, List.flatMap_append]
      simp
    have e00 : (lineO n a).map ruD = (lineO n a ++ (List.range 0).flatMap (lineI a)).map ruD := by simp
    rw [e0, e00]
    refine h_one ?_
    have el : (List.range (n - (a + 2))).length = n - (a + 2) := List.length_range
    rw [← el]
    refine s_forI (fun j => [.lst p ((lineO n a ++ (List.range j).flatMap (lineI a)).map ruD)]) (fun _ => [some (I_ (n : Nat)), some (.v (.ref p)), some (I_ (a : Nat)), none, none]) 3 (xs := List.range (n - (a + 2))) (gg := fun j => nD (a + 2 + j)) (i_rgN2 T.b_range (a_cons (r_bin (e_var 2) e_nat b_addN) (a_cons (e_var 0) a_nil)) (by first | assumption | omega | decide)) sc_law_line.nd (by repeat (first | exact trivial | refine ⟨.inr rfl, ?_⟩ | refine ⟨.inl rfl, ?_⟩)) fun j b hb => ?_
    have hj : j < n - (a + 2) ∧ b = j := by
      obtain ⟨h1, h2⟩ := List.getElem?_eq_some_iff.mp hb
      rw [List.getElem_range] at h2
      exact ⟨by simpa using h1, h2.symm⟩
    obtain ⟨hjn, rfl⟩ := hj
    have e1 : (List.range (b + 1)).flatMap (lineI a) = (List.range b).flatMap (lineI a) ++ lineI a b := by
      rw [List.range_succ, List.flatMap_append]
      simp
    rw [e1, ← List.append_assoc, List.map_append (l₂ := lineI a b)]
    have lz : ((lineO n a ++ (List.range b).flatMap (lineI a)).map ruD).length + ((lineI a b).map ruD).length ≤ sizeLine := by
      have := line_bd n (by omega) a (by omega) (b + 1) (by omega)
      rw [e1, ← List.append_assoc, List.length_append] at this
      rw [List.length_map, List.length_map]
      exact Nat.le_trans this (by decide)
    exact hs_wk (h_one (s_extend 1 (e_to (.d (.list ((lineI a b).map ruD))) (e_comp (comp_M [("_law_here", 4)] 4 (f := fun m => PyData.tuple [lotD [a, a + 2 + b], nD (a + 1 + m)]) (xs := List.range (a + 2 + b - (a + 1))) (gg := fun m => nD (a + 1 + m)) (i_rgN2 (m := a + 1) (n := a + 2 + b) T.b_range (a_cons (r_bin (e_var 2) e_nat (b_addN (i := a) (j := 1))) (a_cons (e_var 3) a_nil)) ⟨by omega, by omega⟩) sc_law_line.nd (by first | assumption | omega | (rw [List.length_range]; exact Nat.lt_of_le_of_lt (show _ ≤ 20 by omega) (by decide)) | decide) (fun x hx s H C cl fp => (e_tup2 (a_cons (e_to (.d (lotD [a, a + 2 + b])) (e_tup2 (a_cons (e_var 2) (a_cons (e_var 3) a_nil))) rfl) (a_cons (e_var 4) a_nil)))) (fun s H C cl fp => g_nm 4 sc_law_line.nd))) (by unfold lineI; rw [List.map_map]; rfl)) lz)) (by repeat (first | exact trivial | refine ⟨.inr rfl, ?_⟩ | refine ⟨.inl rfl, ?_⟩))
  · rw [List.length_range]
    refine h_frz 1 ?_
    exact h_one (s_ret (e_var 1))
end
end SG
set_option Elab.async false
set_option linter.all false
set_option maxRecDepth 100000
set_option maxHeartbeats 4000000
namespace SG
open PySem PySem.Spec PyProof.Rows L2
/-! a drawn space -/
structure DrS where
  ls : List (List Nat)
  fs : List (List Nat × Nat)
  s : LS
def drT (n : Nat) (s : LS) : Nat → DrS
  | 0 => ⟨[], [], s⟩
  | j + 1 => ⟨(drT n s j).ls ++ [(lotS n (drT n s j).s).1],
      if (!(lotS n (drT n s j).s).1.isEmpty && !decide ((draw (lotS n (drT n s j).s).2 n).1 ∈ (lotS n (drT n s j).s).1)) = true then (drT n s j).fs ++ [((lotS n (drT n s j).s).1, (draw (lotS n (drT n s j).s).2 n).1)] else (drT n s j).fs,
      (draw (lotS n (drT n s j).s).2 n).2⟩
def drawn (n : Nat) (s : LS) : Sp2 × LS :=
  if (draw s 6).1 = 0 then (madeL n (lawLots n), (draw s 6).2)
  else if (draw s 6).1 = 1 then (byRules n (lineL n), (draw s 6).2)
  else (if (draw s 6).1 < 4 then metL n (drT n (draw (draw s 6).2 6).2 (draw (draw s 6).2 6).1).ls else byRules n (drT n (draw (draw s 6).2 6).2 (draw (draw s 6).2 6).1).fs, (drT n (draw (draw s 6).2 6).2 (draw (draw s 6).2 6).1).s)
theorem drT_ok {n b : Nat} {s : LS} (h : OkS b s) : ∀ j, OkS (b + (n + 1) * j) (drT n s j).s
  | 0 => h
  | j + 1 => (draw_ok (lotS_ok (drT_ok h j)) n).mono (by rw [Nat.mul_succ]; omega)
theorem drT_len (n : Nat) (s : LS) : ∀ j, (drT n s j).ls.length = j ∧ (drT n s j).fs.length ≤ j
  | 0 => ⟨rfl, Nat.le_refl _⟩
  | j + 1 => by
    obtain ⟨h1, h2⟩ := drT_len n s j
    refine ⟨by simp [drT, h1], ?_⟩
    simp only [drT]
    split
    · simp; omega
    · omega
theorem drT_rows (n : Nat) (s : LS) : ∀ j, (∀ l ∈ (drT n s j).ls, l.Pairwise (· < ·) ∧ (∀ p ∈ l, p < n) ∧ l.length ≤ n) ∧ ∀ g ∈ (drT n s j).fs, g.1.Pairwise (· < ·) ∧ (∀ p ∈ g.1, p < n) ∧ g.1.length ≤ n
  | 0 => ⟨(fun l hl => nomatch hl), (fun l hl => nomatch hl)⟩
  | j + 1 => by
    obtain ⟨h1, h2⟩ := drT_rows n s j
    refine ⟨fun l hl => ?_, fun g hg => ?_⟩
    · rcases List.mem_append.mp (show l ∈ (drT n s j).ls ++ [_] from hl) with z | z
      · exact h1 l z
      · rw [List.mem_singleton.mp z]; exact lotS_lot n _
    · simp only [drT] at hg
      split at hg
      · rcases List.mem_append.mp hg with z | z
        · exact h2 g z
        · rw [List.mem_singleton.mp z]; exact lotS_lot n _
      · exact h2 g hg
theorem drawn_ok {n b : Nat} {s : LS} (hn : n ≤ 5) (h : OkS b s) : OkS (b + 40) (drawn n s).2 := by
  have h1 := draw_ok h 6
  unfold drawn
  split
  · exact h1.mono (by omega)
  · split
    · exact h1.mono (by omega)
    · have h2 := draw_ok h1 6
      have h3 := drT_ok (n := n) h2 (draw (draw s 6).2 6).1
      have h4 := draw_lt (s := (draw s 6).2) (m := 6) (by decide)
      refine h3.mono ?_
      have : (n + 1) * (draw (draw s 6).2 6).1 ≤ 6 * 5 := Nat.mul_le_mul (by omega) (by omega)
      omega
section
variable {P : Program} {w : World} {K : PySem.W.Frag} {mg : Str → Option Value} {base : Heap}
inductive F_law_drawn : Spec
  | mk {A : LAd} {s : LS} {n : Nat} (h : OkS 800000 s) (h0 : 1 ≤ n) (hn : n ≤ 5) : F_law_drawn (SW A s) [stV A, I_ (n : Nat)] (.d (spD (drawn n s).1)) (SW A (drawn n s).2)
theorem sc_law_drawn : FnScope ["_law_state", "_law_points", "_law_way", "_law_some", "_law_found", "_law_k", "_law_lot_here", "_law_point"] ["_law_state", "_law_points"] (C8.fnScope s_law_drawn) := ⟨rfl, rfl, rfl, by decide +kernel, rfl, by decide +kernel, by decide +kernel⟩
theorem f_law_drawn (T : Top K mg) : Fn P w K mg base false 5 "_law_drawn" F_law_drawn := by
  refine Fn.of T.s_law_drawn sc_law_drawn (fun _ _ _ _ _ _ us hl => match us, hl with | [_, _], _ => rfl) (by rintro _ _ _ _ ⟨⟩ <;> rfl) fun f cdv A outer s H E hr W rs r W' hF => ?_
  cases hF with | @mk B s0 n h h0 hn =>
  have d1 := draw_ok h 6
  have hlz : (lawLots n).length < sizeLine := by rw [lots_len]; exact Nat.lt_of_le_of_lt (p2_le (by omega)) (by decide)
  refine h_par3n 2 3 4 (r_callS (f_law_draw T) (hr.mono (by decide)) (a_cons (e_var 0) (a_cons e_nat a_nil)) (.mk (h.mono (by omega)) (by decide) (by decide))) (fun p q => ?_) sc_law_drawn.nd
  by_cases w0 : (draw s0 6).1 = 0
  · have e : drawn n s0 = (madeL n (lawLots n), (draw s0 6).2) := if_pos w0
    rw [e]
    refine h_frz 4 (h_frz 3 ?_)
    exact h_ifT (t_eq (rt_cmp (e_var 2) e_nat c_eqN) (decide_eq_true w0)) (h_one (s_ret (r_callP (f_law_made T) (hr.mono (by decide)) (a_cons (e_var 1) (a_cons (r_callP (f_law_lots T) (hr.mono (by decide)) (a_cons (e_var 1) a_nil) (.mk (by first | assumption | omega | decide))) a_nil)) (.mk (by first | assumption | omega | decide)))))
  by_cases w1 : (draw s0 6).1 = 1
  · have e : drawn n s0 = (byRules n (lineL n), (draw s0 6).2) := (if_neg w0).trans (if_pos w1)
    rw [e]
    have l1 : (lineL n).length < sizeLine ∧ ∀ g ∈ lineL n, g.1.length < sizeLine := by
      have : ∀ n < 6, (lineL n).length ≤ 5000 ∧ ∀ g ∈ lineL n, g.1.length ≤ 2 := by decide +kernel
      obtain ⟨k1, k2⟩ := this n (by omega)
      exact ⟨Nat.lt_of_le_of_lt k1 (by decide), fun g hg => Nat.lt_of_le_of_lt (k2 g hg) (by decide)⟩
    refine h_frz 4 (h_frz 3 ?_)
    refine h_ifF (t_eq (rt_cmp (e_var 2) e_nat c_eqN) (decide_eq_false w0)) ?_
    exact h_ifT (t_eq (rt_cmp (e_var 2) e_nat c_eqN) (decide_eq_true w1)) (h_one (s_ret (r_callP (f_law_by_rules T) (hr.mono (by decide)) (a_cons (e_var 1) (a_cons (r_callP (f_law_line T) (hr.mono (by decide)) (a_cons (e_var 1) a_nil) (.mk (by first | assumption | omega | decide))) a_nil)) (.mk (by omega) l1.1 l1.2))))
  refine h_ifF (t_eq (rt_cmp (e_var 2) e_nat c_eqN) (decide_eq_false w0)) ?_
  refine h_ifF (t_eq (rt_cmp (e_var 2) e_nat c_eqN) (decide_eq_false w1)) ?_
  have d2 := draw_ok d1 6
  have m6 := draw_lt (s := (draw s0 6).2) (m := 6) (by decide)
  have e : drawn n s0 = (if (draw s0 6).1 < 4 then metL n (drT n (draw (draw s0 6).2 6).2 (draw (draw s0 6).2 6).1).ls else byRules n (drT n (draw (draw s0 6).2 6).2 (draw (draw s0 6).2 6).1).fs, (drT n (draw (draw s0 6).2 6).2 (draw (draw s0 6).2 6).1).s) := (if_neg w0).trans (if_neg w1)
  rw [e]
  generalize hm : (draw (draw s0 6).2 6).1 = m at m6
  generalize hs1 : (draw (draw s0 6).2 6).2 = s1 at d2
  have ok : ∀ j ≤ m, OkS 800100 (drT n s1 j).s := fun j hj => (drT_ok d2 j).mono (by
    have : (n + 1) * j ≤ 6 * 5 := Nat.mul_le_mul (by omega) (by omega)
    omega)
  refine h_cons (s_forI (fun j => [.lst q ((drT n s1 j).fs.map ruD), .lst p ((drT n s1 j).ls.map lotD), .raw B.a (.dK (stK B (drT n s1 j).s.at_)), .raw B.l (.lst ((drT n s1 j).s.lefts.map V.int)), .raw B.c (.lst ((drT n s1 j).s.cells.map V.int))]) (fun _ => [some (stV B), some (I_ (n : Nat)), some (I_ ((draw s0 6).1 : Nat)), some (.v (.ref p)), some (.v (.ref q)), none, none, none]) 5 (xs := List.range m) (gg := nD) (i_rgN T.b_range (a_cons (e_to (I_ (m : Nat)) (by rw [← hs1]; exact (r_callS2 (f_law_draw T) (hr.mono (by decide)) (a_cons (e_var 0) (a_cons e_nat a_nil)) (.mk (d1.mono (by omega)) (by decide) (by decide)))) (by rw [hm])) a_nil) (by omega)) sc_law_drawn.nd (by repeat (first | exact trivial | refine ⟨.inr rfl, ?_⟩ | refine ⟨.inl rfl, ?_⟩)) fun j a ha => ?_) ?_
  · have hj : j < m ∧ a = j := by
      obtain ⟨h1, h2⟩ := List.getElem?_eq_some_iff.mp ha
      rw [List.getElem_range] at h2
      exact ⟨by simpa using h1, h2.symm⟩
    obtain ⟨hjm, rfl⟩ := hj
    have o1 := ok a (by omega)
    have o2 := lotS_ok (n := n) o1
    obtain ⟨k1, k2⟩ := drT_len n s1 a
    have z1 : ((drT n s1 a).ls.map lotD).length < sizeLine := by rw [List.length_map]; exact Nat.lt_of_le_of_lt (show _ ≤ 6 by omega) (by decide)
    have z2 : ((drT n s1 a).fs.map ruD).length < sizeLine := by rw [List.length_map]; exact Nat.lt_of_le_of_lt (show _ ≤ 6 by omega) (by decide)
    have e1 : (drT n s1 (a + 1)).ls = (drT n s1 a).ls ++ [(lotS n (drT n s1 a).s).1] := rfl
    have e2 : (drT n s1 (a + 1)).s = (draw (lotS n (drT n s1 a).s).2 n).2 := rfl
    have e3 : (drT n s1 (a + 1)).fs = if (!(lotS n (drT n s1 a).s).1.isEmpty && !decide ((draw (lotS n (drT n s1 a).s).2 n).1 ∈ (lotS n (drT n s1 a).s).1)) = true then (drT n s1 a).fs ++ [((lotS n (drT n s1 a).s).1, (draw (lotS n (drT n s1 a).s).2 n).1)] else (drT n s1 a).fs := rfl
    rw [e1, e2, e3, List.map_append]
    generalize drT n s1 a = t at o1 o2 z1 z2
    refine hs_wk (ρ1 := [some (stV B), some (I_ (n : Nat)), some (I_ ((draw s0 6).1 : Nat)), some (.v (.ref p)), some (.v (.ref q)), some (I_ (a : Nat)), some (.d (lotD (lotS n t.s).1)), some (I_ ((draw (lotS n t.s).2 n).1 : Nat))]) ?_ (by repeat (first | exact trivial | refine ⟨.inr rfl, ?_⟩ | refine ⟨.inl rfl, ?_⟩))
    refine h_cons (s_par 6 7 (a_cons (r_callS2 (f_law_lot T) (hr.mono (by decide)) (a_cons (e_var 0) (a_cons (e_var 1) a_nil)) (.mk (o1.mono (by omega)) (by omega))) (a_cons (r_callS2 (f_law_draw T) (hr.mono (by decide)) (a_cons (e_var 0) (a_cons (e_var 1) a_nil)) (.mk (o2.mono (by omega)) (by omega) (by omega))) a_nil)) sc_law_drawn.nd) ?_
    generalize (lotS n t.s).1 = l
    generalize (draw (lotS n t.s).2 n).2 = s2
    generalize (draw (lotS n t.s).2 n).1 = x
    refine h_cons (s_permW (W' := .lst p (t.ls.map lotD) :: .lst q (t.fs.map ruD) :: SW B s2) (List.Perm.swap _ _ _) (s_permN (List.Perm.swap _ _ _) (s_append 3 (e_var 6) z1))) ?_
    refine h_one (h_if (k := !l.isEmpty && !decide (x ∈ l)) (PW.pt (w_andP (rt_cmp (e_var 6) e_nilT (c_lot0n hr.units)) (w_and1 (rt_cmp (e_var 7) (e_var 6) c_niN)))) (fun hc => ?_) (fun hc => ?_))
    · rw [if_pos hc, List.map_append]
      exact h_one (s_append 4 (e_tup2 (a_cons (e_var 6) (a_cons (e_var 7) a_nil))) z2)
    · rw [if_neg (by rw [hc]; decide)]
      exact h_nil
  · rw [List.length_range]
    obtain ⟨k1, k2⟩ := drT_len n s1 m
    obtain ⟨k3, k4⟩ := drT_rows n s1 m
    generalize drT n s1 m = t at k1 k2 k3 k4
    have z1 : t.fs.length < sizeLine := Nat.lt_of_le_of_lt (show _ ≤ 6 by omega) (by decide)
    have z2 : ∀ g ∈ t.fs, g.1.length < sizeLine := fun g hg => Nat.lt_of_le_of_lt (Nat.le_trans (k4 g hg).2.2 hn) (by decide)
    have z3 : ∀ l ∈ t.ls, l.length < sizeLine := fun l hl => Nat.lt_of_le_of_lt (Nat.le_trans (k3 l hl).2.2 hn) (by decide)
    refine h_frz 4 (h_frz 3 (h_one (s_ret ?_)))
    by_cases w4 : (draw s0 6).1 < 4
    · rw [if_pos w4]
      exact e_ifT (t_eq (rt_cmp (e_var 2) e_nat c_ltN) (decide_eq_true w4)) (r_callP (f_law_met T) (hr.mono (by decide)) (a_cons (e_var 1) (a_cons (e_var 3) a_nil)) (.mk (by omega) (by omega) z3))
    · rw [if_neg w4]
      exact e_ifF (t_eq (rt_cmp (e_var 2) e_nat c_ltN) (decide_eq_false w4)) (r_callP (f_law_by_rules T) (hr.mono (by decide)) (a_cons (e_var 1) (a_cons (e_var 4) a_nil)) (.mk (by omega) z1 z2))
end
end SG
set_option Elab.async false
set_option linter.all false
set_option maxRecDepth 100000
set_option maxHeartbeats 4000000
namespace SG
open PySem PySem.Spec PyProof.Rows L2
/-! a drawn system -/
def crewF (n : Nat) : List Nat → LS → List (List Nat) × LS
  | [], s => ([], s)
  | _ :: ks, s => ((lotS n s).1 :: (crewF n ks (lotS n s).2).1, (crewF n ks (lotS n s).2).2)
def crewStep (n : Nat) (_ : Nat) (s : LS) : Option PyData × LS := (some (lotD (lotS n s).1), (lotS n s).2)
theorem crewF_sel (n : Nat) : ∀ (ks : List Nat) (s : LS), selS (crewStep n) ks s = ((crewF n ks s).1.map lotD, (crewF n ks s).2)
  | [], s => rfl
  | k :: ks, s => by
    have ih := crewF_sel n ks (lotS n s).2
    simp only [selS, crewF, crewStep]
    rw [show selS (crewStep n) ks (lotS n s).2 = _ from ih]
    simp
theorem crewF_ok (n : Nat) : ∀ (ks : List Nat) {b : Nat} {s : LS}, OkS b s → OkS (b + n * ks.length) (crewF n ks s).2
  | [], b, s, h => h
  | k :: ks, b, s, h => (crewF_ok n ks (lotS_ok (n := n) h)).mono (by rw [List.length_cons, Nat.mul_succ]; omega)
theorem crewF_len (n : Nat) : ∀ (ks : List Nat) (s : LS), (crewF n ks s).1.length = ks.length
  | [], s => rfl
  | k :: ks, s => by simp [crewF, crewF_len n ks]
theorem crewF_lot (n : Nat) : ∀ (ks : List Nat) (s : LS), ∀ l ∈ (crewF n ks s).1, l.Pairwise (· < ·) ∧ (∀ p ∈ l, p < n) ∧ l.length ≤ n
  | [], s, l, h => nomatch h
  | k :: ks, s, l, h => by
    rcases List.mem_cons.mp (show l ∈ _ :: _ from h) with z | z
    · rw [z]; exact lotS_lot n s
    · exact crewF_lot n ks _ l z
theorem putP_keys {α : Type} (kvs : List (List Nat × α)) (k : List Nat) (v : α) : (putP kvs k v).map (·.1) = if k ∈ kvs.map (·.1) then kvs.map (·.1) else kvs.map (·.1) ++ [k] := by
  have e : (kvs.any fun kv => decide (kv.1 = k)) = decide (k ∈ kvs.map (·.1)) := by
    rw [Bool.eq_iff_iff, List.any_eq_true, decide_eq_true_eq, List.mem_map]
    exact ⟨fun ⟨x, h1, h2⟩ => ⟨x, h1, of_decide_eq_true h2⟩, fun ⟨x, h1, h2⟩ => ⟨x, h1, decide_eq_true h2⟩⟩
  unfold putP
  rw [e]
  by_cases h : k ∈ kvs.map (·.1)
  · rw [if_pos (decide_eq_true h), if_pos h, List.map_map]
    refine List.map_congr_left fun x _ => ?_
    show (if x.1 = k then (x.1, v) else x).1 = x.1
    split <;> rfl
  · rw [if_neg (by simpa using h), if_neg h, List.map_append]
    rfl
def insK (acc : List (List Nat)) (k : List Nat) : List (List Nat) := if k ∈ acc then acc else acc ++ [k]
theorem keysOf_eq (ls : List (List Nat)) : keysOf ls = ls.foldl insK [] := by
  have key : ∀ (ls : List (List Nat)) (acc : List (List Nat × PyData)), (((ls.map fun l => (l, PyData.bool true)).foldl (fun acc p => putP acc p.1 p.2) acc).map (·.1)) = ls.foldl insK (acc.map (·.1)) := by
    intro ls
    induction ls with
    | nil => intro acc; rfl
    | cons l ls ih =>
      intro acc
      rw [List.map_cons, List.foldl_cons, ih, putP_keys]
      rfl
  exact key ls []
theorem insK_mem {acc : List (List Nat)} {k l : List Nat} : l ∈ insK acc k ↔ l ∈ acc ∨ l = k := by
  unfold insK
  split
  · rename_i h
    exact ⟨.inl, fun z => z.elim id fun e => e ▸ h⟩
  · simp
theorem insK_fold (ls : List (List Nat)) : ∀ acc : List (List Nat), (∀ l, l ∈ ls.foldl insK acc ↔ l ∈ acc ∨ l ∈ ls) ∧ (acc.Nodup → (ls.foldl insK acc).Nodup) := by
  induction ls with
  | nil => intro acc; exact ⟨fun l => by simp, id⟩
  | cons k ls ih =>
    intro acc
    obtain ⟨h1, h2⟩ := ih (insK acc k)
    refine ⟨fun l => ?_, fun hn => h2 ?_⟩
    · rw [List.foldl_cons, h1, insK_mem, List.mem_cons]
      constructor
      · rintro ((z | z) | z)
        · exact .inl z
        · exact .inr (.inl z)
        · exact .inr (.inr z)
      · rintro (z | z | z)
        · exact .inl (.inl z)
        · exact .inl (.inr z)
        · exact .inr z
    · unfold insK
      split
      · exact hn
      · rename_i hk
        exact List.nodup_append.mpr ⟨hn, by simp, fun a ha b hb z => hk (by rw [List.mem_singleton.mp hb] at z; exact z ▸ ha)⟩
theorem keysOf_mem {ls : List (List Nat)} {l : List Nat} : l ∈ keysOf ls ↔ l ∈ ls := by
  rw [keysOf_eq, (insK_fold ls []).1]
  simp
theorem keysOf_nd (ls : List (List Nat)) : (keysOf ls).Nodup := by
  rw [keysOf_eq]
  exact (insK_fold ls []).2 List.nodup_nil
def gangsOf (some' : List (List Nat)) : List (List Nat) := some'.filter fun c => (some'.filter fun f => !decide (f = c) && hasL f c).isEmpty
def crewsS (n : Nat) (s : LS) : List (List Nat) :=
  if (draw (crewF n (List.range (1 + (draw s 4).1)) (draw s 4).2).2 3).1 = 0 then (List.range n).map fun t => [t] else (crewF n (List.range (1 + (draw s 4).1)) (draw s 4).2).1
def systemS (n : Nat) (s : LS) : Sp2 × LS := ((n, gangsOf (sortL (keysOf (crewsS n s)))), (draw (crewF n (List.range (1 + (draw s 4).1)) (draw s 4).2).2 3).2)
theorem systemS_ok {n b : Nat} {s : LS} (hn : n ≤ 5) (h : OkS b s) : OkS (b + 30) (systemS n s).2 := by
  have h1 := draw_ok h 4
  have h2 := crewF_ok n (List.range (1 + (draw s 4).1)) h1
  have h3 := draw_ok h2 3
  have h4 := draw_lt (s := s) (m := 4) (by decide)
  refine h3.mono ?_
  rw [List.length_range]
  have : n * (1 + (draw s 4).1) ≤ 5 * 4 := Nat.mul_le_mul (by omega) (by omega)
  omega
section
variable {P : Program} {w : World} {K : PySem.W.Frag} {mg : Str → Option Value} {base : Heap}
inductive F_law_system : Spec
  | mk {A : LAd} {s : LS} {n : Nat} (h : OkS 800000 s) (h0 : 1 ≤ n) (hn : n ≤ 5) : F_law_system (SW A s) [stV A, I_ (n : Nat)] (.d (spD (systemS n s).1)) (SW A (systemS n s).2)
theorem sc_law_system : FnScope ["_law_state", "_law_crowd", "_law_crews", "_law_k", "_law_teller", "_law_some", "_law_crew", "_law_gangs", "_law_far"] ["_law_state", "_law_crowd"] (C8.fnScope s_law_system) := ⟨rfl, rfl, rfl, by decide +kernel, rfl, by decide +kernel, by decide +kernel⟩
theorem f_law_system (T : Top K mg) : Fn P w K mg base false 5 "_law_system" F_law_system := by
  refine Fn.of T.s_law_system sc_law_system (fun _ _ _ _ _ _ us hl => match us, hl with | [_, _], _ => rfl) (by rintro _ _ _ _ ⟨⟩ <;> rfl) fun f cdv A outer s H E hr W rs r W' hF => ?_
  cases hF with | @mk B s0 n h h0 hn =>
  have d1 := draw_ok h 4
  have m4 := draw_lt (s := s0) (m := 4) (by decide)
  have e1 : selS (crewStep n) (List.range (1 + (draw s0 4).1)) (draw s0 4).2 = ((crewF n (List.range (1 + (draw s0 4).1)) (draw s0 4).2).1.map lotD, (crewF n (List.range (1 + (draw s0 4).1)) (draw s0 4).2).2) := crewF_sel n _ _
  have hz : (List.range (1 + (draw s0 4).1)).length < sizeLine := by rw [List.length_range]; exact Nat.lt_of_le_of_lt (show _ ≤ 9 by omega) (by decide)
  have c2 := crewF_ok n (List.range (1 + (draw s0 4).1)) d1
  have cl := crewF_len n (List.range (1 + (draw s0 4).1)) (draw s0 4).2
  have cm := crewF_lot n (List.range (1 + (draw s0 4).1)) (draw s0 4).2
  refine h_cons (s_wk (s_setC 2 (comp_G [("_law_k", 3)] 3 (xs := List.range (1 + (draw s0 4).1)) (gg := nD) (fun j s => OkS (800001 + n * j) s ∧ j ≤ 9) (crewStep n) (fun _ s => s) (SW B) (draw s0 4).2 (i_rgN (n := 1 + (draw s0 4).1) T.b_range (a_cons (r_bin e_nat (r_callS (f_law_draw T) (hr.mono (by decide)) (a_cons (e_var 0) (a_cons e_nat a_nil)) (.mk (h.mono (by omega)) (by decide) (by decide))) b_addN) a_nil) (by omega)) sc_law_system.nd hz ⟨d1, Nat.zero_le _⟩ (fun j a s e hs => ⟨(lotS_ok (n := n) hs.1).mono (by rw [Nat.mul_succ]; omega), ?_⟩) (fun a s z => nomatch z)
    (fun j a s e hs s' H C cl fp => s_nil) (fun j a s d e hs hd s' H C cl fp => ?_) (fun s H C cl fp => g_nm 3 sc_law_system.nd))) (ρ2 := [some (stV B), some (I_ (n : Nat)), some (.d (llD (crewF n (List.range (1 + (draw s0 4).1)) (draw s0 4).2).1)), none, none, none, none, none, none]) ⟨.inr rfl, .inr rfl, .inr (by rw [e1]; rfl), .inr rfl, .inr rfl, .inr rfl, .inr rfl, .inr rfl, .inr rfl, trivial⟩) ?_
  · have := (List.getElem?_eq_some_iff.mp e).1
    rw [List.length_range] at this
    omega
  · obtain rfl := Option.some.inj hd
    exact r_callS (f_law_lot T) (hr.mono (by decide)) (a_cons (e_var 0) (a_cons (e_var 1) a_nil)) (.mk (hs.1.mono (by have := Nat.mul_le_mul hn hs.2; omega)) (by omega))
  rw [e1]
  have hok : OkS 800100 (crewF n (List.range (1 + (draw s0 4).1)) (draw s0 4).2).2 := c2.mono (by
    rw [List.length_range]
    have : n * (1 + (draw s0 4).1) ≤ 5 * 4 := Nat.mul_le_mul hn (by omega)
    omega)
  have es : systemS n s0 = ((n, gangsOf (sortL (keysOf (crewsS n s0)))), (draw (crewF n (List.range (1 + (draw s0 4).1)) (draw s0 4).2).2 3).2) := rfl
  rw [es]
  have ec : crewsS n s0 = if (draw (crewF n (List.range (1 + (draw s0 4).1)) (draw s0 4).2).2 3).1 = 0 then (List.range n).map fun t => [t] else (crewF n (List.range (1 + (draw s0 4).1)) (draw s0 4).2).1 := rfl
  rw [ec]
  rw [List.length_range] at cl
  generalize crewF n (List.range (1 + (draw s0 4).1)) (draw s0 4).2 = cr at hok cl cm
  have hrn : (List.range n).length < sizeLine := by rw [List.length_range]; exact Nat.lt_of_le_of_lt hn (by decide)
  generalize hcs : (if (draw cr.2 3).1 = 0 then (List.range n).map fun t => [t] else cr.1) = crews
  have lcs : crews.length ≤ 6 ∧ ∀ l ∈ crews, l.length ≤ 5 := by
    rw [← hcs]
    split
    · refine ⟨by rw [List.length_map, List.length_range]; omega, fun l hl => ?_⟩
      obtain ⟨t, _, rfl⟩ := List.mem_map.mp hl
      show 1 ≤ 5
      omega
    · exact ⟨by omega, fun l hl => Nat.le_trans (cm l hl).2.2 hn⟩
  have lk : (sortL (keysOf crews)).length < sizeLine := by
    rw [(sortL_perm _).length_eq]
    have := keysOf_len crews
    exact Nat.lt_of_le_of_lt (show _ ≤ 6 by omega) (by decide)
  have lcz : crews.length < sizeLine := Nat.lt_of_le_of_lt lcs.1 (by decide)
  have lsz : ∀ l ∈ sortL (keysOf crews), l.length < sizeLine := fun l hl => Nat.lt_of_le_of_lt (lcs.2 l (keysOf_mem.mp ((sortL_perm _).mem_iff.mp hl))) (by decide)
  refine h_cons (h_if (k := decide ((draw cr.2 3).1 = 0)) (o := .nx (SW B (draw cr.2 3).2) [some (stV B), some (I_ (n : Nat)), some (.d (llD crews)), none, none, none, none, none, none]) (rt_cmp (r_callS (f_law_draw T) (hr.mono (by decide)) (a_cons (e_var 0) (a_cons e_nat a_nil)) (.mk (hok.mono (by omega)) (by decide) (by decide))) e_nat c_eqN) (fun hc => ?_) (fun hc => ?_)) ?_
  · rw [if_pos (of_decide_eq_true hc)] at hcs
    subst hcs
    exact hs_wk (h_one (s_setC 2 (comp_M [("_law_teller", 4)] 4 (f := fun t => lotD [t]) (xs := List.range n) (i_rgN T.b_range (a_cons (e_var 1) a_nil) (by first | assumption | omega | decide)) sc_law_system.nd (by first | assumption | omega | decide) (fun a ha s H C cl fp => (e_to (.d (lotD [a])) (e_tup1 (a_cons (e_var 4) a_nil)) rfl)) (fun s H C cl fp => g_nm 4 sc_law_system.nd)))) ⟨.inr rfl, .inr rfl, .inr (by unfold llD; rw [List.map_map]; rfl), .inr rfl, .inr rfl, .inr rfl, .inr rfl, .inr rfl, .inr rfl, trivial⟩
  · rw [if_neg (of_decide_eq_false hc)] at hcs
    subst hcs
    exact h_nil
  refine h_cons (s_set 5 (e_sortDT hr.units (a_cons (r_calT (a_cons (e_comp (comp_M [("_law_crew", 6)] 6 (f := fun l => PyData.tuple [lotD l, PyData.bool true]) (xs := crews) (i_lst (e_var 2)) sc_law_system.nd (by first | assumption | omega | decide) (fun a ha s H C cl fp => (e_tup2 (a_cons (e_var 6) (a_cons e_bl a_nil)))) (fun s H C cl fp => g_nm 6 sc_law_system.nd))) a_nil) (f_dictT hr.units (k := fun l => l) (g := fun _ => .bool true)) T.b_dict rfl) a_nil) T.b_sorted) sc_law_system.nd) ?_
  have ek : (ddP (crews.map fun l => (l, PyData.bool true))).map (·.1) = keysOf crews := rfl
  rw [ek]
  generalize sortL (keysOf crews) = ks at lk lsz
  have gl : (gangsOf ks).length < sizeLine := Nat.lt_of_le_of_lt (List.length_filter_le _ _) lk
  refine h_cons (s_setC 7 (comp_N [("_law_crew", 6)] 6 (p := fun c => (ks.filter fun f => !decide (f = c) && hasL f c).isEmpty) (f := lotD) (xs := ks) (gg := lotD) (i_lst (e_var 5)) sc_law_system.nd (by first | assumption | omega | exact lsz _ ‹_› | decide) (fun a ha s H C cl fp => s_one (rt_cmp (e_comp (comp_N [("_law_far", 8)] 8 (p := fun g => !decide (g = a) && hasL g a) (f := fun _ => nD 1) (xs := ks) (gg := lotD) (i_lst (e_var 5)) sc_law_system.nd (by first | assumption | omega | exact lsz _ ‹_› | decide) (fun b hb s H C cl fp => s_one (PW.pt (w_andP (rt_cmp (e_var 8) (e_var 6) (c_neLot (by exact hr.units))) (w_and1 (t_val (r_callP (f_law_has T) (hr.mono (by decide)) (a_cons (e_var 8) (a_cons (e_var 6) a_nil)) (.mk (by first | assumption | omega | exact lsz _ ‹_› | decide)))))))) (fun b hb hp s H C cl fp => e_nat) (fun s H C cl fp => g_nm 8 sc_law_system.nd))) e_nilL (c_mL0 hr.units (sh_ones _)))) (fun a ha hp s H C cl fp => (e_var 6)) (fun s H C cl fp => g_nm 6 sc_law_system.nd))) ?_
  exact h_one (s_ret (e_tup2 (a_cons (e_var 1) (a_cons (e_to (.d (lotsD (gangsOf ks))) (r_calT (a_cons (e_var 7) a_nil) f_tuple T.b_tuple rfl) rfl) a_nil))))
end
end SG
set_option Elab.async false
set_option linter.all false
set_option maxRecDepth 100000
set_option maxHeartbeats 4000000
namespace SG
open PySem PySem.Spec PyProof.Rows L2
/-! lots by numbers and lots as lists -/
theorem mem_common {a b : List Nat} {p : Nat} : p ∈ commonL a b ↔ p ∈ a ∧ p ∈ b := by
  unfold commonL
  rw [List.mem_filter, decide_eq_true_eq]
theorem hasL_iff {c l : List Nat} : hasL c l = true ↔ ∀ q ∈ l, q ∈ c := by
  unfold hasL
  rw [emp_filt, List.all_eq_true]
  exact ⟨fun h q hq => of_decide_eq_true (h q hq), fun h q hq => decide_eq_true (h q hq)⟩
theorem pw_ext {a b : List Nat} (ha : a.Pairwise (· < ·)) (hb : b.Pairwise (· < ·)) (h : ∀ x, x ∈ a ↔ x ∈ b) : a = b := by
  have na : a.Nodup := ha.imp fun {x y} h => Nat.ne_of_lt h
  have nb : b.Nodup := hb.imp fun {x y} h => Nat.ne_of_lt h
  exact sorted_uniq (ha.imp fun {x y} h => Nat.le_of_lt h) (hb.imp fun {x y} h => Nat.le_of_lt h) ((List.perm_ext_iff_of_nodup na nb).mpr h)
theorem fold_common {β : Type} (F : β → List Nat) : ∀ (cs : List β) (init : List Nat) (p : Nat), p ∈ cs.foldl (fun f c => commonL f (F c)) init ↔ p ∈ init ∧ ∀ c ∈ cs, p ∈ F c
  | [], init, p => by simp
  | c :: cs, init, p => by
    rw [List.foldl_cons, fold_common F cs, mem_common]
    simp only [List.mem_cons, forall_eq_or_imp, and_assoc]
theorem fold_common_sub {β : Type} (F : β → List Nat) : ∀ (cs : List β) (init : List Nat), (cs.foldl (fun f c => commonL f (F c)) init).Sublist init
  | [], init => List.Sublist.refl _
  | c :: cs, init => by
    rw [List.foldl_cons]
    exact (fold_common_sub F cs _).trans List.filter_sublist
theorem fold_span (l : List Nat) : ∀ (cs : List (List Nat)) (init : List Nat) (p : Nat), p ∈ cs.foldl (fun f c => if hasL c l then commonL f c else f) init ↔ p ∈ init ∧ ∀ c ∈ cs, (∀ q ∈ l, q ∈ c) → p ∈ c
  | [], init, p => by simp
  | c :: cs, init, p => by
    rw [List.foldl_cons, fold_span l cs]
    simp only [List.mem_cons, forall_eq_or_imp]
    by_cases h : hasL c l = true
    · rw [if_pos h, mem_common, and_assoc]
      exact ⟨fun ⟨h1, h2, h3⟩ => ⟨h1, fun _ => h2, h3⟩, fun ⟨h1, h2, h3⟩ => ⟨h1, h2 (hasL_iff.mp h), h3⟩⟩
    · rw [if_neg h]
      exact ⟨fun ⟨h1, h3⟩ => ⟨h1, fun z => absurd (hasL_iff.mpr z) h, h3⟩, fun ⟨h1, _, h3⟩ => ⟨h1, h3⟩⟩
theorem fold_span_sub (l : List Nat) : ∀ (cs : List (List Nat)) (init : List Nat), (cs.foldl (fun f c => if hasL c l then commonL f c else f) init).Sublist init
  | [], init => List.Sublist.refl _
  | c :: cs, init => by
    rw [List.foldl_cons]
    refine (fold_span_sub l cs _).trans ?_
    split
    · exact List.filter_sublist
    · exact List.Sublist.refl _
theorem mem_spanL {S : Sp2} {l : List Nat} {p : Nat} : p ∈ spanL S l ↔ p < S.1 ∧ ∀ c ∈ S.2, (∀ q ∈ l, q ∈ c) → p ∈ c := by
  unfold spanL
  rw [fold_span, List.mem_range]
theorem mem_coreL {S : Sp2} {l : List Nat} {p : Nat} : p ∈ coreL S l ↔ p < S.1 ∧ ∀ x ∈ l, p ∈ spanL S (dropL l x) := by
  unfold coreL
  rw [fold_common, List.mem_range]
theorem mem_safeL {S G : Sp2} {told : List Nat} {p : Nat} : p ∈ safeL S G told ↔ p < S.1 ∧ ∀ c ∈ G.2, p ∈ spanL S (restM told c) := by
  unfold safeL
  rw [fold_common, List.mem_range]
theorem spanL_pw (S : Sp2) (l : List Nat) : (spanL S l).Pairwise (· < ·) := List.pairwise_lt_range.sublist (fold_span_sub l _ _)
theorem coreL_pw (S : Sp2) (l : List Nat) : (coreL S l).Pairwise (· < ·) := List.pairwise_lt_range.sublist (fold_common_sub _ _ _)
theorem safeL_pw (S G : Sp2) (told : List Nat) : (safeL S G told).Pairwise (· < ·) := List.pairwise_lt_range.sublist (fold_common_sub _ _ _)
theorem mem_dropL {l : List Nat} {p q : Nat} : q ∈ dropL l p ↔ q ∈ l ∧ q ≠ p := by
  unfold dropL
  rw [List.mem_filter]
  simp
theorem span_mono {S : Sp2} {a b : List Nat} (h : ∀ q ∈ a, q ∈ spanL S b) {p : Nat} (hp : p ∈ spanL S a) : p ∈ spanL S b := by
  rw [mem_spanL] at hp ⊢
  exact ⟨hp.1, fun c hc hb => hp.2 c hc fun q hq => (mem_spanL.mp (h q hq)).2 c hc hb⟩
theorem span_has {S : Sp2} {l : List Nat} {p : Nat} (h : p ∈ l) (hp : p < S.1) : p ∈ spanL S l := mem_spanL.mpr ⟨hp, fun _ _ h2 => h2 p h⟩
/-! numbers -/
theorem lotOf_iff {m p : Nat} : p ∈ lotOf m ↔ p < 9 ∧ m.testBit p = true := by
  unfold lotOf
  rw [List.mem_filter, List.mem_range, decide_eq_true_eq, Nat.testBit_eq_decide_div_mod_eq, Nat.and_one_is_mod, decide_eq_true_eq]
  constructor
  · rintro ⟨h1, h2⟩; exact ⟨h1, by omega⟩
  · rintro ⟨h1, h2⟩; exact ⟨h1, by omega⟩
theorem lotOf_pw (m : Nat) : (lotOf m).Pairwise (· < ·) := List.pairwise_lt_range.sublist List.filter_sublist
theorem lotOf_mask {l : List Nat} (h : l.Pairwise (· < ·)) (h9 : ∀ p ∈ l, p < 9) : lotOf (mask l) = l := by
  refine pw_ext (lotOf_pw _) h fun x => ?_
  rw [lotOf_iff, mask_bit h, decide_eq_true_eq]
  exact ⟨fun z => z.2, fun z => ⟨h9 x z, z⟩⟩
theorem mask_lotOf {m : Nat} (h : m < 2 ^ 9) : mask (lotOf m) = m := by
  refine Nat.eq_of_testBit_eq fun i => ?_
  rw [mask_bit (lotOf_pw m)]
  by_cases hi : i < 9
  · cases hb : m.testBit i with
    | true => exact decide_eq_true (lotOf_iff.mpr ⟨hi, hb⟩)
    | false => exact decide_eq_false fun z => by rw [(lotOf_iff.mp z).2] at hb; cases hb
  · have : m.testBit i = false := Nat.testBit_lt_two_pow (Nat.lt_of_lt_of_le h (Nat.pow_le_pow_right (by decide) (by omega)))
    rw [this]
    exact decide_eq_false fun z => hi (lotOf_iff.mp z).1
theorem mask_inj {a b : List Nat} (ha : a.Pairwise (· < ·)) (hb : b.Pairwise (· < ·)) (h : mask a = mask b) : a = b := by
  refine pw_ext ha hb fun x => ?_
  have := mask_bit ha x
  rw [h, mask_bit hb] at this
  rw [← decide_eq_true_eq (p := x ∈ a), ← decide_eq_true_eq (p := x ∈ b), this]
theorem mask_sub {c l : List Nat} (hc : c.Pairwise (· < ·)) (hl : l.Pairwise (· < ·)) : mask c &&& mask l = mask l ↔ ∀ q ∈ l, q ∈ c := by
  constructor
  · intro h q hq
    have := congrArg (fun m => Nat.testBit m q) h
    simp only [Nat.testBit_and, mask_bit hc, mask_bit hl, decide_eq_true hq, Bool.and_true] at this
    exact of_decide_eq_true this
  · intro h
    refine Nat.eq_of_testBit_eq fun i => ?_
    rw [Nat.testBit_and, mask_bit hc, mask_bit hl]
    by_cases hi : i ∈ l
    · rw [decide_eq_true hi, decide_eq_true (h i hi)]; rfl
    · rw [decide_eq_false hi, Bool.and_false]
theorem fold_spanM (m : Nat) (i : Nat) : ∀ (ms : List Nat) (f : Nat), (ms.foldl (fun f o => if o &&& m = m then f &&& o else f) f).testBit i = true ↔ f.testBit i = true ∧ ∀ o ∈ ms, o &&& m = m → o.testBit i = true
  | [], f => by simp
  | o :: ms, f => by
    rw [List.foldl_cons, fold_spanM m i ms]
    simp only [List.mem_cons, forall_eq_or_imp]
    by_cases h : o &&& m = m
    · rw [if_pos h, Nat.testBit_and, Bool.and_eq_true, and_assoc]
      exact ⟨fun ⟨h1, h2, h3⟩ => ⟨h1, fun _ => h2, h3⟩, fun ⟨h1, h2, h3⟩ => ⟨h1, h2 h, h3⟩⟩
    · rw [if_neg h]
      exact ⟨fun ⟨h1, h3⟩ => ⟨h1, fun z => absurd z h, h3⟩, fun ⟨h1, _, h3⟩ => ⟨h1, h3⟩⟩
theorem fold_andM {β : Type} (F : β → Nat) (i : Nat) : ∀ (cs : List β) (f : Nat), (cs.foldl (fun f c => f &&& F c) f).testBit i = true ↔ f.testBit i = true ∧ ∀ c ∈ cs, (F c).testBit i = true
  | [], f => by simp
  | c :: cs, f => by
    rw [List.foldl_cons, fold_andM F i cs, Nat.testBit_and]
    simp only [List.mem_cons, forall_eq_or_imp, Bool.and_eq_true, and_assoc]
theorem mask_eqB {l : List Nat} (h : l.Pairwise (· < ·)) {m : Nat} (k : ∀ i, m.testBit i = true ↔ i ∈ l) : m = mask l := by
  refine Nat.eq_of_testBit_eq fun i => ?_
  rw [mask_bit h]
  by_cases hi : i ∈ l
  · rw [decide_eq_true hi]; exact (k i).mpr hi
  · rw [decide_eq_false hi]
    cases hb : m.testBit i with
    | false => rfl
    | true => exact absurd ((k i).mp hb) hi
theorem ones_bit (n i : Nat) : (2 ^ n - 1).testBit i = true ↔ i < n := by
  rw [Nat.testBit_two_pow_sub_one, decide_eq_true_eq]
theorem span_mask {S : Sp2} (hS : OkSp S) {l : List Nat} (h1 : l.Pairwise (· < ·)) : spanM (S.2.map mask) S.1 (mask l) = mask (spanL S l) := by
  refine mask_eqB (spanL_pw S l) fun i => ?_
  unfold spanM
  rw [fold_spanM, ones_bit, mem_spanL]
  refine and_congr_right fun _ => ?_
  constructor
  · intro h c hc hq
    have := h (mask c) (List.mem_map.mpr ⟨c, hc, rfl⟩) ((mask_sub (hS.asc c hc) h1).mpr hq)
    rwa [mask_bit (hS.asc c hc), decide_eq_true_eq] at this
  · intro h o ho ha
    obtain ⟨c, hc, rfl⟩ := List.mem_map.mp ho
    rw [mask_bit (hS.asc c hc), decide_eq_true_eq]
    exact h c hc ((mask_sub (hS.asc c hc) h1).mp ha)
theorem spansM_get (S : Sp2) {m : Nat} (h : m < 2 ^ S.1) : (spansM S).getD m 0 = spanM (S.2.map mask) S.1 m := by
  unfold spansM
  rw [List.getD_eq_getElem?_getD, List.getElem?_map, List.getElem?_range h]
  rfl
theorem spans_mask {S : Sp2} (hS : OkSp S) {l : List Nat} (h1 : l.Pairwise (· < ·)) (h2 : ∀ p ∈ l, p < S.1) : (spansM S).getD (mask l) 0 = mask (spanL S l) := by
  rw [spansM_get S (mask_lt h1 h2), span_mask hS h1]
theorem mask_drop : ∀ {l : List Nat} {p : Nat}, l.Pairwise (· < ·) → p ∈ l → mask l = mask (dropL l p) + 2 ^ p
  | [], _, _, h => nomatch h
  | a :: l, p, hp, h => by
    obtain ⟨ha, hl⟩ := List.pairwise_cons.mp hp
    by_cases e : a = p
    · subst e
      have : dropL (a :: l) a = l := by
        unfold dropL
        rw [List.filter_cons]
        simp only [decide_true, Bool.not_true, Bool.false_eq_true, if_false]
        exact List.filter_eq_self.mpr fun q hq => by
          have := ha q hq
          simp; omega
      rw [this]
      unfold mask
      rw [List.map_cons, List.sum_cons]
      omega
    · have hm : p ∈ l := by
        rcases List.mem_cons.mp h with z | z
        · exact absurd z.symm e
        · exact z
      have ih := mask_drop hl hm
      have : dropL (a :: l) p = a :: dropL l p := by
        unfold dropL
        rw [List.filter_cons]
        simp [e]
      rw [this]
      unfold mask at ih ⊢
      rw [List.map_cons, List.sum_cons, List.map_cons, List.sum_cons, ih]
      omega
theorem core_mask {S : Sp2} (hS : OkSp S) {l : List Nat} (h1 : l.Pairwise (· < ·)) (h2 : ∀ p ∈ l, p < S.1) : coreM (spansM S) (mask l) = mask (coreL S l) := by
  have hle := hS.le
  refine mask_eqB (coreL_pw S l) fun i => ?_
  unfold coreM
  rw [fold_andM (fun p => (spansM S).getD (mask l - 2 ^ p) 0), spansM_len, ones_bit, mem_coreL, lotOf_mask h1 fun p hp => by have := h2 p hp; omega]
  refine and_congr_right fun _ => ?_
  have key : ∀ x ∈ l, ((spansM S).getD (mask l - 2 ^ x) 0).testBit i = true ↔ i ∈ spanL S (dropL l x) := fun x hx => by
    have e : mask l - 2 ^ x = mask (dropL l x) := by rw [mask_drop h1 hx]; omega
    obtain ⟨d1, d2⟩ := dropL_ok (p := x) h1 h2
    rw [e, spans_mask hS d1 d2, mask_bit (spanL_pw _ _), decide_eq_true_eq]
  exact ⟨fun h x hx => (key x hx).mp (h x hx), fun h x hx => (key x hx).mpr (h x hx)⟩
theorem mask_zero {l : List Nat} (h : l.Pairwise (· < ·)) : mask l = 0 ↔ l = [] := by
  constructor
  · intro z
    cases l with
    | nil => rfl
    | cons a l =>
      have := mask_bit h a
      rw [z, decide_eq_true List.mem_cons_self, Nat.zero_testBit] at this
      cases this
  · intro z; subst z; rfl
theorem stray_mask {S : Sp2} (hS : OkSp S) {l : List Nat} (h1 : l.Pairwise (· < ·)) (h2 : ∀ p ∈ l, p < S.1) : strayM (spansM S) (mask l) = (!l.isEmpty && (coreL S l).isEmpty) := by
  unfold strayM
  rw [core_mask hS h1 h2]
  congr 1
  · cases l with
    | nil => rfl
    | cons a l =>
      have : mask (a :: l) ≠ 0 := fun z => nomatch (mask_zero h1).mp z
      simp; omega
  · cases hc : coreL S l with
    | nil => rfl
    | cons a r =>
      have : mask (a :: r) ≠ 0 := fun z => by
        have := (mask_zero (hc ▸ coreL_pw S l)).mp z
        cases this
      simp [this]
theorem subs_nd : ∀ n, (subs n).Nodup
  | 0 => by simp [subs]
  | n + 1 => by
    show (subs n ++ (subs n).map fun r => r ++ [n]).Nodup
    refine List.nodup_append.mpr ⟨subs_nd n, ?_, fun a ha b hb e => ?_⟩
    · refine List.pairwise_map.mpr ((subs_nd n).imp fun {a b} h z => h ?_)
      exact List.append_cancel_right z
    · obtain ⟨r, hr, rfl⟩ := List.mem_map.mp hb
      have := (subs_row ha).2.2 n (by rw [e]; simp)
      omega
theorem lots_nd (n : Nat) : (lawLots n).Nodup := (sortL_perm _).nodup_iff.mpr (subs_nd n)
theorem lots_srt (n : Nat) : (lawLots n).Pairwise fun a b => ltN b a = false := sortL_srt _
theorem mem_straysL {S : Sp2} {l : List Nat} : l ∈ straysL S ↔ l.Pairwise (· < ·) ∧ (∀ p ∈ l, p < S.1) ∧ l ≠ [] ∧ coreL S l = [] := by
  unfold straysL
  rw [List.mem_filter, lots_iff, and_assoc, Bool.and_eq_true, List.isEmpty_iff]
  simp
theorem strays_eq {S : Sp2} (hS : OkSp S) : strayIn S = straysL S := by
  have hle := hS.le
  have h9 : ∀ {m}, m < 2 ^ S.1 → m < 2 ^ 9 := fun h => Nat.lt_of_lt_of_le h (Nat.pow_le_pow_right (by decide) (by omega))
  symm
  unfold strayIn
  refine sortL_uniq ((List.perm_ext_iff_of_nodup ((lots_nd _).sublist List.filter_sublist) ?_).mpr fun l => ?_) ((lots_srt _).sublist List.filter_sublist)
  · refine List.pairwise_map.mpr ?_
    have hp : ((List.range (2 ^ S.1)).filter (strayM (spansM S))).Pairwise (· < ·) := List.pairwise_lt_range.sublist List.filter_sublist
    refine hp.imp_of_mem fun {a b} ha hb h z => ?_
    have h1 := mask_lotOf (h9 (List.mem_range.mp (List.mem_filter.mp ha).1))
    have h2 := mask_lotOf (h9 (List.mem_range.mp (List.mem_filter.mp hb).1))
    rw [z, h2] at h1
    omega
  · show l ∈ straysL S ↔ _
    rw [mem_straysL, List.mem_map]
    constructor
    · rintro ⟨h1, h2, h3, h4⟩
      refine ⟨mask l, List.mem_filter.mpr ⟨List.mem_range.mpr (mask_lt h1 h2), ?_⟩, lotOf_mask h1 fun p hp => by have := h2 p hp; omega⟩
      rw [stray_mask hS h1 h2, h4]
      cases l with
      | nil => exact absurd rfl h3
      | cons a l => rfl
    · rintro ⟨m, hm, rfl⟩
      obtain ⟨h1, h2⟩ := List.mem_filter.mp hm
      have hm' := List.mem_range.mp h1
      have hlt : ∀ p ∈ lotOf m, p < S.1 := fun p hp => by
        obtain ⟨_, hb⟩ := lotOf_iff.mp hp
        false_or_by_contra
        have : m.testBit p = false := Nat.testBit_lt_two_pow (Nat.lt_of_lt_of_le hm' (Nat.pow_le_pow_right (by decide) (by omega)))
        rw [this] at hb
        cases hb
      rw [← mask_lotOf (h9 hm'), stray_mask hS (lotOf_pw m) hlt, Bool.and_eq_true, List.isEmpty_iff] at h2
      refine ⟨lotOf_pw m, hlt, ?_, h2.2⟩
      intro z
      rw [z] at h2
      cases h2.1
theorem stray_one {S : Sp2} (hS : OkSp S) : [0] ∈ straysL S := by
  have := hS.pos
  refine mem_straysL.mpr ⟨List.pairwise_singleton _ _, fun p hp => by have : p = 0 := by simpa using hp
                                                                      omega, by simp, ?_⟩
  rw [List.eq_nil_iff_forall_not_mem]
  intro p hp
  have h := (mem_coreL.mp hp).2 0 (by simp)
  have := (mem_spanL.mp h).2 [] hS.nil (fun q hq => by
    have := mem_dropL.mp hq
    have : q = 0 := by simpa using this.1
    exact absurd this (mem_dropL.mp hq).2)
  cases this
theorem strays_ne {S : Sp2} (hS : OkSp S) : strayIn S ≠ [] := by
  rw [strays_eq hS]
  intro z
  have := stray_one hS
  rw [z] at this
  cases this
theorem number_le {S : Sp2} (hS : OkSp S) : numberIn S ≤ 5 := by
  unfold numberIn
  have hne : (strayIn S).map List.length ≠ [] := fun z => strays_ne hS (List.map_eq_nil_iff.mp z)
  obtain ⟨l, hl, e⟩ := List.mem_map.mp (maxL_mem hne)
  rw [← e]
  rw [strays_eq hS] at hl
  obtain ⟨h1, h2, _⟩ := mem_straysL.mp hl
  exact Nat.le_trans (len_lt h1 h2) hS.le
theorem safe_eq {S G : Sp2} (hS : OkSp S) {told : List Nat} (ht : ∀ p ∈ told, p < S.1) : safeIn S G told = safeL S G told := by
  have hle := hS.le
  have e : safeM (spansM S) (G.2.map (restM told)) = mask (safeL S G told) := by
    refine mask_eqB (safeL_pw S G told) fun i => ?_
    unfold safeM
    rw [fold_andM (fun l => (spansM S).getD (mask l) 0), spansM_len, ones_bit, mem_safeL]
    refine and_congr_right fun _ => ?_
    have key : ∀ c, ((spansM S).getD (mask (restM told c)) 0).testBit i = true ↔ i ∈ spanL S (restM told c) := fun c => by
      obtain ⟨r1, r2⟩ := rest_ok (c := c) ht
      rw [spans_mask hS r1 r2, mask_bit (spanL_pw _ _), decide_eq_true_eq]
    constructor
    · intro h c hc
      exact (key c).mp (h _ (List.mem_map.mpr ⟨c, hc, rfl⟩))
    · intro h o ho
      obtain ⟨c, hc, rfl⟩ := List.mem_map.mp ho
      exact (key c).mpr (h c hc)
  unfold safeIn
  rw [e]
  exact lotOf_mask (safeL_pw _ _ _) fun p hp => by have := (mem_safeL.mp hp).1; omega
end SG
set_option Elab.async false
set_option linter.all false
set_option maxRecDepth 100000
set_option maxHeartbeats 4000000
namespace SG
open PySem PySem.Spec PyProof.Rows L2
/-! covers -/
theorem bare_iff {G : Sp2} {ns : List Nat} {t : Nat} : t ∈ bare G ns ↔ t < G.1 ∧ ∀ k ∈ ns, t ∉ G.2.getD k [] := by
  unfold bare
  rw [List.mem_filter, List.mem_range, Bool.not_eq_true', List.any_eq_false]
  exact and_congr_right fun _ => ⟨fun h k hk z => h k hk (decide_eq_true z), fun h k hk z => h k hk (of_decide_eq_true z)⟩
theorem bare_congr (G : Sp2) {a b : List Nat} (h : ∀ k, k ∈ a ↔ k ∈ b) : bare G a = bare G b := by
  refine pw_ext (List.pairwise_lt_range.sublist List.filter_sublist) (List.pairwise_lt_range.sublist List.filter_sublist) fun t => ?_
  show t ∈ bare G a ↔ t ∈ bare G b
  rw [bare_iff, bare_iff]
  exact and_congr_right fun _ => ⟨fun z k hk => z k ((h k).mpr hk), fun z k hk => z k ((h k).mp hk)⟩
theorem mem_with {G : Sp2} {t k : Nat} : k ∈ with_ G t ↔ k < G.2.length ∧ t ∈ G.2.getD k [] := by
  unfold with_
  rw [List.mem_map]
  constructor
  · rintro ⟨⟨c, i⟩, h, rfl⟩
    obtain ⟨h1, h2⟩ := List.mem_filter.mp h
    have h3 := List.mem_zipIdx_iff_getElem?.mp h1
    have h3 : G.2[i]? = some c := h3
    obtain ⟨hi, _⟩ := List.getElem?_eq_some_iff.mp h3
    refine ⟨hi, ?_⟩
    rw [List.getD_eq_getElem?_getD, h3]
    exact of_decide_eq_true h2
  · rintro ⟨h1, h2⟩
    refine ⟨(G.2.getD k [], k), List.mem_filter.mpr ⟨List.mem_zipIdx_iff_getElem?.mpr ?_, decide_eq_true h2⟩, rfl⟩
    show G.2[k]? = some (G.2.getD k [])
    rw [List.getD_eq_getElem?_getD, List.getElem?_eq_getElem h1]
    rfl
theorem stays_open {G : Sp2} : ∀ {n : Nat} {ns : List Nat}, stays G n ns = true ↔ Open G n ns
  | 0, ns => by
    show (!(bare G ns).isEmpty) = true ↔ _
    constructor
    · intro h ks hk _
      have : ks = [] := List.eq_nil_of_length_eq_zero (Nat.le_zero.mp hk)
      subst this
      rw [List.append_nil]
      intro z
      rw [z] at h
      cases h
    · intro h
      have := h.bare
      cases hb : bare G ns with
      | nil => exact absurd hb this
      | cons a r => rfl
  | n + 1, ns => by
    have e : stays G (n + 1) ns = match bare G ns with
      | [] => false
      | t :: _ => (with_ G t).all fun k => stays G n (ns ++ [k]) := rfl
    rw [e]
    cases hb : bare G ns with
    | nil =>
      constructor
      · intro z; cases z
      · intro z; exact absurd hb (Open.bare z)
    | cons t r =>
      show ((with_ G t).all fun k => stays G n (ns ++ [k])) = true ↔ _
      rw [List.all_eq_true]
      have ht : t ∈ bare G ns := by rw [hb]; exact List.mem_cons_self
      constructor
      · intro h ks hk hm z
        have hc : ∃ k ∈ ns ++ ks, t ∈ G.2.getD k [] := cov_of z (bare_iff.mp ht).1
        obtain ⟨k, hk1, hk2⟩ := hc
        have hk3 : k ∈ ks := by
          rcases List.mem_append.mp hk1 with w | w
          · exact absurd hk2 ((bare_iff.mp ht).2 k w)
          · exact w
        have ho := stays_open.mp (h k (mem_with.mpr ⟨hm k hk3, hk2⟩))
        refine ho (ks.erase k) ?_ (fun j hj => hm j (List.mem_of_mem_erase hj)) ?_
        · rw [List.length_erase_of_mem hk3]; omega
        · refine (bare_congr G fun j => ?_).trans z
          simp only [List.mem_append, List.mem_singleton]
          constructor
          · rintro ((w | w) | w)
            · exact .inl w
            · subst w; exact .inr hk3
            · exact .inr (List.mem_of_mem_erase w)
          · rintro (w | w)
            · exact .inl (.inl w)
            · by_cases e : j = k
              · exact .inl (.inr e)
              · exact .inr ((List.mem_erase_of_ne e).mpr w)
      · intro h k hk
        exact stays_open.mpr (h.more (mem_with.mp hk).1)
theorem mem_covsL {G : Sp2} {c : List Nat} : c ∈ covsL G ↔ c.Pairwise (· < ·) ∧ (∀ k ∈ c, k < G.2.length) ∧ bare G c = [] := by
  unfold covsL
  rw [List.mem_filter, lots_iff, and_assoc, List.isEmpty_iff]
/-- the lot of some numbers -/
theorem lot_of (ks : List Nat) : (sortU ks).length ≤ ks.length := by
  rw [(sortU_perm ks).length_eq]
  exact ddN_len ks
theorem open_iff {G : Sp2} {n : Nat} : Open G n [] ↔ ∀ c ∈ covsL G, n < c.length := by
  constructor
  · intro h c hc
    obtain ⟨_, h2, h3⟩ := mem_covsL.mp hc
    false_or_by_contra
    exact h c (by omega) h2 h3
  · intro h ks hk hm z
    have : sortU ks ∈ covsL G := by
      refine mem_covsL.mpr ⟨sortU_lt ks, fun k hk => hm k (sortU_mem.mp hk), ?_⟩
      exact (bare_congr G fun k => by rw [sortU_mem]; rfl).trans z
    have := h _ this
    have := lot_of ks
    omega
theorem covs_ne {G : Sp2} : covsL G ≠ [] ↔ bare G (List.range G.2.length) = [] := by
  constructor
  · intro h
    obtain ⟨c, hc⟩ := List.exists_mem_of_ne_nil _ h
    obtain ⟨_, h2, h3⟩ := mem_covsL.mp hc
    rw [List.eq_nil_iff_forall_not_mem]
    intro t ht
    have : t ∈ bare G c := bare_iff.mpr ⟨(bare_iff.mp ht).1, fun k hk => (bare_iff.mp ht).2 k (List.mem_range.mpr (h2 k hk))⟩
    rw [h3] at this
    cases this
  · intro h z
    have : List.range G.2.length ∈ covsL G := mem_covsL.mpr ⟨List.pairwise_lt_range, fun k hk => List.mem_range.mp hk, h⟩
    rw [z] at this
    cases this
theorem min_len {G : Sp2} (h5 : G.2.length ≤ 90) (h : covsL G ≠ []) : (∃ c ∈ covsL G, c.length = minL ((covsL G).map List.length)) ∧ ∀ c ∈ covsL G, minL ((covsL G).map List.length) ≤ c.length := by
  obtain ⟨h1, h2, h3⟩ := minL_le ((covsL G).map List.length) 99
  have hb : ∀ c ∈ covsL G, minL ((covsL G).map List.length) ≤ c.length := fun c hc => h2 _ (List.mem_map.mpr ⟨c, hc, rfl⟩)
  refine ⟨?_, hb⟩
  rcases h3 with z | z
  · obtain ⟨c, hc⟩ := List.exists_mem_of_ne_nil _ h
    have h4 := hb c hc
    obtain ⟨c1, c2, _⟩ := mem_covsL.mp hc
    have h5' := len_lt c1 c2
    have : minL ((covsL G).map List.length) = 99 := z
    omega
  · obtain ⟨c, hc, e⟩ := List.mem_map.mp z
    exact ⟨c, hc, e⟩
theorem mem_covL {G : Sp2} {c : List Nat} : c ∈ covL G ↔ c ∈ covsL G ∧ c.length = minL ((covsL G).map List.length) := by
  unfold covL
  rw [List.mem_filter, decide_eq_true_eq]
/-! rows in their order -/
theorem lex_app : ∀ {a b : List Int} (x y : List Int), a.length = b.length → HT.lexLt a b = true → HT.lexLt (a ++ x) (b ++ y) = true
  | [], [], x, y, _, h => by cases h
  | [], _ :: _, x, y, h, _ => by cases h
  | _ :: _, [], x, y, h, _ => by cases h
  | u :: a, v :: b, x, y, hl, h => by
    rw [HT.lexLt_cons] at h
    rw [List.cons_append, List.cons_append, HT.lexLt_cons]
    by_cases e : u = v
    · rw [if_pos e] at h ⊢
      exact lex_app x y (Nat.succ.inj hl) h
    · rw [if_neg e] at h ⊢
      exact h
theorem lex_last : ∀ (a : List Int) {i j : Int}, i < j → HT.lexLt (a ++ [i]) (a ++ [j]) = true
  | [], i, j, h => by
    show HT.lexLt [i] [j] = true
    rw [HT.lexLt_cons, if_neg (by omega)]
    exact decide_eq_true h
  | u :: a, i, j, h => by
    rw [List.cons_append, List.cons_append, HT.lexLt_cons, if_pos rfl]
    exact lex_last a h
theorem castL_app (a b : List Nat) : castL (a ++ b) = castL a ++ castL b := by unfold castL; rw [List.map_append]
theorem castL_len (a : List Nat) : (castL a).length = a.length := by unfold castL; rw [List.length_map]
theorem ltN_app {a b : List Nat} (x y : List Nat) (hl : a.length = b.length) (h : ltN a b = true) : ltN (a ++ x) (b ++ y) = true := by
  unfold ltN at h ⊢
  rw [castL_app, castL_app]
  exact lex_app _ _ (by rw [castL_len, castL_len, hl]) h
theorem ltN_last (a : List Nat) {i j : Nat} (h : i < j) : ltN (a ++ [i]) (a ++ [j]) = true := by
  unfold ltN
  rw [castL_app, castL_app]
  exact lex_last _ (by simp; omega)
theorem rowsOf_srt (m : Nat) : ∀ n, (rowsOf m n).Pairwise fun a b => ltN a b = true
  | 0 => List.pairwise_singleton _ _
  | n + 1 => by
    show (grown m (rowsOf m n)).Pairwise _
    unfold grown
    refine List.pairwise_flatMap.mpr ⟨fun row _ => ?_, (rowsOf_srt m n).imp_of_mem fun {a b} ha hb h x hx y hy => ?_⟩
    · refine List.pairwise_map.mpr ?_
      have : ((List.range m).filter (bigger row)).Pairwise (· < ·) := List.pairwise_lt_range.sublist List.filter_sublist
      exact this.imp fun {i j} h => ltN_last row h
    · obtain ⟨i, _, rfl⟩ := List.mem_map.mp hx
      obtain ⟨j, _, rfl⟩ := List.mem_map.mp hy
      exact ltN_app _ _ (by rw [(rowsOf_mem ha).1, (rowsOf_mem hb).1]) h
theorem rowsOf_all {m : Nat} : ∀ {n : Nat} {row : List Nat}, row.length = n → (∀ k ∈ row, k < m) → row.Pairwise (· < ·) → row ∈ rowsOf m n
  | 0, row, hl, _, _ => by
    have : row = [] := List.eq_nil_of_length_eq_zero hl
    subst this
    exact List.mem_singleton.mpr rfl
  | n + 1, row, hl, h1, h2 => by
    have hne : row ≠ [] := fun z => by rw [z] at hl; cases hl
    have e : row.dropLast ++ [row.getLast hne] = row := List.dropLast_concat_getLast hne
    have hp : (row.dropLast ++ [row.getLast hne]).Pairwise (· < ·) := by rw [e]; exact h2
    obtain ⟨p1, _, p3⟩ := List.pairwise_append.mp hp
    show row ∈ grown m (rowsOf m n)
    unfold grown
    refine List.mem_flatMap.mpr ⟨row.dropLast, rowsOf_all (by rw [List.length_dropLast, hl]; rfl) (fun k hk => h1 k ((List.dropLast_sublist row).subset hk)) p1, List.mem_map.mpr ⟨row.getLast hne, List.mem_filter.mpr ⟨List.mem_range.mpr (h1 _ (List.getLast_mem hne)), ?_⟩, e⟩⟩
    unfold bigger
    cases hd : row.dropLast with
    | nil => rfl
    | cons a r =>
      rw [← hd]
      have hn : row.dropLast ≠ [] := by rw [hd]; simp
      have : row.dropLast.getLastD 0 ∈ row.dropLast := by
        rw [List.getLastD_eq_getLast?, List.getLast?_eq_some_getLast hn]
        exact List.getLast_mem hn
      have := p3 _ this (row.getLast hne) (by simp)
      rw [decide_eq_true this, Bool.or_true]
theorem srt_nd {ls : List (List Nat)} (h : ls.Pairwise fun a b => ltN a b = true) : ls.Nodup := h.imp fun {a b} h z => by
  subst z
  have := ltN_asym h
  rw [h] at this
  cases this
theorem srt_uniq {xs ys : List (List Nat)} (h1 : xs.Pairwise fun a b => ltN b a = false) (h2 : ys.Pairwise fun a b => ltN b a = false) (n1 : xs.Nodup) (n2 : ys.Nodup) (h : ∀ l, l ∈ xs ↔ l ∈ ys) : xs = ys := by
  have hp : xs.Perm ys := (List.perm_ext_iff_of_nodup n1 n2).mpr h
  rw [sortL_uniq (ls := ys) hp h1, ← sortL_uniq (ls := ys) (List.Perm.refl _) h2]
theorem covL_eq {G : Sp2} (N : Nat) (hN : minL ((covsL G).map List.length) = N) : covL G = coversWith G N := by
  have r := rowsOf_srt G.2.length N
  refine srt_uniq (((lots_srt _).sublist List.filter_sublist).sublist List.filter_sublist) ((r.imp fun {a b} h => ltN_asym h).sublist List.filter_sublist) (((lots_nd _).sublist List.filter_sublist).sublist List.filter_sublist) ((srt_nd r).sublist List.filter_sublist) fun l => ?_
  show l ∈ covL G ↔ l ∈ coversWith G N
  rw [mem_covL, mem_covsL, hN]
  unfold coversWith
  rw [List.mem_filter, List.isEmpty_iff]
  constructor
  · rintro ⟨⟨h1, h2, h3⟩, h4⟩
    exact ⟨rowsOf_all h4 h2 h1, h3⟩
  · rintro ⟨h1, h3⟩
    obtain ⟨h4, h2, h1⟩ := rowsOf_mem h1
    exact ⟨⟨h1, h2, h3⟩, h4⟩
theorem covL_nil {G : Sp2} (h : covsL G = []) : covL G = [] := by unfold covL; rw [h]; rfl
theorem bare_nil {G : Sp2} (h : 1 ≤ G.1) : bare G [] ≠ [] := fun z => by
  have : 0 ∈ bare G [] := bare_iff.mpr ⟨by omega, fun k hk => nomatch hk⟩
  rw [z] at this
  cases this
/-- the least covers: those of the program -/
theorem least_ok {G : Sp2} (hG : OkSys G) : LeastOk G (covL G) := by
  by_cases h : covsL G = []
  · rw [covL_nil h]
    refine .none fun z => ?_
    exact covs_ne.mpr z h
  · have hn := hG.n
    obtain ⟨⟨c, hc, hl⟩, hm⟩ := min_len (by omega) h
    obtain ⟨c1, c2, c3⟩ := mem_covsL.mp hc
    rw [covL_eq _ rfl]
    refine .some (covs_ne.mp h) ?_ ?_ ?_ ?_
    · rw [← hl]
      cases c with
      | nil => exact absurd c3 (bare_nil hG.pos)
      | cons a r => exact Nat.succ_le_succ (Nat.zero_le _)
    · rw [← hl]
      have := len_lt c1 c2
      omega
    · intro i _ hi
      refine stays_open.mpr (open_iff.mpr fun d hd => ?_)
      have := hm d hd
      omega
    · rw [Bool.eq_false_iff]
      intro z
      have := open_iff.mp (stays_open.mp z) c hc
      omega
/-- what the law takes for least -/
theorem stays_least {G : Sp2} (hG : OkSys G) (n : Nat) : stays G n [] = (match covL G with | [] => true | r :: _ => decide (n < r.length)) := by
  rw [Bool.eq_iff_iff, stays_open, open_iff]
  have hn := hG.n
  by_cases h : covsL G = []
  · rw [covL_nil h, h]
    exact ⟨fun _ => rfl, fun _ c hc => nomatch hc⟩
  · obtain ⟨⟨c, hc, hl⟩, hm⟩ := min_len (by omega) h
    have hcl : c ∈ covL G := mem_covL.mpr ⟨hc, hl⟩
    cases hr : covL G with
    | nil => rw [hr] at hcl; cases hcl
    | cons r rs =>
      have hr' : r ∈ covL G := by rw [hr]; exact List.mem_cons_self
      obtain ⟨r1, r2⟩ := mem_covL.mp hr'
      show _ ↔ decide (n < r.length) = true
      rw [decide_eq_true_eq]
      exact ⟨fun z => z r r1, fun z d hd => by have := hm d hd; omega⟩
end SG
set_option Elab.async false
set_option linter.all false
set_option maxRecDepth 100000
set_option maxHeartbeats 4000000
namespace SG
open PySem PySem.Spec PyProof.Rows L2
/-! trees, dealt points, Helly -/
theorem isInt_nat {t n : Nat} (h : t < n) : isInt (nD t) 0 ((n : Int) - 1) = true := by
  show (decide ((0 : Int) ≤ (t : Int)) && decide ((t : Int) ≤ (n : Int) - 1)) = true
  rw [decide_eq_true (by omega), decide_eq_true (by omega)]
  rfl
theorem toI_nat (t : Nat) : (toI (nD t)).toNat = t := by simp [toI]
theorem zip_map_all {α β : Type} (f : α → β) (p : α × β → Bool) : ∀ xs : List α, (∀ x ∈ xs, p (x, f x) = true) → ((xs.zip (xs.map f)).all p) = true
  | [], _ => rfl
  | x :: xs, h => by
    rw [List.map_cons, List.zip_cons_cons, List.all_cons, h x List.mem_cons_self, zip_map_all f p xs fun y hy => h y (List.mem_cons_of_mem _ hy)]
    rfl
theorem tree_ok {G : Sp2} : ∀ {n : Nat} {ns : List Nat}, Open G n ns → isTree G n ns (treeD G n ns) = true
  | 0, ns, h => by
    have hb := h.bare
    have hm : (bare G ns).getD 0 0 ∈ bare G ns := by
      cases hq : bare G ns with
      | nil => exact absurd hq hb
      | cons a r => exact List.mem_cons_self
    simp only [treeD, isTree, toI_nat]
    rw [isInt_nat (bare_lt hm), decide_eq_true hm]
    rfl
  | n + 1, ns, h => by
    have hb := h.bare
    have hm := pickT_mem hb
    rw [treeD]
    simp only [isTree, toI_nat]
    rw [isInt_nat (bare_lt hm), decide_eq_true hm, List.length_map, decide_eq_true rfl, Bool.true_and, Bool.true_and, Bool.true_and]
    exact zip_map_all _ _ _ fun k hk => tree_ok (h.more (mem_with.mp hk).1)
/-! dealt points -/
theorem mem_restM {told c : List Nat} {q : Nat} : q ∈ restM told c ↔ ∃ t, told[t]? = some q ∧ t ∉ c := by
  unfold restM
  rw [sortU_mem, List.mem_map]
  constructor
  · rintro ⟨⟨a, t⟩, h, rfl⟩
    obtain ⟨h1, h2⟩ := List.mem_filter.mp h
    have h1 : told[t]? = some a := List.mem_zipIdx_iff_getElem?.mp h1
    refine ⟨t, h1, ?_⟩
    rw [Bool.not_eq_true'] at h2
    exact of_decide_eq_false h2
  · rintro ⟨t, h1, h2⟩
    refine ⟨(q, t), List.mem_filter.mpr ⟨List.mem_zipIdx_iff_getElem?.mpr h1, ?_⟩, rfl⟩
    rw [Bool.not_eq_true']
    exact decide_eq_false h2
theorem zip_snd {α β : Type} : ∀ {xs : List α} {ys : List β} {b : β}, xs.length = ys.length → b ∈ ys → ∃ a, (a, b) ∈ xs.zip ys
  | _, [], _, _, h => nomatch h
  | [], y :: ys, _, h, _ => by cases h
  | x :: xs, y :: ys, b, h, m => by
    rcases List.mem_cons.mp m with z | z
    · exact ⟨x, by rw [z]; exact List.mem_cons_self⟩
    · obtain ⟨a, ha⟩ := zip_snd (xs := xs) (ys := ys) (Nat.succ.inj h) z
      exact ⟨a, List.mem_cons_of_mem _ ha⟩
theorem zip_inj {α β : Type} : ∀ {xs : List α} {ys : List β} {a a' : α} {b : β}, ys.Nodup → (a, b) ∈ xs.zip ys → (a', b) ∈ xs.zip ys → a = a'
  | [], _, _, _, _, _, h, _ => by simp at h
  | _ :: _, [], _, _, _, _, h, _ => by simp at h
  | x :: xs, y :: ys, a, a', b, hn, h, h' => by
    obtain ⟨n1, n2⟩ := List.nodup_cons.mp hn
    rw [List.zip_cons_cons] at h h'
    rcases List.mem_cons.mp h with z | z
    · rcases List.mem_cons.mp h' with w | w
      · injection z with z1 z2
        injection w with w1 w2
        rw [z1, w1]
      · injection z with z1 z2
        subst z2
        exact absurd (List.of_mem_zip w).2 n1
    · rcases List.mem_cons.mp h' with w | w
      · injection w with w1 w2
        subst w2
        exact absurd (List.of_mem_zip z).2 n1
      · exact zip_inj n2 z w
theorem dealt_get {G : Sp2} {cover lot : List Nat} (hb : bare G cover = []) (hl : cover.length = lot.length) {t q : Nat} (h : (dealtM G cover lot)[t]? = some q) : t < G.1 ∧ ∃ k, (k, q) ∈ cover.zip lot ∧ t ∈ G.2.getD k [] := by
  unfold dealtM at h
  obtain ⟨ht, e⟩ := List.getElem?_eq_some_iff.mp h
  rw [List.length_map, List.length_range] at ht
  rw [List.getElem_map, List.getElem_range] at e
  refine ⟨ht, ?_⟩
  have hne := deals_ne hb hl ht
  have hm : q ∈ dealsTo G cover lot t := by
    cases hd : dealsTo G cover lot t with
    | nil => exact absurd hd hne
    | cons a r =>
      rw [hd] at e
      have : a = q := e
      rw [← this]
      exact List.mem_cons_self
  unfold dealsTo at hm
  obtain ⟨⟨k, q'⟩, h1, h2⟩ := List.mem_map.mp hm
  obtain ⟨h3, h4⟩ := List.mem_filter.mp h1
  have h2 : q' = q := h2
  subst h2
  exact ⟨k, h3, of_decide_eq_true h4⟩
theorem dealt_len (G : Sp2) (cover lot : List Nat) : (dealtM G cover lot).length = G.1 := by unfold dealtM; rw [List.length_map, List.length_range]
theorem dealt_lt {G : Sp2} {cover lot : List Nat} {n : Nat} (hb : bare G cover = []) (hl : cover.length = lot.length) (h2 : ∀ p ∈ lot, p < n) : ∀ p ∈ dealtM G cover lot, p < n := fun p hp => by
  obtain ⟨t, ht⟩ := List.mem_iff_getElem?.mp hp
  obtain ⟨_, k, hz, _⟩ := dealt_get hb hl ht
  exact h2 p (List.of_mem_zip hz).2
theorem dealt_safe {S G : Sp2} {cover lot : List Nat} (hc : ∀ k ∈ cover, k < G.2.length) (hb : bare G cover = []) (hl : cover.length = lot.length) (hs : lot ∈ straysL S) : safeL S G (dealtM G cover lot) = [] := by
  obtain ⟨h1, h2, h3, h4⟩ := mem_straysL.mp hs
  have nd : lot.Nodup := h1.imp fun {a b} h => Nat.ne_of_lt h
  rw [List.eq_nil_iff_forall_not_mem]
  intro p hp
  obtain ⟨p1, p2⟩ := mem_safeL.mp hp
  have : p ∈ coreL S lot := mem_coreL.mpr ⟨p1, fun x hx => by
    obtain ⟨k, hk⟩ := zip_snd hl hx
    have hkm := hc k (List.of_mem_zip hk).1
    have hg : G.2.getD k [] ∈ G.2 := by
      rw [List.getD_eq_getElem?_getD, List.getElem?_eq_getElem hkm]
      exact List.getElem_mem hkm
    refine span_mono (fun q hq => ?_) (p2 _ hg)
    obtain ⟨t, ht, hn⟩ := mem_restM.mp hq
    obtain ⟨_, k', hz, hm⟩ := dealt_get hb hl ht
    have hql := (List.of_mem_zip hz).2
    refine span_has (mem_dropL.mpr ⟨hql, fun e => ?_⟩) (h2 q hql)
    subst e
    have := zip_inj nd hz hk
    subst this
    exact hn hm⟩
  rw [h4] at this
  cases this
/-! parts of stray lots are stray -/
theorem stray_part {S : Sp2} {l m : List Nat} (h : l ∈ straysL S) (hs : m.Sublist l) (hne : m ≠ []) : m ∈ straysL S := by
  obtain ⟨h1, h2, h3, h4⟩ := mem_straysL.mp h
  have nd : l.Nodup := h1.imp fun {a b} h => Nat.ne_of_lt h
  refine mem_straysL.mpr ⟨h1.sublist hs, fun p hp => h2 p (hs.subset hp), hne, ?_⟩
  rw [List.eq_nil_iff_forall_not_mem]
  intro p hp
  obtain ⟨p1, p2⟩ := mem_coreL.mp hp
  have : p ∈ coreL S l := mem_coreL.mpr ⟨p1, fun x hx => by
    by_cases hm : x ∈ m
    · refine span_mono (fun q hq => ?_) (p2 x hm)
      obtain ⟨q1, q2⟩ := mem_dropL.mp hq
      exact span_has (mem_dropL.mpr ⟨hs.subset q1, q2⟩) (h2 q (hs.subset q1))
    · obtain ⟨a, ha⟩ := List.exists_mem_of_ne_nil _ hne
      refine span_mono (fun q hq => ?_) (p2 a ha)
      obtain ⟨q1, q2⟩ := mem_dropL.mp hq
      exact span_has (mem_dropL.mpr ⟨hs.subset q1, fun e => hm (e ▸ q1)⟩) (h2 q (hs.subset q1))⟩
  rw [h4] at this
  cases this
theorem number_mem {S : Sp2} (hS : OkSp S) : ∃ l ∈ straysL S, l.length = numberIn S := by
  unfold numberIn
  have hne : (strayIn S).map List.length ≠ [] := fun z => strays_ne hS (List.map_eq_nil_iff.mp z)
  obtain ⟨l, hl, e⟩ := List.mem_map.mp (maxL_mem hne)
  rw [strays_eq hS] at hl
  exact ⟨l, hl, e⟩
theorem stray_le {S : Sp2} (hS : OkSp S) {l : List Nat} (h : l ∈ straysL S) : l.length ≤ numberIn S := by
  rw [← strays_eq hS] at h
  exact maxL_le (List.mem_map.mpr ⟨l, h, rfl⟩)
theorem stray_size {S : Sp2} (hS : OkSp S) {r : Nat} (h1 : 1 ≤ r) (h2 : r ≤ numberIn S) : ∃ l ∈ straysL S, l.length = r := by
  obtain ⟨l, hl, e⟩ := number_mem hS
  refine ⟨l.take r, stray_part hl (List.take_sublist r l) (fun z => ?_), by rw [List.length_take]; omega⟩
  have : (l.take r).length = r := by rw [List.length_take]; omega
  rw [z] at this
  simp at this
  omega
/-! Helly -/
theorem least_of {α : Type} (p : α → Prop) (f : α → Nat) : (∃ a, p a) → ∃ a, p a ∧ ∀ b, f b < f a → ¬ p b := by
  intro ⟨a, ha⟩
  have key : ∀ n, ∀ a, f a = n → p a → ∃ a, p a ∧ ∀ b, f b < f a → ¬ p b := by
    intro n
    induction n using Nat.strongRecOn with
    | ind n ih =>
      intro a e ha
      by_cases h : ∃ b, f b < f a ∧ p b
      · obtain ⟨b, h1, h2⟩ := h
        exact ih (f b) (e ▸ h1) b rfl h2
      · exact ⟨a, ha, fun b h1 h2 => h ⟨b, h1, h2⟩⟩
  exact key _ a rfl ha
theorem erase_mem {α : Type} {l : List α} {i j : Nat} {a : α} (h : l[j]? = some a) (hij : j ≠ i) : a ∈ l.eraseIdx i := by
  rw [List.mem_eraseIdx_iff_getElem?]
  exact ⟨j, hij, h⟩
theorem helly {S G : Sp2} (hS : OkSp S) (C : Nat → List Nat) (hC : ∀ k a, (∀ q ∈ a, q ∈ C k) → ∀ p ∈ spanL S a, p ∈ C k) (hCn : ∀ k, ∀ p ∈ C k, p < S.1) (ks0 : List Nat) (h0 : ∀ p, p < S.1 → ∃ k ∈ ks0, p ∉ C k) :
    ∃ ks : List Nat, (∀ k ∈ ks, k ∈ ks0) ∧ ks.length ≤ numberIn S ∧ ∀ p, p < S.1 → ∃ k ∈ ks, p ∉ C k := by
  obtain ⟨ks, ⟨k1, k2⟩, k3⟩ := least_of (fun ks : List Nat => (∀ k ∈ ks, k ∈ ks0) ∧ ∀ p, p < S.1 → ∃ k ∈ ks, p ∉ C k) List.length ⟨ks0, fun k h => h, h0⟩
  refine ⟨ks, k1, ?_, k2⟩
  have hex : ∀ i, ∃ p, i < ks.length → p < S.1 ∧ ∀ k ∈ ks.eraseIdx i, p ∈ C k := fun i => by
    by_cases hi : i < ks.length
    · have := k3 (ks.eraseIdx i) (by rw [List.length_eraseIdx, if_pos hi]; omega)
      have hn : ¬ ∀ p, p < S.1 → ∃ k ∈ ks.eraseIdx i, p ∉ C k := fun z => this ⟨fun k hk => k1 k (List.mem_of_mem_eraseIdx hk), z⟩
      simp only [Classical.not_forall, not_exists, not_and, Classical.not_not] at hn
      obtain ⟨p, hp, hq⟩ := hn
      exact ⟨p, fun _ => ⟨hp, hq⟩⟩
    · exact ⟨0, fun z => absurd z hi⟩
  let f : Nat → Nat := fun i => Classical.choose (hex i)
  have hf : ∀ i, i < ks.length → f i < S.1 ∧ ∀ k ∈ ks.eraseIdx i, f i ∈ C k := fun i => Classical.choose_spec (hex i)
  have inj : ∀ i j, i < ks.length → j < ks.length → i ≠ j → f i ≠ f j := fun i j hi hj hij e => by
    obtain ⟨k, hk, hn⟩ := k2 (f i) (hf i hi).1
    obtain ⟨a, ha⟩ := List.mem_iff_getElem?.mp hk
    by_cases h : a = i
    · subst h
      rw [e] at hn
      exact hn ((hf j hj).2 k (erase_mem ha hij))
    · exact hn ((hf i hi).2 k (erase_mem ha h))
  have nd : ((List.range ks.length).map f).Nodup := by
    refine List.pairwise_map.mpr ?_
    have : (List.range ks.length).Pairwise (· < ·) := List.pairwise_lt_range
    exact this.imp_of_mem fun {a b} ha hb h => inj a b (List.mem_range.mp ha) (List.mem_range.mp hb) (Nat.ne_of_lt h)
  have hm : ∀ x, x ∈ sortU ((List.range ks.length).map f) ↔ ∃ i, i < ks.length ∧ f i = x := fun x => by
    rw [sortU_mem, List.mem_map]
    simp only [List.mem_range]
  have hl : (sortU ((List.range ks.length).map f)).length = ks.length := by
    have : (sortU ((List.range ks.length).map f)).Perm ((List.range ks.length).map f) := (List.perm_ext_iff_of_nodup (sortU_nd _) nd).mpr fun x => sortU_mem
    rw [this.length_eq, List.length_map, List.length_range]
  rw [← hl]
  refine stray_le hS (mem_straysL.mpr ⟨sortU_lt _, fun p hp => ?_, fun z => ?_, ?_⟩)
  · obtain ⟨i, hi, rfl⟩ := (hm p).mp hp
    exact (hf i hi).1
  · rw [z] at hl
    have : ks = [] := List.eq_nil_of_length_eq_zero hl.symm
    subst this
    obtain ⟨k, hk, _⟩ := k2 0 hS.pos
    cases hk
  · rw [List.eq_nil_iff_forall_not_mem]
    intro p hp
    obtain ⟨p1, p2⟩ := mem_coreL.mp hp
    obtain ⟨k, hk, hn⟩ := k2 p p1
    obtain ⟨i, hi⟩ := List.mem_iff_getElem?.mp hk
    have hil : i < ks.length := (List.getElem?_eq_some_iff.mp hi).1
    refine hn (hC k _ (fun q hq => ?_) p (p2 (f i) ((hm _).mpr ⟨i, hil, rfl⟩)))
    obtain ⟨q1, q2⟩ := mem_dropL.mp hq
    obtain ⟨j, hj, rfl⟩ := (hm q).mp q1
    exact (hf j hj).2 k (erase_mem hi fun e => q2 (by rw [e]))
theorem borne_safe {S G : Sp2} (hS : OkSp S) (ho : Open G (numberIn S) []) {told : List Nat} (hl : told.length = G.1) (ht : ∀ p ∈ told, p < S.1) : safeL S G told ≠ [] := by
  intro z
  obtain ⟨ks, h1, h2, h3⟩ := helly (S := S) (G := G) hS (fun k => spanL S (restM told (G.2.getD k []))) (fun k a h p hp => span_mono h hp) (fun k p hp => (mem_spanL.mp hp).1) (List.range G.2.length) fun p hp => by
    false_or_by_contra
    rename_i hn
    have : p ∈ safeL S G told := mem_safeL.mpr ⟨hp, fun c hc => by
      obtain ⟨k, hk⟩ := List.mem_iff_getElem?.mp hc
      false_or_by_contra
      rename_i hx
      refine hn ⟨k, List.mem_range.mpr (List.getElem?_eq_some_iff.mp hk).1, ?_⟩
      rw [List.getD_eq_getElem?_getD, hk]
      exact hx⟩
    rw [z] at this
    cases this
  have hb := ho ks h2 fun k hk => List.mem_range.mp (h1 k hk)
  obtain ⟨t, ht'⟩ := List.exists_mem_of_ne_nil _ hb
  obtain ⟨t1, t2⟩ := bare_iff.mp ht'
  have hg : told[t]? = some (told[t]'(by omega)) := List.getElem?_eq_getElem (by omega)
  have hp := ht _ (List.mem_of_getElem? hg)
  obtain ⟨k, hk, hn⟩ := h3 _ hp
  exact hn (span_has (mem_restM.mpr ⟨t, hg, t2 k hk⟩) hp)
theorem allT_all {n : Nat} : ∀ {k : Nat} {r : List Nat}, r.length = k → (∀ p ∈ r, p < n) → r ∈ allT n k
  | 0, r, hl, _ => by
    have : r = [] := List.eq_nil_of_length_eq_zero hl
    subst this
    exact List.mem_singleton.mpr rfl
  | k + 1, r, hl, h => by
    have hne : r ≠ [] := fun z => by rw [z] at hl; cases hl
    show r ∈ (allT n k).flatMap _
    exact List.mem_flatMap.mpr ⟨r.dropLast, allT_all (by rw [List.length_dropLast, hl]; rfl) fun p hp => h p ((List.dropLast_sublist r).subset hp), List.mem_map.mpr ⟨r.getLast hne, List.mem_range.mpr (h _ (List.getLast_mem hne)), List.dropLast_concat_getLast hne⟩⟩
/-- borne: just if there always is a safe point -/
theorem told_borne {S G : Sp2} (hS : OkSp S) (hG : OkSys G) : ((allT S.1 G.1).filter fun r => (safeL S G r).isEmpty).isEmpty = stays G (numberIn S) [] := by
  cases hb : stays G (numberIn S) [] with
  | true =>
    have ho := stays_open.mp hb
    rw [List.isEmpty_iff, List.filter_eq_nil_iff]
    intro r hr
    obtain ⟨h1, h2⟩ := allT_row hr
    rw [List.isEmpty_iff]
    exact borne_safe hS ho h1 h2
  | false =>
    have hn := hG.n
    rw [stays_least hG] at hb
    cases hc : covL G with
    | nil => rw [hc] at hb; cases hb
    | cons c rs =>
      rw [hc] at hb
      have hb := of_decide_eq_false hb
      have hcm : c ∈ covL G := by rw [hc]; exact List.mem_cons_self
      obtain ⟨c1, c2, c3⟩ := mem_covsL.mp (mem_covL.mp hcm).1
      have hpos : 1 ≤ c.length := by
        cases c with
        | nil => exact absurd c3 (bare_nil hG.pos)
        | cons a r => exact Nat.succ_le_succ (Nat.zero_le _)
      obtain ⟨l, hl, e⟩ := stray_size hS hpos (by omega)
      have hd := dealt_safe (G := G) c2 c3 e.symm hl
      have hm : dealtM G c l ∈ (allT S.1 G.1).filter fun r => (safeL S G r).isEmpty :=
        List.mem_filter.mpr ⟨allT_all (dealt_len _ _ _) (dealt_lt c3 e.symm (mem_straysL.mp hl).2.1), by rw [List.isEmpty_iff]; exact hd⟩
      cases hq : (allT S.1 G.1).filter fun r => (safeL S G r).isEmpty with
      | nil => rw [hq] at hm; cases hm
      | cons a r => rfl
end SG
set_option Elab.async false
set_option linter.all false
set_option maxRecDepth 100000
set_option maxHeartbeats 4000000
namespace SG
open PySem PySem.Spec PyProof.Rows L2
/-! what is drawn is good -/
theorem ltN_total {a b : List Nat} (h1 : ltN b a = false) (h2 : a ≠ b) : ltN a b = true := by
  cases h : ltN a b with
  | true => rfl
  | false => exact absurd (castL_inj (lex_eq _ _ h h1)) h2
theorem srt_lt {ls : List (List Nat)} (h : ls.Pairwise fun a b => ltN b a = false) (n : ls.Nodup) : ls.Pairwise fun a b => ltN a b = true :=
  (List.pairwise_and_iff.mpr ⟨h, n⟩).imp fun {a b} h => ltN_total h.1 h.2
theorem made_nd (ls : List (List Nat)) : (sortL (keysOf ls)).Nodup := (sortL_perm _).nodup_iff.mpr (keysOf_nd ls)
theorem made_mem {ls : List (List Nat)} {l : List Nat} : l ∈ sortL (keysOf ls) ↔ l ∈ ls := by rw [(sortL_perm _).mem_iff, keysOf_mem]
theorem made_srt (ls : List (List Nat)) : (sortL (keysOf ls)).Pairwise fun a b => ltN a b = true := srt_lt (sortL_srt _) (made_nd ls)
theorem sub_len {α : Type} : ∀ {a b : List α}, a.Nodup → (∀ x ∈ a, x ∈ b) → a.length ≤ b.length
  | [], _, _, _ => Nat.zero_le _
  | x :: a, b, n, h => by
    obtain ⟨n1, n2⟩ := List.nodup_cons.mp n
    obtain ⟨i, j, e⟩ := List.append_of_mem (h x List.mem_cons_self)
    subst e
    have := sub_len (b := i ++ j) n2 fun y hy => by
      have := h y (List.mem_cons_of_mem _ hy)
      rcases List.mem_append.mp this with z | z
      · exact List.mem_append_left _ z
      · rcases List.mem_cons.mp z with w | w
        · subst w; exact absurd hy n1
        · exact List.mem_append_right _ w
    simp only [List.length_append, List.length_cons] at this ⊢
    omega
structure GoodL (n : Nat) (ls : List (List Nat)) : Prop where
  asc : ∀ l ∈ ls, l.Pairwise (· < ·)
  lt : ∀ l ∈ ls, ∀ p ∈ l, p < n
  nil : [] ∈ ls
  full : List.range n ∈ ls
  meet : ∀ a ∈ ls, ∀ b ∈ ls, commonL a b ∈ ls
theorem made_ok {n : Nat} {ls : List (List Nat)} (h1 : 1 ≤ n) (h5 : n ≤ 5) (h : GoodL n ls) : OkSp (madeL n ls) := by
  refine ⟨h1, h5, ?_, fun l hl => h.asc l (made_mem.mp hl), fun l hl => h.lt l (made_mem.mp hl), made_srt ls, made_mem.mpr h.nil, made_mem.mpr h.full, fun a ha b hb => made_mem.mpr (h.meet a (made_mem.mp ha) b (made_mem.mp hb))⟩
  show (sortL (keysOf ls)).length ≤ 32
  refine Nat.le_trans (sub_len (b := lawLots n) (made_nd ls) fun l hl => lots_iff.mpr ⟨h.asc l (made_mem.mp hl), h.lt l (made_mem.mp hl)⟩) ?_
  rw [lots_len]
  exact Nat.pow_le_pow_right (n := 2) (by decide) h5
theorem common_pw {a : List Nat} (h : a.Pairwise (· < ·)) (b : List Nat) : (commonL a b).Pairwise (· < ·) := h.sublist List.filter_sublist
theorem good_lots (n : Nat) : GoodL n (lawLots n) :=
  ⟨fun l hl => (lots_iff.mp hl).1, fun l hl => (lots_iff.mp hl).2, lots_iff.mpr ⟨.nil, fun p hp => nomatch hp⟩, lots_iff.mpr ⟨List.pairwise_lt_range, fun p hp => List.mem_range.mp hp⟩, fun a ha b _ => lots_iff.mpr ⟨common_pw (lots_iff.mp ha).1 b, fun p hp => (lots_iff.mp ha).2 p (mem_common.mp hp).1⟩⟩
theorem ruleOk_iff {gs : List (List Nat × Nat)} {l : List Nat} : ruleOk gs l = true ↔ ∀ g ∈ gs, (∀ q ∈ g.1, q ∈ l) → g.2 ∈ l := by
  unfold ruleOk
  rw [List.isEmpty_iff, List.filter_eq_nil_iff]
  refine forall_congr' fun g => forall_congr' fun _ => ?_
  rw [Bool.and_eq_true, hasL_iff, Bool.not_eq_true', decide_eq_false_iff_not]
  constructor
  · intro h z
    false_or_by_contra
    rename_i hn
    exact h ⟨hn, z⟩
  · rintro h ⟨h1, h2⟩
    exact h1 (h h2)
theorem good_rules {n : Nat} {gs : List (List Nat × Nat)} (h1 : ∀ g ∈ gs, g.1 ≠ []) (h2 : ∀ g ∈ gs, g.2 < n) : GoodL n ((lawLots n).filter (ruleOk gs)) := by
  have g0 := good_lots n
  refine ⟨fun l hl => g0.asc l (List.mem_filter.mp hl).1, fun l hl => g0.lt l (List.mem_filter.mp hl).1, List.mem_filter.mpr ⟨g0.nil, ruleOk_iff.mpr fun g hg hq => ?_⟩, List.mem_filter.mpr ⟨g0.full, ruleOk_iff.mpr fun g hg _ => List.mem_range.mpr (h2 g hg)⟩, fun a ha b hb => ?_⟩
  · obtain ⟨q, hq'⟩ := List.exists_mem_of_ne_nil _ (h1 g hg)
    have := hq q hq'
    cases this
  · obtain ⟨a1, a2⟩ := List.mem_filter.mp ha
    obtain ⟨b1, b2⟩ := List.mem_filter.mp hb
    refine List.mem_filter.mpr ⟨g0.meet a a1 b b1, ruleOk_iff.mpr fun g hg hq => mem_common.mpr ⟨ruleOk_iff.mp a2 g hg fun q h => (mem_common.mp (hq q h)).1, ruleOk_iff.mp b2 g hg fun q h => (mem_common.mp (hq q h)).2⟩⟩
theorem common_full {n : Nat} {l : List Nat} (h : ∀ p ∈ l, p < n) : commonL l (List.range n) = l := List.filter_eq_self.mpr fun p hp => decide_eq_true (List.mem_range.mpr (h p hp))
theorem common_ext {a b c : List Nat} (ha : a.Pairwise (· < ·)) (hc : c.Pairwise (· < ·)) (h : ∀ x, (x ∈ a ∧ x ∈ b) ↔ x ∈ c) : commonL a b = c :=
  pw_ext (common_pw ha b) hc fun x => by rw [mem_common]; exact h x
theorem good_step {n : Nat} {rows : List (List Nat)} {l : List Nat} (g : GoodL n rows) (h1 : l.Pairwise (· < ·)) (h2 : ∀ p ∈ l, p < n) : GoodL n (metStep rows l) := by
  have hm : ∀ {r}, r ∈ metStep rows l ↔ r ∈ rows ∨ ∃ q ∈ rows, commonL l q = r := fun {r} => by
    unfold metStep
    rw [keysOf_mem, List.mem_append, List.mem_append, List.mem_map, List.mem_singleton]
    constructor
    · rintro (z | z | z)
      · exact .inl z
      · exact .inr z
      · subst z; exact .inr ⟨List.range n, g.full, common_full h2⟩
    · rintro (z | z)
      · exact .inl z
      · exact .inr (.inl z)
  refine ⟨fun r hr => ?_, fun r hr p hp => ?_, hm.mpr (.inl g.nil), hm.mpr (.inl g.full), fun a ha b hb => ?_⟩
  · rcases hm.mp hr with z | ⟨q, hq, rfl⟩
    · exact g.asc r z
    · exact common_pw h1 q
  · rcases hm.mp hr with z | ⟨q, hq, rfl⟩
    · exact g.lt r z p hp
    · exact h2 p (mem_common.mp hp).1
  · rcases hm.mp ha with z | ⟨q, hq, rfl⟩
    · rcases hm.mp hb with w | ⟨q', hq', rfl⟩
      · exact hm.mpr (.inl (g.meet a z b w))
      · refine hm.mpr (.inr ⟨commonL a q', g.meet a z q' hq', Eq.symm ?_⟩)
        refine common_ext (g.asc a z) (common_pw h1 _) fun x => ?_
        simp only [mem_common]
        exact ⟨fun ⟨x1, x2, x3⟩ => ⟨x2, x1, x3⟩, fun ⟨x1, x2, x3⟩ => ⟨x2, x1, x3⟩⟩
    · rcases hm.mp hb with w | ⟨q', hq', rfl⟩
      · refine hm.mpr (.inr ⟨commonL q b, g.meet q hq b w, Eq.symm ?_⟩)
        refine common_ext (common_pw h1 _) (common_pw h1 _) fun x => ?_
        simp only [mem_common, and_assoc]
      · refine hm.mpr (.inr ⟨commonL q q', g.meet q hq q' hq', Eq.symm ?_⟩)
        refine common_ext (common_pw h1 _) (common_pw h1 _) fun x => ?_
        simp only [mem_common, and_assoc]
        exact ⟨fun ⟨x1, x2, x3, x4⟩ => ⟨x1, x2, x4⟩, fun ⟨x1, x2, x4⟩ => ⟨x1, x2, x1, x4⟩⟩
theorem good_met {n : Nat} {ls : List (List Nat)} (h : ∀ l ∈ ls, l.Pairwise (· < ·) ∧ ∀ p ∈ l, p < n) : GoodL n (metRows n ls) := by
  have key : ∀ (ls rows : List (List Nat)), (∀ l ∈ ls, l.Pairwise (· < ·) ∧ ∀ p ∈ l, p < n) → GoodL n rows → GoodL n (ls.foldl metStep rows) := by
    intro ls
    induction ls with
    | nil => intro rows _ g; exact g
    | cons l ls ih =>
      intro rows h g
      exact ih _ (fun m hm => h m (List.mem_cons_of_mem _ hm)) (good_step g (h l List.mem_cons_self).1 (h l List.mem_cons_self).2)
  refine key ls [[], List.range n] h ⟨fun l hl => ?_, fun l hl p hp => ?_, List.mem_cons_self, List.mem_cons_of_mem _ List.mem_cons_self, fun a ha b hb => ?_⟩
  · rcases List.mem_cons.mp hl with z | z
    · subst z; exact .nil
    · rw [List.mem_singleton.mp z]; exact List.pairwise_lt_range
  · rcases List.mem_cons.mp hl with z | z
    · subst z; cases hp
    · rw [List.mem_singleton.mp z] at hp; exact List.mem_range.mp hp
  · rcases List.mem_cons.mp ha with z | z
    · subst z; exact List.mem_cons_self
    · rw [List.mem_singleton.mp z]
      rcases List.mem_cons.mp hb with w | w
      · subst w
        have : commonL (List.range n) [] = [] := by
          rw [List.eq_nil_iff_forall_not_mem]
          intro x hx
          exact nomatch (mem_common.mp hx).2
        rw [this]; exact List.mem_cons_self
      · rw [List.mem_singleton.mp w, common_full fun p hp => List.mem_range.mp hp]
        exact List.mem_cons_of_mem _ List.mem_cons_self
theorem line_good {n : Nat} : (∀ g ∈ lineL n, g.1 ≠ []) ∧ ∀ g ∈ lineL n, g.2 < n := by
  have key : ∀ g ∈ lineL n, g.1 ≠ [] ∧ g.2 < n := fun g hg => by
    unfold lineL at hg
    obtain ⟨a, ha, h2⟩ := List.mem_flatMap.mp hg
    obtain ⟨j, hj, h3⟩ := List.mem_flatMap.mp h2
    obtain ⟨m, hm, rfl⟩ := List.mem_map.mp h3
    rw [List.mem_range] at ha hj hm
    exact ⟨by simp, by show a + 1 + m < n; omega⟩
  exact ⟨fun g hg => (key g hg).1, fun g hg => (key g hg).2⟩
theorem drT_fs {n : Nat} (hn : 0 < n) (s : LS) : ∀ j, ∀ g ∈ (drT n s j).fs, g.1 ≠ [] ∧ g.2 < n
  | 0, g, h => nomatch h
  | j + 1, g, h => by
    simp only [drT] at h
    split at h
    · rename_i hc
      rcases List.mem_append.mp h with z | z
      · exact drT_fs hn s j g z
      · rw [List.mem_singleton.mp z]
        refine ⟨fun e => ?_, draw_lt hn⟩
        have e : (lotS n (drT n s j).s).1 = [] := e
        rw [e] at hc
        cases hc
    · exact drT_fs hn s j g h
theorem drawn_good {n : Nat} (h1 : 1 ≤ n) (h5 : n ≤ 5) (s : LS) : OkSp (drawn n s).1 := by
  unfold drawn
  split
  · exact made_ok h1 h5 (good_lots n)
  · split
    · exact made_ok h1 h5 (good_rules line_good.1 line_good.2)
    · show OkSp (if _ then _ else _)
      split
      · refine made_ok h1 h5 (good_met fun l hl => ?_)
        have := (drT_rows n (draw (draw s 6).2 6).2 (draw (draw s 6).2 6).1).1 l hl
        exact ⟨this.1, this.2.1⟩
      · have := drT_fs (n := n) (by omega) (draw (draw s 6).2 6).2 (draw (draw s 6).2 6).1
        exact made_ok h1 h5 (good_rules (fun g hg => (this g hg).1) fun g hg => (this g hg).2)
theorem drawn_n (n : Nat) (s : LS) : (drawn n s).1.1 = n := by
  unfold drawn
  split
  · rfl
  · split
    · rfl
    · show (if _ then _ else _ : Sp2).1 = n
      split <;> rfl
/-! systems -/
theorem gangs_mem {ls : List (List Nat)} {c : List Nat} : c ∈ gangsOf ls ↔ c ∈ ls ∧ ∀ f ∈ ls, f ≠ c → ¬ ∀ q ∈ c, q ∈ f := by
  unfold gangsOf
  rw [List.mem_filter, List.isEmpty_iff, List.filter_eq_nil_iff]
  refine and_congr_right fun _ => forall_congr' fun f => forall_congr' fun _ => ?_
  rw [Bool.and_eq_true, hasL_iff, Bool.not_eq_true', decide_eq_false_iff_not]
  exact ⟨fun h z w => h ⟨z, w⟩, fun h z => h z.1 z.2⟩
theorem crews_good {n : Nat} (h1 : 1 ≤ n) (s : LS) : crewsS n s ≠ [] ∧ (crewsS n s).length ≤ max 4 n ∧ ∀ l ∈ crewsS n s, l.Pairwise (· < ·) ∧ ∀ p ∈ l, p < n := by
  unfold crewsS
  split
  · refine ⟨fun z => ?_, by rw [List.length_map, List.length_range]; omega, fun l hl => ?_⟩
    · have := congrArg List.length z
      rw [List.length_map, List.length_range] at this
      simp at this
      omega
    · obtain ⟨t, ht, rfl⟩ := List.mem_map.mp hl
      exact ⟨List.pairwise_singleton _ _, fun p hp => by rw [List.mem_singleton.mp hp]; exact List.mem_range.mp ht⟩
  · have hl := crewF_len n (List.range (1 + (draw s 4).1)) (draw s 4).2
    rw [List.length_range] at hl
    have h4 := draw_lt (s := s) (m := 4) (by decide)
    refine ⟨fun z => ?_, by omega, fun l hl => ?_⟩
    · rw [z] at hl
      simp at hl
      omega
    · have := crewF_lot n _ _ l hl
      exact ⟨this.1, this.2.1⟩
theorem longest : ∀ (ls : List (List Nat)), ls ≠ [] → ∃ l ∈ ls, ∀ m ∈ ls, m.length ≤ l.length
  | [], h => absurd rfl h
  | [a], _ => ⟨a, List.mem_cons_self, fun m hm => by rw [List.mem_singleton.mp hm]; exact Nat.le_refl _⟩
  | a :: b :: ls, _ => by
    obtain ⟨l, h1, h2⟩ := longest (b :: ls) (by simp)
    by_cases h : l.length ≤ a.length
    · exact ⟨a, List.mem_cons_self, fun m hm => by
        rcases List.mem_cons.mp hm with z | z
        · rw [z]; exact Nat.le_refl _
        · exact Nat.le_trans (h2 m z) h⟩
    · exact ⟨l, List.mem_cons_of_mem _ h1, fun m hm => by
        rcases List.mem_cons.mp hm with z | z
        · rw [z]; omega
        · exact h2 m z⟩
theorem system_good {n : Nat} (h1 : 1 ≤ n) (h5 : n ≤ 5) (s : LS) : OkSys (systemS n s).1 := by
  obtain ⟨c1, c2, c3⟩ := crews_good h1 s
  show OkSys (n, gangsOf (sortL (keysOf (crewsS n s))))
  generalize crewsS n s = cs at c1 c2 c3
  have hg : ∀ {c}, c ∈ gangsOf (sortL (keysOf cs)) ↔ c ∈ cs ∧ ∀ f ∈ cs, f ≠ c → ¬ ∀ q ∈ c, q ∈ f := fun {c} => by
    rw [gangs_mem, made_mem]
    exact and_congr_right fun _ => ⟨fun h f hf => h f (made_mem.mpr hf), fun h f hf => h f (made_mem.mp hf)⟩
  refine ⟨h1, h5, ?_, ?_, fun l hl => (c3 l (hg.mp hl).1).1, fun l hl => (c3 l (hg.mp hl).1).2, (made_srt cs).sublist List.filter_sublist, ?_⟩
  · obtain ⟨l, l1, l2⟩ := longest cs c1
    have : l ∈ gangsOf (sortL (keysOf cs)) := hg.mpr ⟨l1, fun f hf hne hq => hne ?_⟩
    · exact List.length_pos_iff.mpr (List.ne_nil_of_mem this)
    · have pl := (c3 l l1).1
      have pf := (c3 f hf).1
      have nl : l.Nodup := pl.imp fun {a b} h => Nat.ne_of_lt h
      have nf : f.Nodup := pf.imp fun {a b} h => Nat.ne_of_lt h
      refine pw_ext pf pl fun x => ⟨fun hx => ?_, fun hx => hq x hx⟩
      false_or_by_contra
      rename_i hn
      have := sub_len (a := x :: l) (b := f) (List.nodup_cons.mpr ⟨hn, nl⟩) fun y hy => by
        rcases List.mem_cons.mp hy with z | z
        · rw [z]; exact hx
        · exact hq y z
      have := l2 f hf
      simp at *
      omega
  · show (gangsOf (sortL (keysOf cs))).length ≤ 5
    refine Nat.le_trans (List.length_filter_le _ _) ?_
    rw [(sortL_perm _).length_eq]
    refine Nat.le_trans (keysOf_len cs) ?_
    omega
  · have nd : (gangsOf (sortL (keysOf cs))).Nodup := (made_nd cs).sublist List.filter_sublist
    have ex : ∀ a ∈ gangsOf (sortL (keysOf cs)), ∀ b ∈ gangsOf (sortL (keysOf cs)), a ≠ b → ∃ p ∈ a, p ∉ b := fun a ha b hb hne => by
      have := (hg.mp ha).2 b (hg.mp hb).1 (Ne.symm hne)
      false_or_by_contra
      rename_i hn
      refine this fun q hq => ?_
      false_or_by_contra
      exact hn ⟨q, hq, by assumption⟩
    exact List.Pairwise.imp_of_mem (fun {a b} ha hb hne => ⟨ex a ha b hb hne, ex b hb a ha (Ne.symm hne)⟩) nd
theorem system_n (n : Nat) (s : LS) : (systemS n s).1.1 = n := rfl
end SG
set_option Elab.async false
set_option linter.all false
set_option maxRecDepth 100000
set_option maxHeartbeats 4000000
/-! x[::-1] of a tuple -/
namespace SG
open PySem PySem.Spec PyProof.Rows L2
section
variable {prog : Program} {w : World} {A : Around} {E : Value → Shared → Prop} {s : Shared}
theorem rev_adj (n : Nat) : Builtin.Slice.sliceAdjust none none (-1) (n : Int) = ((n : Int) - 1, -1) := by
  unfold Builtin.Slice.sliceAdjust
  simp
theorem rev_places (n : Nat) : Builtin.Slice.slicePlaces ((n : Int) - 1) (-1) (-1) = n := by
  unfold Builtin.Slice.slicePlaces
  simp
  omega
theorem rev_pick (xs : Array Value) : ((List.range xs.size).filterMap fun (k : Nat) => xs[((xs.size : Int) - 1 + (k : Int) * (-1)).toNat]?).toArray = xs.toList.reverse.toArray := by
  congr 1
  have e : ∀ k, k < xs.size → xs[((xs.size : Int) - 1 + (k : Int) * (-1)).toNat]? = xs.toList.reverse[k]? := fun k hk => by
    have : ((xs.size : Int) - 1 + (k : Int) * (-1)).toNat = xs.size - 1 - k := by omega
    rw [this, List.getElem?_reverse (by simpa using hk), Array.getElem?_toList]
    simp
  have key : ∀ n, n ≤ xs.size → ((List.range n).filterMap fun (k : Nat) => xs[((xs.size : Int) - 1 + (k : Int) * (-1)).toNat]?) = xs.toList.reverse.take n := by
    intro n
    induction n with
    | zero => intro _; rfl
    | succ n ih =>
      intro hn
      rw [List.range_succ, List.filterMap_append, ih (by omega), List.take_add_one]
      congr 1
      rw [List.filterMap_cons, e n (by omega)]
      cases xs.toList.reverse[n]? <;> rfl
  rw [key xs.size (Nat.le_refl _), List.take_of_length_le (by simp)]
theorem rev_applied {sl : Addr} {vl vu vs : Value} {n : Nat} {Q : Int × Int × Nat → Shared → Prop} (hs : s.heap.IsSliceOf sl vl vu vs) (pl : IsPart vl none) (pu : IsPart vu none) (ps : IsPart vs (some (-1))) (h : Q ((n : Int) - 1, -1, n) s) :
    wpAny (model prog w) A (Builtin.Slice.sliceApplied (.ref sl) (pure (n : Int))) Q E s := by
  obtain ⟨os, g1, g2, g3⟩ := id hs
  unfold Builtin.Slice.sliceApplied Builtin.Slice.sliceFields
  refine wpAny_bind (wpAny_bind (wpAny_field g1 g3 (x := vl) rfl (wpAny_bind (wpAny_field g1 g3 (x := vu) rfl (wpAny_bind (wpAny_field g1 g3 (x := vs) rfl (wpAny_pure ?_)))))))
  refine wpAny_bind (HT.slicePart_ ps ?_)
  show wpAny _ _ (if ((-1 : Int) == 0) = true then _ else _) _ _ s
  rw [if_neg (by decide)]
  refine wpAny_bind (HT.slicePart_ pl (wpAny_bind (HT.slicePart_ pu (wpAny_bind (wpAny_pure ?_)))))
  show wpAny _ _ (match Builtin.Slice.sliceAdjust none none (-1) (n : Int) with | (lo, hi) => pure (lo, (-1 : Int), Builtin.Slice.slicePlaces lo hi (-1))) _ _ s
  rw [rev_adj]
  show wpAny _ _ (pure ((n : Int) - 1, (-1 : Int), Builtin.Slice.slicePlaces ((n : Int) - 1) (-1) (-1))) _ _ s
  rw [rev_places]
  exact wpAny_pure h
theorem rev_get {t sl : Addr} {xs : Array Value} {vl vu vs : Value} {Q : Value → Shared → Prop} (ht : IsTup s.heap t xs) (hs : s.heap.IsSliceOf sl vl vu vs) (pl : IsPart vl none) (pu : IsPart vu none) (ps : IsPart vs (some (-1))) (hz : xs.size ≤ sizeLine)
    (h : Q (.ref s.heap.objs.size) { s with heap := s.heap.push { cls := .type "tuple", data := .seq xs.toList.reverse.toArray } }) : wpAny (model prog w) A (getItem (.ref t) (.ref sl)) Q E s := by
  obtain ⟨os, g1, g2, g3⟩ := id hs
  have tS : s.TypeIs (.ref sl) "slice" := ⟨os, g1, g2⟩
  have ok : sizeOk (.seq xs.toList.reverse.toArray) := by
    show xs.toList.reverse.toArray.size ≤ sizeLine
    simpa using hz
  unfold getItem
  try with_reducible refine wpAny_holding ?_
  first | refine wpAny_bind (wpAny_pure ?_) | skip
  refine wpAny_bind (wpAny_sequenceKey ht.typeIs (by decide) ?_)
  refine wpAny_bind (wpAny_callSpecial?_slot (name := Str.ofString "__getitem__") ht.typeIs PyProof.Rows.slot_tuple_getitem (wpAny_call_entry PyProof.Rows.slot_tuple_getitem ht.typeIs entry_tuple_getitem ?_ (args_tuple_getitem _ _)))
  show wpAny _ _ (Builtin.Tuple.tupleItemsOf (.ref t) >>= _) _ _ s
  refine wpAny_bind (tupleItemsOf_ ht (wpAny_bind (wpAny_typeOf tS ?_)))
  rw [if_pos (by decide)]
  refine wpAny_bind (rev_applied hs pl pu ps ?_)
  show wpAny _ _ (if (((xs.size : Int) - 1 == 0 && (-1 : Int) == 1 && xs.size == xs.size) = true) then _ else _) _ _ s
  rw [if_neg (by simp), rev_pick]
  first
    | exact wpAny_bind (m := Builtin.Tuple.tupleExact _) (wpAny_newObj_type (wpAny_pure ⟨_, rfl, wpAny_pure h⟩) ok)
    | exact wpAny_bind (m := Builtin.Tuple.tupleExact _) (wpAny_newObj_type (wpAny_bind (wpAny_pure (wpAny_pure ⟨_, rfl, wpAny_pure h⟩))) ok)
    | exact wpAny_bind (wpAny_bind (m := Builtin.Tuple.tupleExact _) (wpAny_newObj_type (wpAny_pure (wpAny_pure ⟨_, rfl, wpAny_pure h⟩)) ok))
    | exact wpAny_bind (wpAny_bind (m := Builtin.Tuple.tupleExact _) (wpAny_newObj_type (wpAny_pure ⟨_, rfl, wpAny_pure h⟩) ok))
end
section
variable {X : Cx} {e : Expr} {te : TE} {k : Nat} {p1 p2 p3 pos : Pos} {W W1 : List Ow} {ρ : Rho} {ds : List PyData}
def tRevT (K : PySem.W.Frag) (te : TE) : TE := fun σ H Q => te σ H fun x H1 => ∃ a xs, x = .ref a ∧ SqT K H1 a xs ∧ ∀ p, H1 p = none → Q (.ref p) (upd H1 p (.tup xs.reverse))
theorem pe_revT (he : PE X e te) : PE X (.Subscript e (.Slice none none (some (.UnaryOp .USub (.Constant (.int 1) k p1) p2)) p3) pos) (tRevT X.K te) := by
  refine ⟨fun pins s σ H Q I h => ?_⟩
  refine Subscript_ (thn (he.run pins s σ H _ I h) fun v s1 ⟨x, H1, I1, r1, a, xs, ex, hx, q⟩ => ?_)
  subst ex
  cases r1
  have st : PO X (some (.UnaryOp .USub (.Constant (.int 1) k p1) p2)) (tPart (tUn (rU fun i => .int (-i)) (tC (.int 1)))) := po_some (pe_un un_neg pe_int)
  refine wpAny_Slice (thn (po_none.run pins s1 σ H1 (fun o G => o = none ∧ G = H1) I1 ⟨rfl, rfl⟩) fun vl s2 ⟨l, G2, I2, pl, el, e2⟩ => ?_)
  obtain rfl := el
  obtain rfl := e2
  refine thn (po_none.run pins s2 σ G2 (fun o G => o = none ∧ G = G2) I2 ⟨rfl, rfl⟩) fun vu s3 ⟨u, G3, I3, pu, eu, e3⟩ => ?_
  obtain rfl := eu
  obtain rfl := e3
  refine thn (st.run pins s3 σ G3 (fun o G => o = some (-1) ∧ G = G3) I3 ⟨1, rfl, -1, rfl, rfl, rfl⟩) fun vs s4 ⟨o, G4, I4, ps, eo, e4⟩ => ?_
  obtain rfl := eo
  obtain rfl := e4
  have I5 : Inv X pins σ G4 { s4 with heap := s4.heap.push { cls := .type "slice", data := .fields #[vl, vu, vs] } } := I4.kept (t' := s4.toks) fun b ob q => Heap.get?_push_of_some _ q
  obtain ⟨its, r, ht, hz⟩ := I5.tuple hx
  have hl := r.length
  show wpAny (model X.prog X.w) X.A (subscriptTail e (.Slice none none (some (.UnaryOp .USub (.Constant (.int 1) k p1) p2)) p3) (.ref a) (.ref s4.heap.objs.size)) (EP X pins σ Q) X.xe { s4 with heap := s4.heap.push { cls := .type "slice", data := .fields #[vl, vu, vs] } }
  refine tail_any (ops := [.ref a, .ref s4.heap.objs.size]) ht.typeIs PyProof.Rows.slot_tuple_getitem.lookup ?_ (by with_unfolding_all rfl)
  refine rev_get ht (Heap.IsSliceOf.new _ vl vu vs) pl pu ps (by rw [List.size_toArray]; omega) ?_
  exact ⟨.ref _, _, I5.laid (t' := s4.toks) (o := .tup xs.reverse) (fun b ob q => Heap.get?_push_of_some _ q) (Nat.le_refl _) ⟨by rw [List.length_reverse]; exact hz, _, r.reverse, IsTup.new _ _⟩, rfl, q _ (I5.hok.fresh (Nat.le_refl _))⟩
theorem DaL.rev {F : Hp} : ∀ {ds : List PyData} {xs : List V}, DaL F ds xs → DaL F ds.reverse xs.reverse
  | [], _, h => by simp only [DaL] at h; subst h; exact DaL.nil
  | d :: ds, _, h => by
    simp only [DaL] at h
    obtain ⟨y, ys, rfl, h2, h3⟩ := h
    rw [List.reverse_cons, List.reverse_cons]
    exact (DaL.rev h3).append (DaL.cons h2 DaL.nil)
theorem r_rev (he : PE X e (tE W ρ (.d (.tuple ds)) W1)) : PE X (.Subscript e (.Slice none none (some (.UnaryOp .USub (.Constant (.int 1) k p1) p2)) p3) pos) (tE W ρ (.d (.tuple ds.reverse)) W1) :=
  PEto (pe_revT he) fun σ H Q ⟨Z, c, q⟩ => ⟨Z, c, fun v H1 g1 d1 q1 => by
    rw [rp_tup] at q1
    obtain ⟨a, xs, rfl, h1, h2⟩ := q1
    refine ⟨a, xs, rfl, SqT.of (off_sub _ _ h1), fun p hp => ?_⟩
    have sm := upd_ext (o := .tup xs.reverse) hp
    refine q _ _ (g1.trans (Go.same sm)) (d1.same sm) ?_
    rw [rp_tup]
    exact ⟨p, _, rfl, off_new d1.lv hp, DaL.mono (off_same sm) _ _ h2.rev⟩⟩
end
end SG
set_option Elab.async false
set_option linter.all false
set_option maxRecDepth 100000
set_option maxHeartbeats 4000000
namespace SG
open PySem PySem.Spec PyProof.Rows L2
/-! a thing with something otherwise at any depth -/
def bentSome : List PyData := [.none, .tuple [], .int 0, .int 1, .int (-1), .bool true, .str "cores", .str "stray", .tuple [.int 0], .tuple [.int 0, .int 1], .list [.int 0], .int 9, .tuple [.tuple [.int 0], .tuple [.int 1], .int 0]]
def stepsD : List PyData := [.int 1, .int (-1), .int 1, .int (-1), .int 5]
def bentT (rec : LS → PyData → PyData × LS) (s : LS) (ds : List PyData) : PyData × LS :=
  if (draw s 7).1 = 0 then ofS bentSome (draw s 7).2
  else match (draw (draw (draw s 7).2 ds.length).2 8).1 with
    | 0 => (.tuple (ds.take (draw (draw s 7).2 ds.length).1 ++ ds.drop ((draw (draw s 7).2 ds.length).1 + 1)), (draw (draw (draw s 7).2 ds.length).2 8).2)
    | 1 => (.tuple (ds.take (draw (draw s 7).2 ds.length).1 ++ [(ofS bentSome (draw (draw (draw s 7).2 ds.length).2 8).2).1] ++ ds.drop (draw (draw s 7).2 ds.length).1), (ofS bentSome (draw (draw (draw s 7).2 ds.length).2 8).2).2)
    | 2 => (.tuple ds.reverse, (draw (draw (draw s 7).2 ds.length).2 8).2)
    | 3 => (.list ds, (draw (draw (draw s 7).2 ds.length).2 8).2)
    | _ => (.tuple (ds.take (draw (draw s 7).2 ds.length).1 ++ [(rec (draw (draw (draw s 7).2 ds.length).2 8).2 (ds.getD (draw (draw s 7).2 ds.length).1 .none)).1] ++ ds.drop ((draw (draw s 7).2 ds.length).1 + 1)), (rec (draw (draw (draw s 7).2 ds.length).2 8).2 (ds.getD (draw (draw s 7).2 ds.length).1 .none)).2)
def bentB (rec : LS → PyData → PyData × LS) (s : LS) (d : PyData) : PyData × LS := match d with
  | .tuple (x :: xs) => bentT rec s (x :: xs)
  | _ => ofS bentSome s
def bent : Nat → LS → PyData → PyData × LS
  | 0, s, d => (d, s)
  | n + 1, s, d => if isInt d (-9) 99 = true then (if 0 < (draw s 3).1 then (.int (toI d + toI (ofS stepsD (draw s 3).2).1), (ofS stepsD (draw s 3).2).2) else bentB (bent n) (draw s 3).2 d) else bentB (bent n) s d
theorem ofS_ok {b : Nat} {s : LS} (h : OkS b s) (ds : List PyData) : OkS (b + 1) (ofS ds s).2 := draw_ok h _
theorem bentB_ok {rec : LS → PyData → PyData × LS} {c : Nat} (hr : ∀ {b : Nat} {s : LS} (d : PyData), OkS b s → OkS (b + c) (rec s d).2) {b : Nat} {s : LS} (h : OkS b s) (d : PyData) : OkS (b + (4 + c)) (bentB rec s d).2 := by
  unfold bentB
  split
  · rename_i x xs
    have h1 := draw_ok h 7
    have h2 := draw_ok h1 (x :: xs).length
    have h3 := draw_ok h2 8
    unfold bentT
    split
    · exact (ofS_ok h1 _).mono (by omega)
    · split
      · exact h3.mono (by omega)
      · exact (ofS_ok h3 _).mono (by omega)
      · exact h3.mono (by omega)
      · exact h3.mono (by omega)
      · exact (hr _ h3).mono (by omega)
  · exact (ofS_ok h _).mono (by omega)
theorem bent_ok : ∀ (n : Nat) {b : Nat} {s : LS} (d : PyData), OkS b s → OkS (b + 6 * n) (bent n s d).2
  | 0, b, s, d, h => h
  | n + 1, b, s, d, h => by
    have hr : ∀ {b : Nat} {s : LS} (d : PyData), OkS b s → OkS (b + 6 * n) (bent n s d).2 := fun d h => bent_ok n d h
    have h1 := draw_ok h 3
    unfold bent
    split
    · split
      · exact (ofS_ok h1 _).mono (by omega)
      · exact (bentB_ok hr h1 d).mono (by omega)
    · exact (bentB_ok hr h d).mono (by omega)
theorem depth_mem : ∀ {ds : List PyData} {d : PyData}, d ∈ ds → d.depth ≤ PyData.depthAll ds
  | a :: ds, d, h => by
    simp only [PyData.depthAll]
    rcases List.mem_cons.mp h with z | z
    · rw [z]; omega
    · have := depth_mem z
      omega
theorem steps_int (s : LS) : (ofS stepsD s).1 = .int (toI (ofS stepsD s).1) := by
  have h : (draw s stepsD.length).1 < 5 := draw_lt (by decide)
  show stepsD.getD (draw s stepsD.length).1 .none = .int (toI (stepsD.getD (draw s stepsD.length).1 .none))
  match (draw s stepsD.length).1, h with
  | 0, _ => rfl
  | 1, _ => rfl
  | 2, _ => rfl
  | 3, _ => rfl
  | 4, _ => rfl
  | k + 5, h => omega
section
variable {P : Program} {w : World} {K : PySem.W.Frag} {mg : Str → Option Value} {base : Heap}
inductive F_law_bent (n : Nat) : Spec
  | mk {A : LAd} {s : LS} {d : PyData} (h : OkS (960000 - 10 * n) s) (hd : d.depth < n) (hn : n ≤ 60) (hg : Gd d) : F_law_bent n (SW A s) [stV A, .d d] (.d (bent n s d).1) (SW A (bent n s d).2)
theorem sc_law_bent : FnScope ["_law_state", "_law_thing", "_law_some", "_law_at", "_law_way"] ["_law_state", "_law_thing"] (C8.fnScope s_law_bent) := ⟨rfl, rfl, rfl, by decide +kernel, rfl, by decide +kernel, by decide +kernel⟩
theorem bi_law_bent : BindsF "_law_bent" s_law_bent ["_law_state", "_law_thing"] := fun _ _ _ _ _ _ us hl => match us, hl with | [_, _], _ => rfl
theorem f_law_bent_step (T : Top K mg) (n : Nat) (ih : Fn P w K mg base false (n + 4) "_law_bent" (F_law_bent n)) : Fn P w K mg base false (n + 5) "_law_bent" (F_law_bent (n + 1)) := by
  refine Fn.of T.s_law_bent sc_law_bent bi_law_bent (by rintro _ _ _ _ ⟨⟩; rfl) fun f cdv A outer s H E hr W rs r W' hF => ?_
  cases hF with | @mk B s0 d h hd hn hg =>
  have hr4 : Room 4 (bX P w K mg base _ _ _ f cdv A outer s H E).A := hr.mono (by omega)
  have hr3 : Room 3 (bX P w K mg base _ _ _ f cdv A outer s H E).A := hr.mono (by omega)
  have hr2 : Room 2 (bX P w K mg base _ _ _ f cdv A outer s H E).A := hr.mono (by omega)
  have hr1 : Room 1 (bX P w K mg base _ _ _ f cdv A outer s H E).A := hr.mono (by omega)
  have hsh := hg.sh
  have rest : ∀ s1, OkS (960000 - 10 * (n + 1) + 1) s1 → PSs (bX P w K mg base ["_law_state", "_law_thing", "_law_some", "_law_at", "_law_way"] "_law_bent" s_law_bent f cdv A outer s H E) ((C8.fnBody s_law_bent).drop 1) (oS (SW B s1) [some (stV B), some (.d d), none, none, none] (.rt (.d (bentB (bent n) s1 d).1) (SW B (bentB (bent n) s1 d).2))) := fun s1 h1 => by
    refine h_cons (s_set 2 (e_to (.d (.list bentSome)) (e_lst (a_cons e_non (a_cons e_nilT (a_cons e_nat (a_cons e_nat (a_cons (r_un e_nat u_neg) (a_cons e_bl (a_cons e_str (a_cons e_str (a_cons (e_tup1 (a_cons e_nat a_nil)) (a_cons (e_tup2 (a_cons e_nat (a_cons e_nat a_nil))) (a_cons (e_lst1 (a_cons e_nat a_nil)) (a_cons e_nat (a_cons (e_tup3 (a_cons (e_tup1 (a_cons e_nat a_nil)) (a_cons (e_tup1 (a_cons e_nat a_nil)) (a_cons e_nat a_nil)))) a_nil)))))))))))))) rfl) sc_law_bent.nd) ?_
    have l13 : bentSome.length = 13 := rfl
    have lw : (0 : Nat) < bentSome.length ∧ bentSome.length < 1000000 := by rw [l13]; exact ⟨by decide, by decide⟩
    by_cases ht : ∃ ds, d = .tuple ds
    rotate_left
    · have e : bentB (bent n) s1 d = ofS bentSome s1 := by cases d <;> first | rfl | exact absurd ⟨_, rfl⟩ ht
      rw [e]
      refine h_ifT (PW.pt (w_orT (t_notT (t_val (k := false) (e_eq (r_calB (a_cons (e_var 1) (a_cons (e_bty T.b_tuple rfl) a_nil)) (f_isTup (Sh.nd (by first | assumption | omega | exact hsh | decide))) T.b_isinstance rfl) ?_))))) (h_one (s_ret (r_callS (f_law_of T) hr3 (a_cons (e_var 0) (a_cons (e_var 2) a_nil)) (.mk1 (h1.mono (by omega)) lw.1 lw.2))))
      cases d <;> first | rfl | exact absurd ⟨_, rfl⟩ ht
    obtain ⟨ds, rfl⟩ := ht
    cases ds with
    | nil =>
      exact h_ifT (PW.pt (w_orF (t_notF (t_val (r_calB (a_cons (e_var 1) (a_cons (e_bty T.b_tuple rfl) a_nil)) f_isTupT T.b_isinstance rfl))) (w_orT (rt_cmp (e_var 1) e_nilT (c_nilT hr.units hsh))))) (h_one (s_ret (r_callS (f_law_of T) hr3 (a_cons (e_var 0) (a_cons (e_var 2) a_nil)) (.mk1 (h1.mono (by omega)) lw.1 lw.2))))
    | cons x xs =>
      have e : bentB (bent n) s1 (.tuple (x :: xs)) = bentT (bent n) s1 (x :: xs) := rfl
      rw [e]
      have hne : (x :: xs).isEmpty = false := rfl
      have hpos : 0 < (x :: xs).length := Nat.succ_pos _
      generalize x :: xs = ds at hd hg hsh hne hpos
      have d7 := draw_ok h1 7
      by_cases hz : (draw s1 7).1 = 0
      · have e : bentT (bent n) s1 ds = ofS bentSome (draw s1 7).2 := if_pos hz
        rw [e]
        exact h_ifT (PW.pt (w_orF (t_notF (t_val (r_calB (a_cons (e_var 1) (a_cons (e_bty T.b_tuple rfl) a_nil)) f_isTupT T.b_isinstance rfl))) (w_orF (t_eq (rt_cmp (e_var 1) e_nilT (c_nilT hr.units hsh)) hne) (w_or1 (t_eq (rt_cmp (r_callS (f_law_draw T) hr2 (a_cons (e_var 0) (a_cons e_nat a_nil)) (.mk (h1.mono (by omega)) (by decide) (by decide))) e_nat c_eqN) (decide_eq_true hz)))))) (h_one (s_ret (r_callS (f_law_of T) hr3 (a_cons (e_var 0) (a_cons (e_var 2) a_nil)) (.mk1 (d7.mono (by omega)) lw.1 lw.2))))
      refine h_ifF (PW.pt (w_orF (t_notF (t_val (r_calB (a_cons (e_var 1) (a_cons (e_bty T.b_tuple rfl) a_nil)) f_isTupT T.b_isinstance rfl))) (w_orF (t_eq (rt_cmp (e_var 1) e_nilT (c_nilT hr.units hsh)) hne) (w_or1 (t_eq (rt_cmp (r_callS (f_law_draw T) hr2 (a_cons (e_var 0) (a_cons e_nat a_nil)) (.mk (h1.mono (by omega)) (by decide) (by decide))) e_nat c_eqN) (decide_eq_false hz)))))) ?_
      have d8 := draw_ok d7 ds.length
      have d9 := draw_ok d8 8
      have hat := draw_lt (s := (draw s1 7).2) hpos
      have hlen := hg.len
      have hlz : ds.length < 1000000 := by
        have := hg.sz
        simp only [szD, Bool.and_eq_true, decide_eq_true_eq] at this
        omega
      have hw8 := draw_lt (s := (draw (draw s1 7).2 ds.length).2) (m := 8) (by decide)
      refine h_cons (s_par 3 4 (a_cons (r_callS (f_law_draw T) hr2 (a_cons (e_var 0) (a_cons (r_calB (a_cons (e_var 1) a_nil) f_lenT T.b_len rfl) a_nil)) (.mk (d7.mono (by omega)) hpos hlz)) (a_cons (r_callS (f_law_draw T) hr2 (a_cons (e_var 0) (a_cons e_nat a_nil)) (.mk (d8.mono (by omega)) (by decide) (by decide))) a_nil)) sc_law_bent.nd) ?_
      have e : bentT (bent n) s1 ds = match (draw (draw (draw s1 7).2 ds.length).2 8).1 with
        | 0 => (.tuple (ds.take (draw (draw s1 7).2 ds.length).1 ++ ds.drop ((draw (draw s1 7).2 ds.length).1 + 1)), (draw (draw (draw s1 7).2 ds.length).2 8).2)
        | 1 => (.tuple (ds.take (draw (draw s1 7).2 ds.length).1 ++ [(ofS bentSome (draw (draw (draw s1 7).2 ds.length).2 8).2).1] ++ ds.drop (draw (draw s1 7).2 ds.length).1), (ofS bentSome (draw (draw (draw s1 7).2 ds.length).2 8).2).2)
        | 2 => (.tuple ds.reverse, (draw (draw (draw s1 7).2 ds.length).2 8).2)
        | 3 => (.list ds, (draw (draw (draw s1 7).2 ds.length).2 8).2)
        | _ => (.tuple (ds.take (draw (draw s1 7).2 ds.length).1 ++ [(bent n (draw (draw (draw s1 7).2 ds.length).2 8).2 (ds.getD (draw (draw s1 7).2 ds.length).1 .none)).1] ++ ds.drop ((draw (draw s1 7).2 ds.length).1 + 1)), (bent n (draw (draw (draw s1 7).2 ds.length).2 8).2 (ds.getD (draw (draw s1 7).2 ds.length).1 .none)).2) := if_neg hz
      rw [e]
      generalize (draw (draw (draw s1 7).2 ds.length).2 8).2 = s2 at d9
      generalize (draw (draw (draw s1 7).2 ds.length).2 8).1 = way
      generalize (draw (draw s1 7).2 ds.length).1 = at_ at hat
      have z0 : (ds.take at_).length + (ds.drop (at_ + 1)).length ≤ sizeLine := by
        rw [List.length_take, List.length_drop]
        omega
      have z1 : ∀ x : PyData, (ds.take at_).length + ([x] : List PyData).length ≤ sizeLine := fun x => by
        rw [List.length_take, List.length_singleton]
        omega
      have z2 : ∀ (x : PyData) (b : Nat), at_ ≤ b → (ds.take at_ ++ [x]).length + (ds.drop b).length ≤ sizeLine := fun x b hb => by
        rw [List.length_append, List.length_take, List.length_drop, List.length_singleton]
        omega
      have hx : ds[at_]? = some (ds.getD at_ .none) := by
        rw [List.getD_eq_getElem?_getD, List.getElem?_eq_getElem hat]; rfl
      have hm : ds.getD at_ .none ∈ ds := List.mem_of_getElem? hx
      match way with
      | 0 => exact h_ifT (t_eq (rt_cmp (e_var 4) e_nat c_eqN) rfl) (h_one (s_ret (r_bin (e_sl s_takeT (e_var 1) p_none (p_some (e_var 3))) (e_sl s_dropT (e_var 1) (p_some (r_bin (e_var 3) e_nat b_addN)) p_none) (b_catT z0))))
      | 1 =>
        refine h_ifF (t_eq (rt_cmp (e_var 4) e_nat c_eqN) rfl) ?_
        exact h_ifT (t_eq (rt_cmp (e_var 4) e_nat c_eqN) rfl) (h_one (s_ret (r_bin (r_bin (e_sl s_takeT (e_var 1) p_none (p_some (e_var 3))) (e_tup1 (a_cons (r_callS (f_law_of T) hr3 (a_cons (e_var 0) (a_cons (e_var 2) a_nil)) (.mk1 (d9.mono (by omega)) lw.1 lw.2)) a_nil)) (b_catT (z1 _))) (e_sl s_dropT (e_var 1) (p_some (e_var 3)) p_none) (b_catT (z2 _ _ (Nat.le_refl _))))))
      | 2 =>
        refine h_ifF (t_eq (rt_cmp (e_var 4) e_nat c_eqN) rfl) ?_
        refine h_ifF (t_eq (rt_cmp (e_var 4) e_nat c_eqN) rfl) ?_
        exact h_ifT (t_eq (rt_cmp (e_var 4) e_nat c_eqN) rfl) (h_one (s_ret (r_rev (e_var 1))))
      | 3 =>
        refine h_ifF (t_eq (rt_cmp (e_var 4) e_nat c_eqN) rfl) ?_
        refine h_ifF (t_eq (rt_cmp (e_var 4) e_nat c_eqN) rfl) ?_
        refine h_ifF (t_eq (rt_cmp (e_var 4) e_nat c_eqN) rfl) ?_
        exact h_ifT (t_eq (rt_cmp (e_var 4) e_nat c_eqN) rfl) (h_one (s_ret (r_calT (a_cons (e_var 1) a_nil) f_listT T.b_list rfl)))
      | k + 4 =>
        have hrn : Room (n + 4) (bX P w K mg base _ _ _ f cdv A outer s H E).A := hr
        have hdx : (ds.getD at_ .none).depth < n := by
          have := depth_mem hm
          simp only [PyData.depth] at hd
          omega
        refine h_ifF (t_eq (rt_cmp (e_var 4) e_nat c_eqN) (by simp)) ?_
        refine h_ifF (t_eq (rt_cmp (e_var 4) e_nat c_eqN) (by simp)) ?_
        refine h_ifF (t_eq (rt_cmp (e_var 4) e_nat c_eqN) (by simp)) ?_
        refine h_ifF (t_eq (rt_cmp (e_var 4) e_nat c_eqN) (by simp)) ?_
        exact h_one (s_ret (r_bin (r_bin (e_sl s_takeT (e_var 1) p_none (p_some (e_var 3))) (e_tup1 (a_cons (r_callS ih hrn (a_cons (e_var 0) (a_cons (r_ix (e_var 1) (e_var 3) (x_tup (atI_nat hx))) a_nil)) (.mk (d9.mono (by omega)) hdx (by omega) (hg.mem _ hm))) a_nil)) (b_catT (z1 _))) (e_sl s_dropT (e_var 1) (p_some (r_bin (e_var 3) e_nat b_addN)) p_none) (b_catT (z2 _ _ (Nat.le_succ _)))))
  cases hi : isInt d (-9) 99 with
  | true =>
    obtain ⟨i, rfl⟩ := isInt_int hi
    have d1 := draw_ok h 3
    by_cases hp : 0 < (draw s0 3).1
    · have e : bent (n + 1) s0 (.int i) = (.int (i + toI (ofS stepsD (draw s0 3).2).1), (ofS stepsD (draw s0 3).2).2) := by
        show (if isInt (.int i) (-9) 99 = true then _ else _) = _
        rw [if_pos hi, if_pos hp]
        rfl
      rw [e]
      exact h_ifT (PW.pt (w_andT (t_val (e_to (B_ true) (r_callP (f_law_is_int T) hr1 (a_cons (e_var 1) (a_cons (r_un e_nat u_neg) (a_cons e_nat a_nil))) (.mk hsh)) (by rw [← hi]; rfl))) (w_and1 (t_eq (rt_cmp (r_callS (f_law_draw T) hr2 (a_cons (e_var 0) (a_cons e_nat a_nil)) (.mk (h.mono (by omega)) (by decide) (by decide))) e_nat c_gtN) (decide_eq_true hp)))))
        (h_one (s_ret (r_bin (e_var 1) (e_to (I_ (toI (ofS stepsD (draw s0 3).2).1)) (r_callS (f_law_of T) hr3 (a_cons (e_var 0) (a_cons (e_to (.d (.list stepsD)) (e_lst (a_cons e_nat (a_cons (r_un e_nat u_neg) (a_cons e_nat (a_cons (r_un e_nat u_neg) (a_cons e_nat a_nil)))))) rfl) a_nil)) (.mk1 (d1.mono (by omega)) (by decide) (by decide))) (congrArg Sl.d (steps_int _))) b_add)))
    · have e : bent (n + 1) s0 (.int i) = bentB (bent n) (draw s0 3).2 (.int i) := by
        show (if isInt (.int i) (-9) 99 = true then _ else _) = _
        rw [if_pos hi, if_neg hp]
      rw [e]
      exact h_ifF (PW.pt (w_andT (t_val (e_to (B_ true) (r_callP (f_law_is_int T) hr1 (a_cons (e_var 1) (a_cons (r_un e_nat u_neg) (a_cons e_nat a_nil))) (.mk hsh)) (by rw [← hi]; rfl))) (w_and1 (t_eq (rt_cmp (r_callS (f_law_draw T) hr2 (a_cons (e_var 0) (a_cons e_nat a_nil)) (.mk (h.mono (by omega)) (by decide) (by decide))) e_nat c_gtN) (decide_eq_false hp))))) (rest _ d1)
  | false =>
    have e : bent (n + 1) s0 d = bentB (bent n) s0 d := by
      show (if isInt d (-9) 99 = true then _ else _) = _
      rw [if_neg (by rw [hi]; decide)]
    rw [e]
    exact h_ifF (PW.pt (w_andF (t_val (e_to (B_ false) (r_callP (f_law_is_int T) hr1 (a_cons (e_var 1) (a_cons (r_un e_nat u_neg) (a_cons e_nat a_nil))) (.mk hsh)) (by rw [← hi]; rfl))))) (rest _ (h.mono (by omega)))
theorem f_law_bent (T : Top K mg) : ∀ n, Fn P w K mg base false (n + 4) "_law_bent" (F_law_bent n)
  | 0 => by
    refine Fn.of (k := 3) T.s_law_bent sc_law_bent bi_law_bent (by rintro _ _ _ _ ⟨⟩; rfl) fun f cdv A outer s H E hr W rs r W' hF => ?_
    cases hF with | @mk B s0 d h hd hn hg => exact absurd hd (Nat.not_lt_zero _)
  | n + 1 => f_law_bent_step T n (f_law_bent T n)
end
end SG
set_option Elab.async false
set_option linter.all false
set_option maxRecDepth 100000
set_option maxHeartbeats 4000000
/-! repr of small data -/
namespace SG
open PySem PySem.Spec PyProof.Rows L2
def strsK : List Str := ["borne", "open", "Borne", "cores", "stray", "form"]
mutual
/-- small data: small integers, known words, no dicts -/
def okD : PyData → Bool
  | .none => true
  | .bool _ => true
  | .int i => decide (-20 ≤ i) && decide (i ≤ 110)
  | .str s => decide (s ∈ strsK)
  | .list ds => okA ds
  | .tuple ds => okA ds
  | .dict _ => false
def okA : List PyData → Bool
  | [] => true
  | d :: ds => okD d && okA ds
end
mutual
def wt : PyData → Nat
  | .list ds => 3 + wtA ds
  | .tuple ds => 3 + wtA ds
  | _ => 10
def wtA : List PyData → Nat
  | [] => 0
  | d :: ds => wt d + 2 + wtA ds
end
theorem okA_all : ∀ {ds : List PyData}, okA ds = true ↔ ∀ d ∈ ds, okD d = true
  | [] => by
    constructor
    · intro _ d h; cases h
    · intro _; simp only [okA]
  | a :: ds => by
    simp only [okA, Bool.and_eq_true, List.mem_cons, forall_eq_or_imp, okA_all (ds := ds)]
theorem int_small {i : Int} (h1 : -20 ≤ i) (h2 : i ≤ 110) : ∃ k : Nat, k < 131 ∧ i = (k : Int) - 20 := ⟨(i + 20).toNat, by omega, by omega⟩
theorem int_shown : ∀ k : Nat, k < 131 → (PyData.int ((k : Int) - 20)).shown.length ≤ 10 ∧ (PyData.int ((k : Int) - 20)).shown ≠ "'borne'" ∧ (PyData.int ((k : Int) - 20)).shown ≠ "'open'" ∧ ((k : Int) - 20).natAbs.log2 < 1920 := by decide +kernel
theorem str_shown : ∀ s ∈ strsK, (PyData.str s).shown.length ≤ 10 ∧ (PyData.str s).canLay0 = true ∧ ((PyData.str s).shown = "'borne'" ↔ s = "borne") ∧ ((PyData.str s).shown = "'open'" ↔ s = "open") := by decide +kernel
theorem piled_list (ts : List Str) : (listText ts).length ≤ 2 + piled ts := by
  cases ts with
  | nil => decide
  | cons t r =>
    have h := textFrom_length_pos r 1 (("[" : Str) ++ (if (0 : Nat) > 0 then ", " else "" : String) ++ t) (Nat.succ_pos 0)
    have e : ((("[" : Str) ++ (if (0 : Nat) > 0 then ", " else "" : String) ++ t)).length = 1 + t.length := by
      rw [strLen_append, strLen_append]; rfl
    have hX : (listText (t :: r)).length = (textFrom 0 "[" (t :: r)).length + 1 := by
      show (textFrom 0 "[" (t :: r) ++ "]").length = _
      rw [strLen_append]; rfl
    have hY : (textFrom 0 "[" (t :: r)).length = (textFrom 1 (("[" : Str) ++ (if (0 : Nat) > 0 then ", " else "" : String) ++ t) r).length := rfl
    rw [hX, hY, h, e, piled_cons]; omega
theorem piled_tuple (ts : List Str) : (tupleText ts).length ≤ 3 + piled ts := by
  unfold tupleText
  rw [strLen_append, strLen_append]
  have e1 : ((("(" : String) : Str)).length = 1 := rfl
  have e3 : (((if ts.length == 1 then ",)" else ")" : String) : Str)).length ≤ 2 := by split <;> decide
  rw [e1]
  by_cases h : ts = []
  · subst h
    have : (Str.join ", " ([] : List Str)).length = 0 := by decide
    rw [this]; omega
  · have := join_length_add ts h
    omega
mutual
theorem shown_le : ∀ (d : PyData), okD d = true → d.shown.length ≤ wt d
  | .none, _ => by simp only [PyData.shown, wt]; decide
  | .bool true, _ => by simp only [PyData.shown, wt]; decide
  | .bool false, _ => by simp only [PyData.shown, wt]; decide
  | .int i, h => by
    simp only [okD, Bool.and_eq_true, decide_eq_true_eq] at h
    obtain ⟨k, hk, rfl⟩ := int_small h.1 h.2
    simp only [wt]
    exact (int_shown k hk).1
  | .str s, h => by
    simp only [okD, decide_eq_true_eq] at h
    simp only [wt]
    exact (str_shown s h).1
  | .list ds, h => by
    simp only [okD] at h
    simp only [PyData.shown, wt]
    have h1 := piled_list (PyData.shownAll ds)
    have h2 := shownA_le ds h
    omega
  | .tuple ds, h => by
    simp only [okD] at h
    simp only [PyData.shown, wt]
    have h1 := piled_tuple (PyData.shownAll ds)
    have h2 := shownA_le ds h
    omega
  | .dict _, h => by simp only [okD] at h; cases h
theorem shownA_le : ∀ (ds : List PyData), okA ds = true → piled (PyData.shownAll ds) ≤ wtA ds
  | [], _ => by simp only [PyData.shownAll, wtA, piled_nil]; exact Nat.le_refl _
  | d :: ds, h => by
    simp only [okA, Bool.and_eq_true] at h
    have h1 := shown_le d h.1
    have h2 := shownA_le ds h.2
    simp only [PyData.shownAll, wtA, piled_cons]
    omega
end
mutual
theorem ok_show : ∀ (d : PyData), okD d = true → d.showable = true ∧ d.canLay0 = true
  | .none, _ => by simp only [PyData.showable, PyData.canLay0]; exact ⟨trivial, trivial⟩
  | .bool _, _ => by simp only [PyData.showable, PyData.canLay0]; exact ⟨trivial, trivial⟩
  | .int i, h => by
    simp only [okD, Bool.and_eq_true, decide_eq_true_eq] at h
    obtain ⟨k, hk, rfl⟩ := int_small h.1 h.2
    simp only [PyData.showable, PyData.canLay0]
    exact ⟨decide_eq_true (int_shown k hk).2.2.2, trivial⟩
  | .str s, h => by
    simp only [okD, decide_eq_true_eq] at h
    simp only [PyData.showable]
    exact ⟨trivial, (str_shown s h).2.1⟩
  | .list ds, h => by
    simp only [okD] at h
    simp only [PyData.showable, PyData.canLay0]
    exact ok_showA ds h
  | .tuple ds, h => by
    simp only [okD] at h
    simp only [PyData.showable, PyData.canLay0]
    exact ok_showA ds h
  | .dict _, h => by simp only [okD] at h; cases h
theorem ok_showA : ∀ (ds : List PyData), okA ds = true → PyData.showableAll ds = true ∧ PyData.canLayAll0 ds = true
  | [], _ => by simp only [PyData.showableAll, PyData.canLayAll0]; exact ⟨trivial, trivial⟩
  | d :: ds, h => by
    simp only [okA, Bool.and_eq_true] at h
    obtain ⟨h1, h2⟩ := ok_show d h.1
    obtain ⟨h3, h4⟩ := ok_showA ds h.2
    simp only [PyData.showableAll, PyData.canLayAll0, h1, h2, h3, h4]
    exact ⟨rfl, rfl⟩
end
theorem wtA_len : ∀ ds : List PyData, 2 * ds.length ≤ wtA ds
  | [] => Nat.zero_le _
  | d :: ds => by
    have := wtA_len ds
    simp only [wtA, List.length_cons]
    omega
mutual
theorem wt_sz : ∀ d : PyData, wt d ≤ 1000000 → szD d = true
  | .none, _ => by simp only [szD]
  | .bool _, _ => by simp only [szD]
  | .int _, _ => by simp only [szD]
  | .str _, _ => by simp only [szD]
  | .dict _, _ => by simp only [szD]
  | .list ds, h => by
    simp only [wt] at h
    have := wtA_len ds
    simp only [szD, Bool.and_eq_true, decide_eq_true_eq]
    exact ⟨by omega, wtA_sz ds (by omega)⟩
  | .tuple ds, h => by
    simp only [wt] at h
    have := wtA_len ds
    simp only [szD, Bool.and_eq_true, decide_eq_true_eq]
    exact ⟨by omega, wtA_sz ds (by omega)⟩
theorem wtA_sz : ∀ ds : List PyData, wtA ds ≤ 1000000 → szA ds = true
  | [], _ => by simp only [szA]
  | d :: ds, h => by
    simp only [wtA] at h
    simp only [szA, Bool.and_eq_true]
    exact ⟨wt_sz d (by omega), wtA_sz ds (by omega)⟩
end
/-- small data, not too deep, not too long -/
structure Gs (n m : Nat) (d : PyData) : Prop where
  ok : okD d = true
  dep : d.depth ≤ n
  wt : wt d ≤ m
theorem Gs.gd {n m : Nat} {d : PyData} (h : Gs n m d) (hn : n ≤ 60) (hm : m ≤ 1000000) : Gd d :=
  ⟨shaped_iff.mpr ⟨(ok_show d h.ok).2, Nat.le_trans h.dep (by omega)⟩, wt_sz d (Nat.le_trans h.wt hm)⟩
theorem Gs.mono {n m n' m' : Nat} {d : PyData} (h : Gs n m d) (hn : n ≤ n') (hm : m ≤ m') : Gs n' m' d := ⟨h.ok, Nat.le_trans h.dep hn, Nat.le_trans h.wt hm⟩
section
variable {X : Cx}
/-- repr(x) -/
theorem f_repr {d : PyData} {n m : Nat} (hg : X.A.guards = some []) (hu : X.A.units + 64 < cLine) (h : Gs n m d) (hn : n ≤ 60) (hm : m ≤ 1000000) : CalOk X (.builtin "repr") [.d d] (.d (.str d.shown)) := by
  refine ⟨fun vs H Q => ∃ v, vs = [v] ∧ Dp X.K H v d ∧ Q (.str d.shown) H, ?_, fun M H vs l hv Q q => ?_⟩
  · intro pins s σ H xs us Q I r hh
    obtain ⟨v, rfl, hd, q⟩ := hh
    obtain ⟨u, rfl, ru⟩ := r.one
    obtain ⟨s1, s2⟩ := ok_show d h.ok
    have hsz : d.shown.length ≤ sizeLine := Nat.le_trans (shown_le d h.ok) (Nat.le_trans (Nat.le_trans h.wt hm) (by decide))
    have hnd := PyData.hasDict_of_canLay d s2
    have hdep := h.dep
    obtain ⟨as, hr⟩ := Dp.reads I d v u hd ru
    have seq : ∀ a, u = .ref a → wpAny (model X.prog X.w) X.A (call (.builtin "repr") [u]) (EP X pins σ Q) X.xe s := fun a e => by
      subst e
      exact repr_of_reads' hr s1 (PyData.noDict_hsm hnd) hg (by omega) (fun _ _ e => e) (fun h' t tk hk => ⟨.str _, H, I.kept (t' := tk) hk, ⟨t, rfl⟩, q⟩) hsz
    cases hr with
    | none => exact PySem.P.repr_of_none ⟨.str _, H, I.tok _, ⟨_, rfl⟩, by simpa only [PyData.shown] using q⟩
    | bool b => exact PySem.P.repr_of_bool ⟨.str _, H, I.tok _, ⟨_, rfl⟩, by simpa only [PyData.shown] using q⟩
    | int i t => exact PySem.P.repr_of_int (of_decide_eq_true (by simpa only [PyData.showable] using s1)) ⟨.str _, H, I.tok _, ⟨_, rfl⟩, by simpa only [PyData.shown] using q⟩
    | str x t => exact PySem.P.repr_of_str ⟨.str _, H, I.tok _, ⟨_, rfl⟩, by simpa only [PyData.shown] using q⟩ (by simpa only [PyData.shown] using hsz)
    | list _ _ _ _ => exact seq _ rfl
    | tuple _ _ _ _ => exact seq _ rfl
    | dict _ _ _ _ _ => exact seq _ rfl
  · obtain ⟨v, rfl, hv'⟩ := rpl_1 hv
    exact ⟨v, rfl, Da.dp d v (Da.mono off_sub d v hv'), q _ H (Same.refl H) (by rw [rp_str])⟩
end
end SG
set_option Elab.async false
set_option linter.all false
set_option maxRecDepth 100000
set_option maxHeartbeats 4000000
/-! list(zip(list, tuple)) -/
namespace SG
open PySem PySem.Spec PyProof.Rows L2 PySem.W PySem.Calls
open PySem.Sem (wp)
theorem zip_no_len : typeLookup (.type "zip") "__len__" = pure none := by rw [typeLookup_type, builtinLookup_eq_fast]; kernel_rfl
theorem zip_no_hint : typeLookup (.type "zip") "__length_hint__" = pure none := by rw [typeLookup_type, builtinLookup_eq_fast]; kernel_rfl
section
variable {prog : Program} {w : World} {A : Around} {E : Value → Shared → Prop} {s : Shared} {z TI TO T i1 i2 : Addr} {fp1 fp2 : List Addr} {n1 n2 i : Nat} {P1 P2 : Nat → Value → Prop} {St1 St2 : Nat → Heap → Prop} {f : Bool} {oT : Obj}
theorem zipH_item {Q : Value → Shared → Prop} (S : ZipSep2 z TI TO i1 i2 fp1 fp2) (D1 : Draws prog w A i1 fp1 n1 P1 St1) (D2 : Draws prog w A i2 fp2 n2 P2 St2)
    (hz : IsZipHeld s.heap z TI TO T f) (hT : s.heap.get? T = some oT) (hTI : IsTupOf2 s.heap TI (.ref i1) (.ref i2)) (st1 : St1 i s.heap) (st2 : St2 i s.heap) (hlt1 : i < n1) (hlt2 : i < n2)
    (hQ : ∀ x1 x2 h' tk, P1 i x1 → P2 i x2 → IsZipHeld h' z TI TO T true → St1 (i + 1) h' → St2 (i + 1) h' → IsTupOf2 h' s.heap.objs.size x1 x2 →
      (∀ c o, c ≠ z → c ≠ i1 → c ≠ i2 → s.heap.get? c = some o → h'.get? c = some o) → Q (.ref s.heap.objs.size) { s with heap := h', toks := tk }) :
    wpAny (model prog w) A (Builtin.«zip.__next__» ⟨[.ref z], []⟩) (fun fin s' => ∃ v, fin = .done (.ret v) ∧ Q v s') E s := by
  obtain ⟨hp, g, d, tk0, os⟩ := s
  show wpAny _ _ (field (.ref z) 2 >>= _) _ _ _
  refine wpAny_bind (wpAny_field hz rfl (x := .bool false) rfl ?_)
  show wpAny _ _ (field (.ref z) 3 >>= _) _ _ _
  refine wpAny_bind (wpAny_field hz rfl (x := .ref TI) rfl ?_)
  refine wpAny_bind (wpAny_seqItems hTI rfl ?_)
  show wpAny _ _ (Builtin.SmallTypes.ownedTupleIsFree (.ref z) >>= _) _ _ _
  refine wpAny_bind (wpAny_tupleHeld_zip hz hT fun h₁ hz₁ hs₁ => ?_)
  replace hs₁ : Heap.SameBut z hp h₁ := hs₁
  simp only [Bool.false_eq_true, if_false]
  refine wpAny_bind ?_
  rw [← Array.forIn_toList]
  simp only [List.forIn_cons, List.forIn_nil]
  refine wpAny_bind (wpAny_bind (wpAny_holding ?_))
  show wpAny _ _ (Builtin.SmallTypes.nextOf (.ref i1) >>= _) _ _ ⟨h₁, g, d, tk0, os⟩
  refine wpAny_bind (D1.item i _ _ _ hlt1 (D1.over st1 hs₁ S.zf1) fun x1 p1 tk1 hx1 sn1 hp1 => wpAny_pure ?_)
  replace hp1 : Heap.SameBut i1 h₁ p1 := hp1
  refine wpAny_pure ?_
  refine wpAny_bind (wpAny_bind (wpAny_holding ?_))
  show wpAny _ _ (Builtin.SmallTypes.nextOf (.ref i2) >>= _) _ _ ⟨p1, g, d, tk1, os⟩
  refine wpAny_bind (D2.item i _ _ _ hlt2 (D2.over (D2.over st2 hs₁ S.zf2) hp1 S.sep1_2) fun x2 p2 tk2 hx2 sn2 hp2 => wpAny_pure ?_)
  replace hp2 : Heap.SameBut i2 p1 p2 := hp2
  refine wpAny_pure (wpAny_pure ?_)
  show wpAny _ _ (newTuple [x1, x2] >>= _) _ _ ⟨p2, g, d, tk2, os⟩
  refine wpAny_bind (wpAny_newTuple ?_)
  have hsz : p2.objs.size = hp.objs.size := by rw [hp2.1, hp1.1, hs₁.1]
  have hz₃ : IsZipHeld p2 z TI TO T true := hp2.extBut _ _ S.zi2 (hp1.extBut _ _ S.zi1 hz₁)
  have hk : ∀ c o, c ≠ z → c ≠ i1 → c ≠ i2 → hp.get? c = some o → p2.get? c = some o := fun c o c1 c2 c3 e => hp2.extBut _ _ c3 (hp1.extBut _ _ c2 (hs₁.extBut _ _ c1 e))
  refine wpAny_pure ⟨_, rfl, ?_⟩
  show Q (.ref p2.objs.size) _
  have up : ∀ c o, p2.get? c = some o → (p2.push { cls := .type "tuple", data := .seq #[x1, x2] }).get? c = some o := fun c o e => Heap.get?_push_of_some _ e
  have hp3 : IsTupOf2 (p2.push { cls := .type "tuple", data := .seq #[x1, x2] }) p2.objs.size x1 x2 := Heap.get?_push_size _ rfl
  rw [hsz] at hp3 ⊢
  exact hQ x1 x2 _ tk2 hx1 hx2 (up _ _ hz₃) (D1.frame _ _ _ (D1.over sn1 hp2 S.sep2_1) fun b _ o e => up b o e) (D2.frame _ _ _ sn2 fun b _ o e => up b o e) hp3 fun c o c1 c2 c3 e => up c o (hk c o c1 c2 c3 e)
theorem zipH_end {Q : Fin → Shared → Prop} (S : ZipSep2 z TI TO i1 i2 fp1 fp2) (D1 : Draws prog w A i1 fp1 n1 P1 St1) (D2 : Draws prog w A i2 fp2 n2 P2 St2)
    (hz : IsZipHeld s.heap z TI TO T f) (hT : s.heap.get? T = some oT) (hTI : IsTupOf2 s.heap TI (.ref i1) (.ref i2)) (st1 : St1 i s.heap) (st2 : St2 i s.heap) (hle1 : i ≤ n1) (hle2 : i ≤ n2) (hend : i = n1 ∨ i = n2)
    (hE : ∀ h' tk e, (∀ c o, c ≠ z → c ≠ i1 → c ≠ i2 → s.heap.get? c = some o → h'.get? c = some o) → (∃ o, h'.get? e = some o ∧ o.cls = .type "StopIteration") → E (.ref e) { s with heap := h', toks := tk }) :
    wpAny (model prog w) A (Builtin.«zip.__next__» ⟨[.ref z], []⟩) Q E s := by
  obtain ⟨hp, g, d, tk0, os⟩ := s
  show wpAny _ _ (field (.ref z) 2 >>= _) _ _ _
  refine wpAny_bind (wpAny_field hz rfl (x := .bool false) rfl ?_)
  show wpAny _ _ (field (.ref z) 3 >>= _) _ _ _
  refine wpAny_bind (wpAny_field hz rfl (x := .ref TI) rfl ?_)
  refine wpAny_bind (wpAny_seqItems hTI rfl ?_)
  show wpAny _ _ (Builtin.SmallTypes.ownedTupleIsFree (.ref z) >>= _) _ _ _
  refine wpAny_bind (wpAny_tupleHeld_zip hz hT fun h₁ hz₁ hs₁ => ?_)
  replace hs₁ : Heap.SameBut z hp h₁ := hs₁
  simp only [Bool.false_eq_true, if_false]
  refine wpAny_bind ?_
  rw [← Array.forIn_toList]
  simp only [List.forIn_cons, List.forIn_nil]
  refine wpAny_bind (wpAny_bind (wpAny_holding ?_))
  show wpAny _ _ (Builtin.SmallTypes.nextOf (.ref i1) >>= _) _ _ ⟨h₁, g, d, tk0, os⟩
  by_cases hlt1 : i < n1
  · refine wpAny_bind (D1.item i _ _ _ hlt1 (D1.over st1 hs₁ S.zf1) fun x1 p1 tk1 hx1 sn1 hp1 => wpAny_pure ?_)
    replace hp1 : Heap.SameBut i1 h₁ p1 := hp1
    have hi2 : i = n2 := by omega
    refine wpAny_pure ?_
    refine wpAny_bind (wpAny_bind (wpAny_holding ?_))
    show wpAny _ _ (Builtin.SmallTypes.nextOf (.ref i2) >>= _) _ _ ⟨p1, g, d, tk1, os⟩
    refine wpAny_bind (D2.done ⟨p1, g, d, tk1, os⟩ _ _ (by rw [← hi2]; exact D2.over (D2.over st2 hs₁ S.zf2) hp1 S.sep1_2) fun q e hq he => ?_)
    exact hE q tk1 e (fun c o c1 c2 c3 x => hq _ _ c3 (hp1.extBut _ _ c2 (hs₁.extBut _ _ c1 x))) he
  · have hi1 : i = n1 := by omega
    refine wpAny_bind (D1.done ⟨h₁, g, d, tk0, os⟩ _ _ (by rw [← hi1]; exact D1.over st1 hs₁ S.zf1) fun q e hq he => ?_)
    exact hE q tk0 e (fun c o c1 c2 c3 x => hq _ _ c2 (hs₁.extBut _ _ c1 x)) he
end
section
variable {prog : Program} {w : World} {A : Around} {E : Value → Shared → Prop} {s : Shared} {z TI TO i1 i2 S : Addr} {fp1 fp2 : List Addr} {n1 n2 i : Nat} {P1 P2 : Nat → Value → Prop} {St1 St2 : Nat → Heap → Prop}
/-- a zip between two turns; its last tuple may be held -/
def ZSt (z TI TO i1 i2 S : Addr) (St1 St2 : Nat → Heap → Prop) (i : Nat) (h : Heap) : Prop := IsTupOf2 h TI (.ref i1) (.ref i2) ∧ St1 i h ∧ St2 i h ∧
  ((IsZip h z TI TO .none ∧ ∃ a b, IsTupOf2 h TO a b) ∨ ∃ T f oT, IsZipHeld h z TI TO T f ∧ h.get? T = some oT ∧ T ≠ z ∧ T ≠ i1 ∧ T ≠ i2 ∧ T ≠ S)
theorem ZSt.zip {h : Heap} (x : ZSt z TI TO i1 i2 S St1 St2 i h) : ∃ o, h.get? z = some o ∧ o.cls = .type "zip" := by
  rcases x.2.2.2 with ⟨q, _⟩ | ⟨T, f, oT, q, _⟩
  · exact ⟨_, q, rfl⟩
  · exact ⟨_, q, rfl⟩
theorem zl_item {Q : Option Value → Shared → Prop} (Sp : ZipSep2 z TI TO i1 i2 fp1 fp2) (D1 : Draws prog w A.in1 i1 fp1 n1 P1 St1) (D2 : Draws prog w A.in1 i2 fp2 n2 P2 St2) (hst : ZSt z TI TO i1 i2 S St1 St2 i s.heap) (hS : S < s.heap.objs.size) (h1 : i < n1) (h2 : i < n2)
    (hQ : ∀ x1 x2 h' tk, P1 i x1 → P2 i x2 → ZSt z TI TO i1 i2 S St1 St2 (i + 1) h' → IsTupOf2 h' s.heap.objs.size x1 x2 → (∀ c o, c ∉ [z, TO, i1, i2] → s.heap.get? c = some o → h'.get? c = some o) → Q (some (.ref s.heap.objs.size)) { s with heap := h', toks := tk }) :
    wpAny (model prog w) A (pyNext (.ref z)) Q E s := by
  obtain ⟨hTI, st1, st2, hz⟩ := hst
  have lt : ∀ {c o}, s.heap.get? c = some o → s.heap.objs.size ≠ c := fun e => Nat.ne_of_gt (Heap.lt_size e)
  have l1 : s.heap.objs.size ≠ i1 := by obtain ⟨_, e⟩ := D1.live _ _ st1; exact lt e
  have l2 : s.heap.objs.size ≠ i2 := by obtain ⟨_, e⟩ := D2.live _ _ st2; exact lt e
  rcases hz with ⟨hz, a, b, hTO⟩ | ⟨T, f, oT, hz, hT, r1, r2, r3, r4⟩
  · refine wpAny_pyNext_zipD2_item Sp D1 D2 hz hTI hTO st1 st2 h1 h2 fun x1 x2 h' tk y1 y2 b1 b2 d1 d2 b5 b6 hk => ?_
    refine hQ x1 x2 h' tk y1 y2 ⟨hk _ _ Sp.TIz Sp.TITO Sp.TIi1 Sp.TIi2 hTI, d1, d2, .inr ⟨s.heap.objs.size, false, _, b1, b5, lt hz, l1, l2, Nat.ne_of_gt hS⟩⟩ b5 fun c o hc e => ?_
    exact hk c o (fun x => hc (by simp [x])) (fun x => hc (by simp [x])) (fun x => hc (by simp [x])) (fun x => hc (by simp [x])) e
  · have hTy : s.TypeIs (.ref z) "zip" := ⟨_, hz, rfl⟩
    unfold pyNext
    refine wpAny_bind (wpAny_attempt (wpAny_callSpecial?_slot (name := Str.ofString "__next__") hTy F.slot_zip_next
      (wpAny_call_entry F.slot_zip_next hTy F.entry_zip_next
        (zipH_item Sp D1 D2 hz hT hTI st1 st2 h1 h2 fun x1 x2 h' tk y1 y2 b1 d1 d2 b5 hk => wpAny_pure ?_) (F.args_zip_next_1 _))))
    refine hQ x1 x2 h' tk y1 y2 ⟨hk _ _ Sp.TIz Sp.TIi1 Sp.TIi2 hTI, d1, d2, .inr ⟨T, true, oT, b1, hk _ _ r1 r2 r3 hT, r1, r2, r3, r4⟩⟩ b5 fun c o hc e => ?_
    exact hk c o (fun x => hc (by simp [x])) (fun x => hc (by simp [x])) (fun x => hc (by simp [x])) e
theorem zl_done {Q : Option Value → Shared → Prop} (Sp : ZipSep2 z TI TO i1 i2 fp1 fp2) (D1 : Draws prog w A.in1 i1 fp1 n1 P1 St1) (D2 : Draws prog w A.in1 i2 fp2 n2 P2 St2) (hst : ZSt z TI TO i1 i2 S St1 St2 i s.heap) (hle1 : i ≤ n1) (hle2 : i ≤ n2) (hend : i = n1 ∨ i = n2)
    (hQ : ∀ h' tk, (∀ c o, c ∉ [z, TO, i1, i2] → s.heap.get? c = some o → h'.get? c = some o) → Q none { s with heap := h', toks := tk }) :
    wpAny (model prog w) A (pyNext (.ref z)) Q E s := by
  obtain ⟨hTI, st1, st2, hz⟩ := hst
  rcases hz with ⟨hz, a, b, hTO⟩ | ⟨T, f, oT, hz, hT, r1, r2, r3, r4⟩
  · refine wpAny_pyNext_zipD2_end Sp D1 D2 hz hTI hTO st1 st2 hle1 hle2 hend fun h' tk hk => hQ h' tk fun c o hc e => ?_
    exact hk c o (fun x => hc (by simp [x])) (fun x => hc (by simp [x])) (fun x => hc (by simp [x])) (fun x => hc (by simp [x])) e
  · have hTy : s.TypeIs (.ref z) "zip" := ⟨_, hz, rfl⟩
    unfold pyNext
    refine wpAny_bind (wpAny_attempt (wpAny_callSpecial?_slot (name := Str.ofString "__next__") hTy F.slot_zip_next
      (wpAny_call_entry F.slot_zip_next hTy F.entry_zip_next (zipH_end Sp D1 D2 hz hT hTI st1 st2 hle1 hle2 hend fun h' tk e hk he => ?_) (F.args_zip_next_1 _))))
    obtain ⟨o, ho, hc⟩ := he
    refine wpAny_bind (wpAny_isInstance (T := "StopIteration") (b := true) ⟨o, ho, hc⟩ isSubtype_stop ?_)
    exact wpAny_pure (hQ _ _ fun c o hc e => hk c o (fun x => hc (by simp [x])) (fun x => hc (by simp [x])) (fun x => hc (by simp [x])) e)
/-- the pairs that were made -/
structure ZPs (P1 P2 : Nat → Value → Prop) (lo : Addr) (h : Heap) (as : List Addr) : Prop where
  rise : as.Pairwise (· < ·)
  above : ∀ a ∈ as, lo < a
  pairs : ∀ (j : Nat) (a : Addr), as[j]? = some a → ∃ x1 x2, P1 j x1 ∧ P2 j x2 ∧ IsTupOf2 h a x1 x2
variable {R : Result → Shared → Prop}
theorem zl_loop (Sp : ZipSep2 z TI TO i1 i2 fp1 fp2) (D1 : Draws prog w A.in1.in1 i1 fp1 n1 P1 St1) (D2 : Draws prog w A.in1.in1 i2 fp2 n2 P2 St2) (hSz : S ≠ z) (hSO : S ≠ TO) (hSI : S ≠ TI) (hS1 : S ∉ fp1) (hS2 : S ∉ fp2) {lo : Addr} (lS : S ≤ lo) (lz : z ≤ lo) (lO : TO ≤ lo) (l1 : i1 ≤ lo) (l2 : i2 ≤ lo)
    (hn : min n1 n2 ≤ sizeLine) (res : Value) {h₁ : Heap}
    (hR : ∀ h' tk acc c as, (∀ b o, b ≠ S → b ∉ [z, TO, i1, i2] → h₁.get? b = some o → h'.get? b = some o) → h'.get? S = some { cls := .type "list", dict := none, data := .seq acc c, slots := #[] } → as.length = min n1 n2 → ZPs P1 P2 lo h' as →
      acc.toList = as.map Value.ref → R (.ok (.ret res)) { s with heap := h', toks := tk }) :
    ∀ (k i : Nat) (h : Heap) (tk c : Nat) (acc : Array Value) (as : List Addr), min n1 n2 - i = k → i ≤ min n1 n2 → ZSt z TI TO i1 i2 S St1 St2 i h → (∀ b o, b ≠ S → b ∉ [z, TO, i1, i2] → h₁.get? b = some o → h.get? b = some o) →
      h.get? S = some { cls := .type "list", dict := none, data := .seq acc c, slots := #[] } → acc.toList = as.map Value.ref → as.length = i → ZPs P1 P2 lo h as → lo < h.objs.size →
      codeAny (model prog w) A (.builtin "list.extend.loop" ⟨[.ref S, .ref z, res], []⟩) R { s with heap := h, toks := tk } := by
  have nS : S ∉ [z, TO, i1, i2] := fun m => by
    have q : S = z ∨ S = TO ∨ S = i1 ∨ S = i2 := by simpa using m
    rcases q with q | q | q | q
    · exact hSz q
    · exact hSO q
    · exact hS1 (q ▸ Sp.mem1)
    · exact hS2 (q ▸ Sp.mem2)
  have nL : ∀ a, lo < a → a ∉ [z, TO, i1, i2] := fun a ha m => by
    have q : a = z ∨ a = TO ∨ a = i1 ∨ a = i2 := by simpa using m
    rcases q with q | q | q | q <;> (rw [q] at ha; exact absurd ha (Nat.not_lt_of_le (by assumption)))
  intro k
  induction k with
  | zero =>
    intro i h tk c acc as hk hi hst hkeep hS hacc hal hG hIs
    have hin : i = min n1 n2 := by omega
    refine codeAny_builtin PySem.F.entry_extend_loop ?_
    rw [Around.under_plainId PySem.F.plain_extend_loop _]
    show wpAny _ A.in1 (pyNext (.ref z) >>= _) _ _ _
    refine wpAny_bind (zl_done (s := { s with heap := h, toks := tk }) (A := A.in1) Sp D1 D2 hst (by omega) (by omega) (by omega) fun h' tk' he => ?_)
    refine wpAny_pure (hR h' tk' acc c as (fun b o h1 h2 e => he b o h2 (hkeep b o h1 h2 e)) (he S _ nS hS) (by omega) ⟨hG.rise, hG.above, fun j a hj => ?_⟩ hacc)
    obtain ⟨x1, x2, e1, e2, e3⟩ := hG.pairs j a hj
    exact ⟨x1, x2, e1, e2, he a _ (nL a (hG.above a (List.mem_of_getElem? hj))) e3⟩
  | succ k ih =>
    intro i h tk c acc as hk hi hst hkeep hS hacc hal hG hIs
    have hlt : i < min n1 n2 := by omega
    have hsz : acc.size = i := by rw [← Array.length_toList, hacc, List.length_map, hal]
    refine codeAny_builtin PySem.F.entry_extend_loop ?_
    rw [Around.under_plainId PySem.F.plain_extend_loop _]
    show wpAny _ A.in1 (pyNext (.ref z) >>= _) _ _ _
    refine wpAny_bind (zl_item (s := { s with heap := h, toks := tk }) (A := A.in1) Sp D1 D2 hst (Heap.lt_size hS) (by omega) (by omega) fun x1 x2 h' tk' y1 y2 hst' ht hkp => ?_)
    dsimp only at ht hkp ⊢
    have hS' := hkp S _ nS hS
    have up : ∀ b o, b ≠ S → h'.get? b = some o → (h'.update S (Obj.mapSeq (·.push (Value.ref h.objs.size)))).get? b = some o := fun b o hb e => (Heap.get?_update_other _ _ (Ne.symm hb)).trans e
    have hSl : S < h.objs.size := Heap.lt_size hS
    have upSt : ZSt z TI TO i1 i2 S St1 St2 (i + 1) (h'.update S (Obj.mapSeq (·.push (Value.ref h.objs.size)))) := by
      obtain ⟨q1, q2, q3, q4⟩ := hst'
      refine ⟨up _ _ (Ne.symm hSI) q1, D1.frame _ _ _ q2 fun b hb o e => up b o (fun x => hS1 (x ▸ hb)) e, D2.frame _ _ _ q3 fun b hb o e => up b o (fun x => hS2 (x ▸ hb)) e, ?_⟩
      rcases q4 with ⟨q4, a, b, q5⟩ | ⟨T, f, oT, q4, q5, r1, r2, r3, r4⟩
      · exact .inl ⟨up _ _ (Ne.symm hSz) q4, a, b, up _ _ (Ne.symm hSO) q5⟩
      · exact .inr ⟨T, f, oT, up _ _ (Ne.symm hSz) q4, up _ _ r4 q5, r1, r2, r3, r4⟩
    show wpAny _ A.in1 (updateSeq S (·.push (Value.ref h.objs.size)) >>= _) _ _ _
    refine wpAny_bind ?_
    refine wpAny_updateSeq hS' rfl (wpAny_pure ⟨plainId_quiet PySem.F.plain_extend_loop _, ih (i + 1) _ tk' _ (acc.push (Value.ref h.objs.size)) (as ++ [h.objs.size]) (by omega) hlt upSt
      (fun b o h1 h2 e => up b o h1 (hkp b o h2 (hkeep b o h1 h2 e))) (Heap.get?_update_self _ hS' rfl) (by rw [Array.toList_push, hacc, List.map_append]; rfl) (by rw [List.length_append, hal]; rfl) ⟨?_, ?_, ?_⟩ ?_⟩) (by rw [hsz]; omega) (by show (acc.push (Value.ref h.objs.size)).size ≤ sizeLine + 1; rw [Array.size_push, hsz]; omega)
    · refine List.pairwise_append.mpr ⟨hG.rise, List.pairwise_singleton _ _, fun a ha b hb => ?_⟩
      rw [List.mem_singleton.mp hb]
      obtain ⟨j, hj⟩ := List.mem_iff_getElem?.mp ha
      obtain ⟨_, _, _, _, e3⟩ := hG.pairs j a hj
      exact Heap.lt_size e3
    · intro a ha
      rcases List.mem_append.mp ha with ha | ha
      · exact hG.above a ha
      · rw [List.mem_singleton.mp ha]; exact hIs
    · intro j b hj
      rcases Nat.lt_trichotomy j as.length with h1 | h1 | h1
      · rw [List.getElem?_append_left h1] at hj
        obtain ⟨u1, u2, e1, e2, e3⟩ := hG.pairs j b hj
        have hb := hG.above b (List.mem_of_getElem? hj)
        exact ⟨u1, u2, e1, e2, up b _ (Nat.ne_of_gt (Nat.lt_of_le_of_lt lS hb)) (hkp b _ (nL b hb) e3)⟩
      · subst h1
        have hb : h.objs.size = b := by simpa using hj
        subst hb
        exact ⟨x1, x2, by rw [hal]; exact y1, by rw [hal]; exact y2, up _ _ (Nat.ne_of_gt hSl) ht⟩
      · have hnone : (as ++ [h.objs.size])[j]? = none := List.getElem?_eq_none (by rw [List.length_append, List.length_singleton]; omega)
        rw [hnone] at hj; cases hj
    · have e : (h'.update S (Obj.mapSeq (·.push (Value.ref h.objs.size)))).get? h.objs.size = _ := up _ _ (Nat.ne_of_gt hSl) ht
      exact Nat.lt_trans hIs (Heap.lt_size e)
theorem zl_hint {TI' TO' : Addr} {f0 : Value} {Q : Bool → Shared → Prop} (hT : s.TypeIs (.ref z) "zip") (h : ∀ b, Q b s) : wpAny (model prog w) A (Builtin.List.listLengthHint (.ref z)) Q E s := by
  unfold Builtin.List.listLengthHint
  refine wpAny_bind (wpAny_specialOf hT zip_no_len ?_)
  show wpAny _ _ (specialOf (Value.ref z) (Str.ofString "__length_hint__") >>= _) _ _ _
  refine wpAny_bind (wpAny_specialOf hT zip_no_hint ?_)
  exact wpAny_pure (h _)
theorem zl_extend (Sp : ZipSep2 z TI TO i1 i2 fp1 fp2) (D1 : Draws prog w A.in1.in1 i1 fp1 n1 P1 St1) (D2 : Draws prog w A.in1.in1 i2 fp2 n2 P2 St2) (hSz : S ≠ z) (hSO : S ≠ TO) (hSI : S ≠ TI) (hS1 : S ∉ fp1) (hS2 : S ∉ fp2) (lz : z ≤ S) (lO : TO ≤ S) (l1 : i1 ≤ S) (l2 : i2 ≤ S)
    (hn : min n1 n2 ≤ sizeLine) (res : Value) (hz : IsZip s.heap z TI TO .none) (hst : ZSt z TI TO i1 i2 S St1 St2 0 s.heap) (c₀ : Nat) (hS : s.heap.get? S = some { cls := .type "list", data := .seq #[] c₀ })
    (hR : ∀ h' tk acc c as, (∀ b o, b ≠ S → b ∉ [z, TO, i1, i2] → s.heap.get? b = some o → h'.get? b = some o) → h'.get? S = some { cls := .type "list", dict := none, data := .seq acc c, slots := #[] } → as.length = min n1 n2 → ZPs P1 P2 S h' as →
      acc.toList = as.map Value.ref → R (.ok (.ret res)) { s with heap := h', toks := tk }) :
    wpAny (model prog w) A.in1 (Builtin.List.listExtendWith (.ref S) (.ref z) res)
      (fun fin s' => match fin with | .done f => R (.ok f) s' | .again c' => c'.quiet = true ∧ codeAny (model prog w) A c' R s') (fun e s' => R (.error e) s') s := by
  have hTy : s.TypeIs (.ref z) "zip" := ⟨_, hz, rfl⟩
  have key : ∀ (h : Heap) (c₁ tk : Nat), (∀ b o, b ≠ S → s.heap.get? b = some o → h.get? b = some o) →
      h.get? S = some { cls := .type "list", data := .seq #[] c₁ } → codeAny (model prog w) A (.builtin "list.extend.loop" ⟨[.ref S, .ref z, res], []⟩) R { s with heap := h, toks := tk } := by
    intro h c₁ tk hk hS₁
    obtain ⟨q1, q2, q3, q4⟩ := hst
    refine zl_loop (s := s) (h₁ := s.heap) Sp D1 D2 hSz hSO hSI hS1 hS2 (Nat.le_refl S) lz lO l1 l2 hn res hR (min n1 n2) 0 h tk c₁ #[] [] (Nat.sub_zero _) (Nat.zero_le _) ?_ (fun b o hb _ e => hk b o hb e) hS₁ rfl rfl ⟨List.Pairwise.nil, (fun _ ha => nomatch ha), (fun j a hj => by simp at hj)⟩ (Heap.lt_size hS₁)
    refine ⟨hk _ _ (Ne.symm hSI) q1, D1.frame _ _ _ q2 fun b hb o e => hk b o (fun x => hS1 (x ▸ hb)) e, D2.frame _ _ _ q3 fun b hb o e => hk b o (fun x => hS2 (x ▸ hb)) e, ?_⟩
    rcases q4 with ⟨q4, a, b, q5⟩ | ⟨T, f, oT, q4, q5, r1, r2, r3, r4⟩
    · exact .inl ⟨hk _ _ (Ne.symm hSz) q4, a, b, hk _ _ (Ne.symm hSO) q5⟩
    · exact .inr ⟨T, f, oT, hk _ _ (Ne.symm hSz) q4, hk _ _ r4 q5, r1, r2, r3, r4⟩
  unfold Builtin.List.listExtendWith
  refine wpAny_bind (wpAny_typeOf (T := "zip") hTy ?_)
  have h1 : Builtin.List.listSameRef (.ref S) (.ref z) = false := by simp [Builtin.List.listSameRef, hSz]
  have h2 : (Value.type "zip" == Value.type "list") = false := by decide
  have h3 : (Value.type "zip" == Value.type "tuple") = false := by decide
  simp only [h1, h2, h3, Bool.or_false, Bool.false_eq_true, if_false]
  refine wpAny_bind (wpAny_pyIter_zip hz ?_)
  refine wpAny_bind (wpAny_holding (zl_hint (TI' := TI) (TO' := TO) (f0 := .none) hTy fun b => ?_))
  refine wpAny_ite_split (fun _ => ?_) (fun _ => wpAny_pure ⟨plainId_quiet PySem.F.plain_extend_loop _, key _ c₀ _ (fun b o _ e => e) hS⟩)
  refine wpAny_bind (wpAny_rule ?_)
  refine wpAny_bind ?_
  show wpAny _ _ (updateSeq S (·.push .none) >>= fun _ => updateSeq S (·.pop)) _ _ _
  refine wpAny_bind (wpAny_updateSeq hS rfl ?_)
  have hS₂ := Heap.get?_update_self (Obj.mapSeq (·.push Value.none)) hS rfl
  refine wpAny_updateSeq (hz := by seq_fits) hS₂ rfl ?_
  have hS₃ := Heap.get?_update_self (Obj.mapSeq (·.pop)) hS₂ rfl
  refine wpAny_pure ⟨plainId_quiet PySem.F.plain_extend_loop _, key _ _ _ (fun b o hb e => ?_) hS₃⟩
  exact (Heap.get?_update_other _ _ (Ne.symm hb)).trans ((Heap.get?_update_other _ _ (Ne.symm hb)).trans e)
theorem zl_call {Q : Value → Shared → Prop} (Sp : ZipSep2 z TI TO i1 i2 fp1 fp2) (D1 : Draws prog w A.in1.in1.in1 i1 fp1 n1 P1 St1) (D2 : Draws prog w A.in1.in1.in1 i2 fp2 n2 P2 St2) (hz : IsZip s.heap z TI TO .none) (hTI : IsTupOf2 s.heap TI (.ref i1) (.ref i2)) {a b : Value} (hTO : IsTupOf2 s.heap TO a b)
    (st1 : St1 0 s.heap) (st2 : St2 0 s.heap) (h1 : ∀ c ∈ fp1, c < s.heap.objs.size) (h2 : ∀ c ∈ fp2, c < s.heap.objs.size) (hn : min n1 n2 ≤ sizeLine)
    (hQ : ∀ h' tk acc c as, (∀ b o, b ∉ [z, TO, i1, i2] → s.heap.get? b = some o → h'.get? b = some o) → h'.get? s.heap.objs.size = some { cls := .type "list", dict := none, data := .seq acc c, slots := #[] } → as.length = min n1 n2 → ZPs P1 P2 s.heap.objs.size h' as →
      acc.toList = as.map Value.ref → Q (.ref s.heap.objs.size) { s with heap := h', toks := tk }) :
    wpAny (model prog w) A (call (.type "list") [.ref z]) Q E s := by
  refine callType_codes (Q₁ := fun obj s₁ => obj = .ref s.heap.objs.size ∧ s₁ = { s with heap := s.heap.push { cls := .type "list", data := .seq #[] } }) PySem.F.called_list (PySem.F.typeCall_list_1 _) PySem.F.entry_list_init
    (code_list_new _ ⟨rfl, rfl⟩) fun obj s₁ h₁ => ?_
  obtain ⟨rfl, rfl⟩ := h₁
  have hS : (s.heap.push { cls := .type "list", data := .seq #[] }).get? s.heap.objs.size = some { cls := .type "list", data := .seq #[] } := Heap.get?_push_size _ rfl
  have nz : s.heap.objs.size ≠ z := Nat.ne_of_gt (Heap.lt_size hz)
  have nO : s.heap.objs.size ≠ TO := Nat.ne_of_gt (Heap.lt_size hTO)
  have nI : s.heap.objs.size ≠ TI := Nat.ne_of_gt (Heap.lt_size hTI)
  have n1' : s.heap.objs.size ∉ fp1 := fun m => Nat.lt_irrefl _ (h1 _ m)
  have n2' : s.heap.objs.size ∉ fp2 := fun m => Nat.lt_irrefl _ (h2 _ m)
  refine ⟨⟨_, hS, rfl⟩, PySem.F.args_list_init_2 _ _, ?_⟩
  have up : ∀ b o, s.heap.get? b = some o → (s.heap.push { cls := .type "list", data := .seq #[] }).get? b = some o := fun b o e => Heap.get?_push_of_some _ e
  show wpAny _ _ (do let old ← Builtin.List.listItems (.ref s.heap.objs.size); Builtin.List.listUpdate (.ref s.heap.objs.size) (fun _ => #[]); letGo old.toList.reverse; Builtin.List.listExtendWith (.ref s.heap.objs.size) (.ref z) .none) _ _ _
  refine wpAny_bind ?_
  unfold Builtin.List.listItems
  refine wpAny_bind (wpAny_seqItems hS rfl (wpAny_pure ?_))
  show wpAny _ _ (updateSeq s.heap.objs.size (fun _ => #[]) >>= fun _ => letGo (#[] : Array Value).toList.reverse >>= fun _ => Builtin.List.listExtendWith (.ref s.heap.objs.size) (.ref z) .none) _ _ _
  refine wpAny_bind (wpAny_updateSeq hS rfl ?_)
  have hS₂ := Heap.get?_update_self (Obj.mapSeq (fun _ => (#[] : Array Value))) hS rfl
  have oth : ∀ b o, b ≠ s.heap.objs.size → s.heap.get? b = some o → ((s.heap.push { cls := .type "list", data := .seq #[] }).update s.heap.objs.size (Obj.mapSeq (fun _ => (#[] : Array Value)))).get? b = some o :=
    fun b o hb e => (Heap.get?_update_other _ _ (Ne.symm hb)).trans (up b o e)
  refine wpAny_bind (wpAny_letGo ?_)
  have hst : ZSt z TI TO i1 i2 s.heap.objs.size St1 St2 0 ((s.heap.push { cls := .type "list", data := .seq #[] }).update s.heap.objs.size (Obj.mapSeq (fun _ => (#[] : Array Value)))) :=
    ⟨oth _ _ (Ne.symm nI) hTI, D1.frame _ _ _ st1 fun b hb o e => oth b o (fun x => n1' (x ▸ hb)) e, D2.frame _ _ _ st2 fun b hb o e => oth b o (fun x => n2' (x ▸ hb)) e, .inl ⟨oth _ _ (Ne.symm nz) hz, a, b, oth _ _ (Ne.symm nO) hTO⟩⟩
  refine zl_extend (A := A.in1) Sp D1 D2 nz nO nI n1' n2' (Nat.le_of_lt (Heap.lt_size hz)) (Nat.le_of_lt (Heap.lt_size hTO)) (Nat.le_of_lt (h1 _ Sp.mem1)) (Nat.le_of_lt (h2 _ Sp.mem2)) hn .none (oth _ _ (Ne.symm nz) hz) hst _ hS₂ fun h' tk acc c as hk hS' hl hG hacc => ?_
  exact ⟨rfl, hQ h' tk acc c as (fun b o hb e => hk b o (Nat.ne_of_lt (Heap.lt_size e)) hb (oth b o (Nat.ne_of_lt (Heap.lt_size e)) e)) hS' hl hG hacc⟩
end
end SG
set_option Elab.async false
set_option linter.all false
set_option maxRecDepth 100000
set_option maxHeartbeats 4000000
/-! list(zip(list, tuple)) over data -/
namespace SG
open PySem PySem.Spec PyProof.Rows L2
section
variable {X : Cx} {pins : List (Addr × Obj)} {σ : L2.St} {s : Shared} {h' : Heap} {tk : Nat}
/-- tuples that stand in h' are tracked, one by one -/
theorem inv_tups : ∀ (as : List Addr) (ps : List (V × V)) (G : Heap) (H : Hp), Inv X pins σ H { s with heap := G, toks := tk } → (∀ b o, G.get? b = some o → h'.get? b = some o) → as.length = ps.length → as.Nodup → (∀ a ∈ as, G.get? a = none ∧ H a = none) →
    (∀ (j : Nat) (a : Addr) (p : V × V), as[j]? = some a → ps[j]? = some p → ∃ u v, RelV p.1 u ∧ RelV p.2 v ∧ h'.get? a = some { cls := .type "tuple", data := .seq #[u, v] }) →
    ∃ G' H', Inv X pins σ H' { s with heap := G', toks := tk } ∧ (∀ b o, G'.get? b = some o → h'.get? b = some o) ∧ Same H H' ∧ (∀ b, b ∉ as → H' b = H b ∧ (G.get? b = none → G'.get? b = none)) ∧ ∀ (j : Nat) (a : Addr) (p : V × V), as[j]? = some a → ps[j]? = some p → H' a = some (.tup [p.1, p.2])
  | [], ps, G, H, I, hG, hl, _, _, _ => ⟨G, H, I, hG, Same.refl H, fun b _ => ⟨rfl, id⟩, fun j a p e => by simp at e⟩
  | a :: as, [], G, H, I, hG, hl, _, _, _ => by cases hl
  | a :: as, p :: ps, G, H, I, hG, hl, hn, hf, hc => by
    obtain ⟨n1, n2⟩ := List.nodup_cons.mp hn
    obtain ⟨f1, f2⟩ := hf a List.mem_cons_self
    obtain ⟨u, v, r1, r2, r3⟩ := hc 0 a p rfl rfl
    obtain ⟨G1, g1, g2⟩ := restrict h' fun b => decide (b = a) || (G.get? b).isSome
    have k1 : ∀ b o, G.get? b = some o → G1.get? b = some o := fun b o e => by
      rw [g1 b (by rw [e]; simp)]
      exact hG b o e
    have k2 : ∀ b o, G1.get? b = some o → h'.get? b = some o := fun b o e => by
      by_cases q : (decide (b = a) || (G.get? b).isSome) = true
      · rw [← g1 b q]; exact e
      · rw [g2 b (by simpa using q)] at e; cases e
    have ga : G1.get? a = some { cls := .type "tuple", data := .seq #[u, v] } := by rw [g1 a (by simp)]; exact r3
    have I1 : Inv X pins σ (upd H a (.tup [p.1, p.2])) { s with heap := G1, toks := tk } :=
      I.laidN (t' := tk) k1 f1 f2 ⟨by show 2 ≤ sizeLine; decide, [u, v], .cons r1 (.cons r2 .nil), ⟨_, ga, rfl, _, rfl⟩⟩
    have sm : Same H (upd H a (.tup [p.1, p.2])) := upd_ext f2
    obtain ⟨G', H', I', q1, q2, q3, q4⟩ := inv_tups as ps G1 _ I1 k2 (Nat.succ.inj hl) n2 (fun b hb => by
      have hba : b ≠ a := fun e => n1 (e ▸ hb)
      obtain ⟨w1, w2⟩ := hf b (List.mem_cons_of_mem _ hb)
      exact ⟨g2 b (by simp [hba, w1]), by rw [upd_ne hba]; exact w2⟩) (fun j b q e1 e2 => hc (j + 1) b q (by simpa using e1) (by simpa using e2))
    refine ⟨G', H', I', q1, fun b o e => q2 b o (sm b o e), fun b hb => ?_, fun j b q e1 e2 => ?_⟩
    · have hba : b ≠ a := fun e => hb (e ▸ List.mem_cons_self)
      obtain ⟨w1, w2⟩ := q3 b fun m => hb (List.mem_cons_of_mem _ m)
      refine ⟨by rw [w1, upd_ne hba], fun e => w2 (g2 b (by simp [hba, e]))⟩
    · cases j with
      | zero =>
        simp at e1 e2
        subst e1 e2
        exact q2 _ _ upd_same
      | succ j => exact q4 j b q (by simpa using e1) (by simpa using e2)
variable {e e2 : Expr} {p p2 q pos : Pos} {W W1 : List Ow} {ρ : Rho} {ds es : List PyData}
theorem zip_da {F : Hp} : ∀ {ds es : List PyData} {xs ys : List V} {as : List Addr}, DaL F ds xs → DaL F es ys → as.length = min xs.length ys.length → (∀ (j : Nat) (a : Addr) (x y : V), as[j]? = some a → xs[j]? = some x → ys[j]? = some y → F a = some (.tup [x, y])) →
    DaL F ((ds.zip es).map fun p => PyData.tuple [p.1, p.2]) (as.map V.ref)
  | [], es, xs, ys, as, h1, h2, hl, hc => by
    simp only [DaL] at h1
    subst h1
    have : as = [] := List.eq_nil_of_length_eq_zero (by rw [hl]; simp)
    subst this
    exact DaL.nil
  | d :: ds, [], xs, ys, as, h1, h2, hl, hc => by
    simp only [DaL] at h2
    subst h2
    have : as = [] := List.eq_nil_of_length_eq_zero (by rw [hl]; simp)
    subst this
    exact DaL.nil
  | d :: ds, e :: es, xs, ys, as, h1, h2, hl, hc => by
    simp only [DaL] at h1 h2
    obtain ⟨x, xs, rfl, a1, a2⟩ := h1
    obtain ⟨y, ys, rfl, b1, b2⟩ := h2
    cases as with
    | nil => simp at hl
    | cons a as =>
      refine DaL.cons ?_ (zip_da a2 b2 (by simp at hl; omega) fun j b u v e1 e2 e3 => hc (j + 1) b u v (by simpa using e1) (by simpa using e2) (by simpa using e3))
      simp only [Da]
      exact ⟨a, [x, y], rfl, hc 0 a x y rfl rfl rfl, DaL.cons a1 (DaL.cons b1 DaL.nil)⟩
theorem e_listZip (ha : PA X [e, e2] (tA W ρ [.d (.list ds), .d (.tuple es)] W1)) (hm : X.mg "list" = none) (hm2 : X.mg "zip" = none) (hc : X.calm = true := by rfl) (hg : Gl X "list" := by rfl) (hg2 : Gl X "zip" := by rfl)
    (hs : starEach [e, e2] X.env = (false, eval e X.env) :: starEach [e2] X.env := by rfl) (hpl : (backTo q (starEach [e2] X.env)).any (·.1) = false := by rfl)
    (na : starEach [.Call (.Name "zip" p2) [e, e2] [] q] X.env = (false, eval (.Call (.Name "zip" p2) [e, e2] [] q) X.env) :: starEach [] X.env := by rfl) :
    PE X (.Call (.Name "list" p) [.Call (.Name "zip" p2) [e, e2] [] q] [] pos) (tE W ρ (.d (.list ((ds.zip es).map fun p => .tuple [p.1, p.2]))) W1) := by
  refine ⟨fun pins s σ H Q I ⟨Z, cf, k⟩ => ?_⟩
  refine Call_ (ld_blt I hg hm boot_list (PyProof.Rows.callWith_type1 (args_cons ?_ na) na))
  refine Call_ (ld_blt I hg2 hm2 PyProof.Rows.boot_zip (PyProof.Rows.callWith_type1 (thn (ha.run q pins s σ H (fun vs H1 => Go (Z ++ W) (Z ++ W1) H H1 ∧ Hd (Z ++ W1) H1 ∧ RpL (off (adrs (Z ++ W1)) H1) [.d (.list ds), .d (.tuple es)] vs) I ⟨Z, cf, fun vs H1 g1 d1 q1 => ⟨g1, d1, q1⟩⟩) fun us s1 ⟨vs, H1, I1, r1, g1, d1, q1⟩ => ?_) hs hpl))
  obtain ⟨v1, v2, rfl, h1, h2⟩ := rpl_2 q1
  rw [rp_lst] at h1
  rw [rp_tup] at h2
  obtain ⟨l1, xs, rfl, a1, a2⟩ := h1
  obtain ⟨l2, ys, rfl, b1, b2⟩ := h2
  obtain ⟨u1, u2, rfl, r1, r2⟩ : ∃ u1 u2, us = [u1, u2] ∧ RelV (.ref l1) u1 ∧ RelV (.ref l2) u2 := by
    cases r1 with
    | cons r rr =>
      cases rr with
      | cons r' rr =>
        cases rr
        exact ⟨_, _, rfl, r, r'⟩
  obtain rfl : u1 = Value.ref l1 := r1
  obtain rfl : u2 = Value.ref l2 := r2
  have hqx := off_sub _ _ a1
  have hqy := off_sub _ _ b1
  obtain ⟨its, rv, p1, z1⟩ := I1.list (SqL.of hqx)
  obtain ⟨its2, rv2, p2', z2⟩ := I1.tuple (SqT.of hqy)
  have p1 := p1.isList
  have le1 := rv.length
  have le2 := rv2.length
  obtain ⟨o1, ho1, _⟩ := id p1
  obtain ⟨o2, ho2, _⟩ := id p2'
  have lt1 := Heap.lt_size ho1
  have lt2 := Heap.lt_size ho2
  refine zip_begins2 (begins_list l1 its.toArray) (begins_tuple l2 its2.toArray) p1 p2' fun h' hz hTI hTO g1' g2' hsz hk => ?_
  refine args_nil ?_
  have hh := I1.ok.hd hc
  have n1 : l1 ≠ s1.heap.objs.size := Nat.ne_of_lt lt1
  have n2 : l2 ≠ s1.heap.objs.size + 1 := Nat.ne_of_lt (Nat.lt_succ_of_lt lt2)
  have ne : ∀ {l : Addr} (k : Nat), l < s1.heap.objs.size → l ≠ s1.heap.objs.size + k := fun k h => Nat.ne_of_lt (Nat.lt_of_lt_of_le h (Nat.le_add_right _ k))
  have Sp := zipm_sep (PySem.W.ktu_apart s1.heap.objs.size l1 l2 lt1 lt2) ⟨ne 4 lt1, ne 3 lt1, ne 4 lt2, ne 3 lt2, ne 0 lt2, ne 1 lt1, apart5 _⟩
  refine zl_call (s := { s1 with heap := h' }) (A := X.A) Sp (Draws.list (prog := X.prog) (w := X.w) (A := X.A.in1.in1.in1) hh s1.heap.objs.size l1 n1 its.toArray) (Draws.tuple (prog := X.prog) (w := X.w) (A := X.A.in1.in1.in1) hh (s1.heap.objs.size + 1) l2 n2 its2.toArray) hz hTI hTO
    ⟨⟨_, g1', rfl, rfl⟩, p1.at fun o e => hk _ o e⟩ ⟨⟨_, g2', rfl, rfl⟩, let ⟨o, ho, x⟩ := p2'; ⟨o, hk _ _ ho, x⟩⟩ (fun c hcm => ?_) (fun c hcm => ?_) (by simp only [List.size_toArray]; omega) fun h2 tk acc c as hk2 hS hl hZ hacc => ?_
  · have q : c = s1.heap.objs.size ∨ c = l1 := by simpa using hcm
    show c < h'.objs.size
    rw [hsz]
    rcases q with q | q <;> rw [q]
    · exact Nat.lt_add_of_pos_right (by decide)
    · exact Nat.lt_of_lt_of_le lt1 (Nat.le_add_right _ _)
  · have q : c = s1.heap.objs.size + 1 ∨ c = l2 := by simpa using hcm
    show c < h'.objs.size
    rw [hsz]
    rcases q with q | q <;> rw [q]
    · exact Nat.add_lt_add_left (by decide) _
    · exact Nat.lt_of_lt_of_le lt2 (Nat.le_add_right _ _)
  have hS : h2.get? h'.objs.size = some { cls := .type "list", dict := none, data := .seq acc c, slots := #[] } := hS
  have hZ : ZPs (fun i v => its.toArray[i]? = some v) (fun i v => its2.toArray[i]? = some v) h'.objs.size h2 as := hZ
  have hl : as.length = min xs.length ys.length := by rw [hl]; simp only [List.size_toArray]; omega
  have keep : ∀ b o, s1.heap.get? b = some o → h2.get? b = some o := fun b o e => hk2 b o (fun m => by
    have hb := Heap.lt_size e
    have q : b = s1.heap.objs.size + 4 ∨ b = s1.heap.objs.size + 3 ∨ b = s1.heap.objs.size ∨ b = s1.heap.objs.size + 1 := by simpa using m
    rcases q with q | q | q | q
    · exact ne 4 hb q
    · exact ne 3 hb q
    · exact ne 0 hb q
    · exact ne 1 hb q) (hk b o e)
  have fr : ∀ a, s1.heap.objs.size ≤ a → s1.heap.get? a = none ∧ H1 a = none := fun a ha => ⟨by
    cases q : s1.heap.get? a with
    | none => rfl
    | some o => exact absurd (Heap.lt_size q) (Nat.not_lt_of_le ha), I1.hok.fresh ha⟩
  have lh : s1.heap.objs.size ≤ h'.objs.size := by rw [hsz]; exact Nat.le_add_right _ _
  have big : ∀ a ∈ as, s1.heap.objs.size ≤ a := fun a ha => Nat.le_trans lh (Nat.le_of_lt (hZ.above a ha))
  have nd : as.Nodup := hZ.rise.imp fun {a b} h => Nat.ne_of_lt h
  have nS : h'.objs.size ∉ as := fun m => Nat.lt_irrefl _ (hZ.above _ m)
  have hzl : as.length = (xs.zip ys).length := by rw [hl, List.length_zip]
  obtain ⟨G', H', I', q1, q2, q3, q4⟩ := inv_tups (h' := h2) (tk := tk) as (xs.zip ys) s1.heap H1 (I1.tok tk) keep hzl nd (fun a ha => fr a (big a ha)) fun j a pr e1 e2 => by
    obtain ⟨x1, x2, w1, w2, w3⟩ := hZ.pairs j a e1
    obtain ⟨e3, e4⟩ := List.getElem?_zip_eq_some.mp (show (xs.zip ys)[j]? = some (pr.1, pr.2) from e2)
    obtain ⟨u, hu, ru⟩ := rv.get e3
    obtain ⟨v, hv, rv'⟩ := rv2.get e4
    have hu' : its[j]? = some x1 := by simpa using w1
    have hv' : its2[j]? = some x2 := by simpa using w2
    rw [hu'] at hu
    rw [hv'] at hv
    cases hu
    cases hv
    exact ⟨x1, x2, ru, rv', w3⟩
  obtain ⟨w1, w2⟩ := q3 _ nS
  have hSn : H' h'.objs.size = none := by rw [w1]; exact (fr _ lh).2
  have hz' : (as.map V.ref).length ≤ sizeLine := by rw [List.length_map, hl]; omega
  have I3 : Inv X pins σ (upd H' h'.objs.size (.lst (as.map V.ref))) { s1 with heap := h2, toks := tk } := I'.laidN (t' := tk) q1 (w2 (fr _ lh).1) hSn ⟨hz', acc.toList, c, ?_, by rw [Array.toArray_toList]; exact hS⟩
  · have sm : Same H1 (upd H' h'.objs.size (.lst (as.map V.ref))) := fun b o e => by
      have := q2 b o e
      rw [upd_ne (ne_of_none this hSn)]
      exact this
    refine ⟨.ref h'.objs.size, _, I3, rfl, k _ _ (g1.trans (Go.same sm)) (d1.same sm) ?_⟩
    rw [rp_lst]
    have na : ∀ a, H1 a = none → a ∉ adrs (Z ++ W1) := fun a h m => d1.lv a m h
    refine ⟨_, _, rfl, by rw [off_out (na _ (fr _ lh).2), upd_same], ?_⟩
    refine zip_da (DaL.mono (off_same sm) _ _ a2) (DaL.mono (off_same sm) _ _ b2) hl fun j a x y e1 e2 e3 => ?_
    have ha := List.mem_of_getElem? e1
    have := q4 j a (x, y) e1 (List.getElem?_zip_eq_some.mpr ⟨e2, e3⟩)
    rw [off_out (na _ (fr _ (big a ha)).2), upd_ne (show a ≠ h'.objs.size from fun e => nS (by rw [← e]; exact ha))]
    exact this
  · rw [hacc]
    have : ∀ as : List Addr, Vals (as.map V.ref) (as.map Value.ref) := fun as => by
      induction as with
      | nil => exact .nil
      | cons a as ih => exact .cons rfl ih
    exact this as
end
end SG
set_option Elab.async false
set_option linter.all false
set_option maxRecDepth 100000
set_option maxHeartbeats 4000000
namespace SG
open PySem PySem.Spec PyProof.Rows L2
/-! the law's look at trees -/
theorem sh_nds {α : Type} (xs : List α) (q : α → Nat) : Sh (.list (xs.map fun a => nD (q a))) := by
  have e : (xs.map fun a => nD (q a)) = (xs.map q).map nD := by rw [List.map_map]; rfl
  rw [e]; exact sh_nl
theorem fil_bare {G : Sp2} {ns : List Nat} {t : Nat} (ht : t < G.1) : (ns.filter fun k => decide (t ∈ G.2.getD k [])).isEmpty = decide (t ∈ bare G ns) := by
  rw [emp_any, Bool.eq_iff_iff, decide_eq_true_eq, bare_iff, Bool.not_eq_true', List.any_eq_false]
  exact ⟨fun h => ⟨ht, fun k hk z => h k hk (decide_eq_true z)⟩, fun h k hk z => h.2 k hk (of_decide_eq_true z)⟩
section
variable {P : Program} {w : World} {K : PySem.W.Frag} {mg : Str → Option Value} {base : Heap}
inductive F_law_is_tree (D : Nat) : Spec
  | mk {G : Sp2} {n : Nat} {ns : List Nat} {d : PyData} (hG : OkSys G) (h : ∀ k ∈ ns, k < G.2.length) (h2 : ns.length + n ≤ 90) (hd : n ≤ D) (hg : Gd d) : F_law_is_tree D [] [.d (spD G), I_ (n : Nat), .d (nlD ns), .d d] (B_ (isTree G n ns d)) []
theorem sc_law_is_tree : FnScope ["_law_system_here", "_law_deep", "_law_taken_so", "_law_thing", "_law_k", "_law_further", "_law_crew", "_law_rows", "_law_one"] ["_law_system_here", "_law_deep", "_law_taken_so", "_law_thing"] (C8.fnScope s_law_is_tree) := ⟨rfl, rfl, rfl, by decide +kernel, rfl, by decide +kernel, by decide +kernel⟩
theorem bi_law_is_tree : BindsF "_law_is_tree" s_law_is_tree ["_law_system_here", "_law_deep", "_law_taken_so", "_law_thing"] := fun _ _ _ _ _ _ us hl => match us, hl with | [_, _, _, _], _ => rfl
theorem f_law_is_tree_step (T : Top K mg) (D : Nat) (ih : ∀ d', D = d' + 1 → Fn P w K mg base false (d' + 3) "_law_is_tree" (F_law_is_tree d')) : Fn P w K mg base false (D + 3) "_law_is_tree" (F_law_is_tree D) := by
  refine Fn.of T.s_law_is_tree sc_law_is_tree bi_law_is_tree (by rintro _ _ _ _ ⟨⟩; rfl) fun f cdv A outer s H E hr W rs r W' hF => ?_
  cases hF with | @mk G n ns d hG h h2 hd hg =>
  have g1 := hG.le
  have g2 := hG.n
  have hns : ns.length < sizeLine := Nat.lt_of_le_of_lt (show ns.length ≤ 90 by omega) (by decide)
  have hz : (G.2.zipIdx).length < sizeLine := by rw [List.length_zipIdx]; exact Nat.lt_of_le_of_lt g2 (by decide)
  have hr1 : Room 1 (bX P w K mg base _ _ _ f cdv A outer s H E).A := hr.mono (by omega)
  by_cases ht : ∃ ds, d = .tuple ds
  rotate_left
  · have e : isTree G n ns d = false := by cases d <;> first | (cases n <;> simp [isTree]; done) | exact absurd ⟨_, rfl⟩ ht
    rw [e]
    refine h_ifT (PW.pt (w_orT (t_notT (t_val (k := false) (e_eq (r_calB (a_cons (e_var 3) (a_cons (e_bty T.b_tuple rfl) a_nil)) (f_isTup (Sh.nd (by first | assumption | omega | exact hg.sh | decide))) T.b_isinstance rfl) ?_))))) (h_one (s_ret e_bl))
    cases d <;> first | rfl | exact absurd ⟨_, rfl⟩ ht
  obtain ⟨ds, rfl⟩ := ht
  by_cases h22 : ds.length = 2
  rotate_left
  · have e : isTree G n ns (.tuple ds) = false := by
      match ds, h22 with
      | [], _ => cases n <;> simp [isTree]
      | [_], _ => cases n <;> simp [isTree]
      | [_, _], h => exact absurd rfl h
      | _ :: _ :: _ :: _, _ => cases n <;> simp [isTree]
    rw [e]
    exact h_ifT (PW.pt (w_orF (t_notF (t_val (r_calB (a_cons (e_var 3) (a_cons (e_bty T.b_tuple rfl) a_nil)) f_isTupT T.b_isinstance rfl))) (w_orT (t_eq (rt_cmp (r_calB (a_cons (e_var 3) a_nil) f_lenT T.b_len rfl) e_nat c_neN) (by simp [h22]))))) (h_one (s_ret e_bl))
  obtain ⟨a, b, rfl⟩ : ∃ a b, ds = [a, b] := by
    match ds, h22 with
    | [a, b], _ => exact ⟨a, b, rfl⟩
  have ha : Gd a := hg.mem a (by simp)
  have hb : Gd b := hg.mem b (by simp)
  cases hi : isInt a 0 ((G.1 : Int) - 1) with
  | false =>
    have e : isTree G n ns (.tuple [a, b]) = false := by cases b <;> cases n <;> simp [isTree, hi]
    rw [e]
    exact h_ifT (PW.pt (w_orF (t_notF (t_val (r_calB (a_cons (e_var 3) (a_cons (e_bty T.b_tuple rfl) a_nil)) f_isTupT T.b_isinstance rfl))) (w_orF (t_eq (rt_cmp (r_calB (a_cons (e_var 3) a_nil) f_lenT T.b_len rfl) e_nat c_neN) rfl) (w_or1 (t_notT (t_val (e_to (B_ false) (r_callP (f_law_is_int T) hr1 (a_cons (r_ix (e_var 3) e_nat (x_tup (by rfl))) (a_cons e_nat (a_cons (r_bin (r_ix (e_var 0) e_nat x_sp0) e_nat b_sub) a_nil))) (.mk ha.sh)) (by rw [← hi]; rfl)))))))) (h_one (s_ret e_bl))
  | true =>
  refine h_ifF (PW.pt (w_orF (t_notF (t_val (r_calB (a_cons (e_var 3) (a_cons (e_bty T.b_tuple rfl) a_nil)) f_isTupT T.b_isinstance rfl))) (w_orF (t_eq (rt_cmp (r_calB (a_cons (e_var 3) a_nil) f_lenT T.b_len rfl) e_nat c_neN) rfl) (w_or1 (t_notF (t_val (e_to (B_ true) (r_callP (f_law_is_int T) hr1 (a_cons (r_ix (e_var 3) e_nat (x_tup (by rfl))) (a_cons e_nat (a_cons (r_bin (r_ix (e_var 0) e_nat x_sp0) e_nat b_sub) a_nil))) (.mk ha.sh)) (by rw [← hi]; rfl)))))))) ?_
  obtain ⟨t, rfl, htl⟩ : ∃ t : Nat, a = nD t ∧ t < G.1 := by
    obtain ⟨i, rfl⟩ := isInt_int hi
    have : (decide (0 ≤ i) && decide (i ≤ (G.1 : Int) - 1)) = true := hi
    rw [Bool.and_eq_true, decide_eq_true_eq, decide_eq_true_eq] at this
    exact ⟨i.toNat, by show PyData.int i = PyData.int _; congr 1; omega, by omega⟩
  have et : (toI (nD t)).toNat = t := by simp [toI]
  have fb := fil_bare (ns := ns) htl
  cases hm : decide (t ∈ bare G ns) with
  | false =>
    have e : isTree G n ns (.tuple [nD t, b]) = false := by cases b <;> cases n <;> simp [isTree, et, hm]
    rw [e]
    rw [hm] at fb
    exact h_ifT (PW.pt (w_orT (t_eq (rt_cmp (e_comp (comp_N [("_law_k", 4)] 4 (p := fun k => decide (t ∈ G.2.getD k [])) (f := nD) (xs := ns) (i_lst (e_var 2)) sc_law_is_tree.nd (by first | assumption | omega | exact h _ ‹_› | decide) (fun a ha s H C cl fp => s_one (rt_cmp (r_ix (e_var 3) e_nat (x_tup (d := nD t) (atI_nat rfl))) (r_ix (r_ix (e_var 0) e_nat x_sp1) (e_var 4) (x_lots (by first | assumption | omega | exact h _ ‹_› | decide))) c_inN)) (fun a ha hp s H C cl fp => (e_var 4)) (fun s H C cl fp => g_nm 4 sc_law_is_tree.nd))) e_nilL (c_mL0n hr.units (sh_nds _ (fun k => k)))) (by rw [fb]; rfl)))) (h_one (s_ret e_bl))
  | true =>
  rw [hm] at fb
  by_cases hbt : ∃ ds, b = .tuple ds
  rotate_left
  · have e : isTree G n ns (.tuple [nD t, b]) = false := by cases b <;> first | (cases n <;> simp [isTree]; done) | exact absurd ⟨_, rfl⟩ hbt
    rw [e]
    refine h_ifT (PW.pt (w_orF (t_eq (rt_cmp (e_comp (comp_N [("_law_k", 4)] 4 (p := fun k => decide (t ∈ G.2.getD k [])) (f := nD) (xs := ns) (i_lst (e_var 2)) sc_law_is_tree.nd (by first | assumption | omega | exact h _ ‹_› | decide) (fun a ha s H C cl fp => s_one (rt_cmp (r_ix (e_var 3) e_nat (x_tup (d := nD t) (atI_nat rfl))) (r_ix (r_ix (e_var 0) e_nat x_sp1) (e_var 4) (x_lots (by first | assumption | omega | exact h _ ‹_› | decide))) c_inN)) (fun a ha hp s H C cl fp => (e_var 4)) (fun s H C cl fp => g_nm 4 sc_law_is_tree.nd))) e_nilL (c_mL0n hr.units (sh_nds _ (fun k => k)))) (by rw [fb]; rfl)) (w_or1 (t_notT (t_val (k := false) (e_eq (r_calB (a_cons (r_ix (e_var 3) e_nat (x_tup (d := b) (atI_nat rfl))) (a_cons (e_bty T.b_tuple rfl) a_nil)) (f_isTup (Sh.nd hb.sh)) T.b_isinstance rfl) ?_)))))) (h_one (s_ret e_bl))
    cases b <;> first | rfl | exact absurd ⟨_, rfl⟩ hbt
  obtain ⟨ds, rfl⟩ := hbt
  refine h_ifF (PW.pt (w_orF (t_eq (rt_cmp (e_comp (comp_N [("_law_k", 4)] 4 (p := fun k => decide (t ∈ G.2.getD k [])) (f := nD) (xs := ns) (i_lst (e_var 2)) sc_law_is_tree.nd (by first | assumption | omega | exact h _ ‹_› | decide) (fun a ha s H C cl fp => s_one (rt_cmp (r_ix (e_var 3) e_nat (x_tup (d := nD t) (atI_nat rfl))) (r_ix (r_ix (e_var 0) e_nat x_sp1) (e_var 4) (x_lots (by first | assumption | omega | exact h _ ‹_› | decide))) c_inN)) (fun a ha hp s H C cl fp => (e_var 4)) (fun s H C cl fp => g_nm 4 sc_law_is_tree.nd))) e_nilL (c_mL0n hr.units (sh_nds _ (fun k => k)))) (by rw [fb]; rfl)) (w_or1 (t_notF (t_val (r_calB (a_cons (r_ix (e_var 3) e_nat (x_tup (d := .tuple ds) (atI_nat rfl))) (a_cons (e_bty T.b_tuple rfl) a_nil)) f_isTupT T.b_isinstance rfl)))))) ?_
  cases n with
  | zero =>
    have e : isTree G 0 ns (.tuple [nD t, .tuple ds]) = ds.isEmpty := by
      simp only [isTree, et, hm, hi, Bool.true_and]
    rw [e]
    exact h_ifT (t_eq (rt_cmp (e_var 1) e_nat c_eqN) rfl) (h_one (s_ret (r_cmp (r_ix (e_var 3) e_nat (x_tup (d := .tuple ds) (atI_nat rfl))) e_nilT (c_nilT hr.units hb.sh))))
  | succ n =>
    have e : isTree G (n + 1) ns (.tuple [nD t, .tuple ds]) = (decide (ds.length = (with_ G t).length) && ((with_ G t).zip ds).all fun p => isTree G n (ns ++ [p.1]) p.2) := by
      simp only [isTree, et, hm, hi, Bool.true_and]
    rw [e]
    obtain ⟨d', rfl⟩ : ∃ d', D = d' + 1 := ⟨D - 1, by omega⟩
    have ihx := ih d' rfl
    have hr2 : Room (d' + 3) (bX P w K mg base _ _ _ f cdv A outer s H E).A := hr
    refine h_ifF (t_eq (rt_cmp (e_var 1) e_nat c_eqN) (by simp)) ?_
    refine h_cons (s_wk (s_setC 5 (comp_P [("_law_k", 4), ("_law_crew", 6)] 4 6 (p := fun p => decide (t ∈ p.1)) (f := fun p => nD p.2) (xs := G.2.zipIdx) (i_enT T.b_enumerate (a_cons (r_ix (e_var 0) e_nat x_sp1) a_nil)) sc_law_is_tree.nd (by first | assumption | omega | exact h _ ‹_› | decide) (fun a ha s H C cl fp => s_one (rt_cmp (r_ix (e_var 3) e_nat (x_tup (d := nD t) (atI_nat rfl))) (e_var 6) c_inN)) (fun a ha hp s H C cl fp => (e_var 4)) (fun s H C cl fp => g_pr 4 6 sc_law_is_tree.nd))) (ρ2 := [some (.d (spD G)), some (I_ ((n + 1 : Nat) : Int)), some (.d (nlD ns)), some (.d (.tuple [nD t, .tuple ds])), none, some (.d (.list ((with_ G t).map nD))), none, none, none]) ⟨.inr rfl, .inr rfl, .inr rfl, .inr rfl, .inl rfl, .inr (wth_eq G _), .inr rfl, .inr rfl, .inr rfl, trivial⟩) ?_
    refine h_ifR (k := !decide (ds.length = (with_ G t).length)) (rt_cmp (r_calB (a_cons (r_ix (e_var 3) e_nat (x_tup (d := .tuple ds) (atI_nat rfl))) a_nil) f_lenT T.b_len rfl) (r_calB (a_cons (e_var 5) a_nil) f_lenM T.b_len rfl) c_neN) (fun h1 => h_one (s_retE e_bl ?_)) (fun h2' => ?_)
    · have e : decide (ds.length = (with_ G t).length) = false := by simpa using h1
      rw [e]
      rfl
    · have el : decide (ds.length = (with_ G t).length) = true := by simpa using h2'
      have hwl : ((with_ G t).zip ds).length < sizeLine := by
        rw [List.length_zip]
        have := with_len G t
        exact Nat.lt_of_le_of_lt (show _ ≤ 5 by omega) (by decide)
      have hk : ∀ p ∈ (with_ G t).zip ds, (∀ j ∈ ns ++ [p.1], j < G.2.length) ∧ Gd p.2 := fun p hp => by
        obtain ⟨z1, z2⟩ := List.of_mem_zip (a := p.1) (b := p.2) hp
        refine ⟨fun j hj => ?_, hb.mem _ z2⟩
        rcases List.mem_append.mp hj with z | z
        · exact h j z
        · have : j = p.1 := by simpa using z
          rw [this]; exact with_lt z1
      have ez : (((with_ G t).map nD).zip ds).map (fun p => PyData.tuple [p.1, p.2]) = ((with_ G t).zip ds).map fun p => PyData.tuple [nD p.1, id p.2] := by
        rw [List.zip_map_left, List.map_map]
        rfl
      refine h_cons (s_set 7 (e_to (.d (.list (((with_ G t).zip ds).map fun p => PyData.tuple [nD p.1, id p.2]))) (e_listZip (a_cons (e_var 5) (a_cons (r_ix (e_var 3) e_nat (x_tup (d := .tuple ds) (atI_nat rfl))) a_nil)) T.b_list T.b_zip) (by rw [ez])) sc_law_is_tree.nd) ?_
      have hcat : ∀ x : PyData, (ns.map nD).length + ([x] : List PyData).length ≤ sizeLine := fun x => by
        rw [List.length_map, List.length_singleton]
        exact small_le (by omega)
      refine h_one (s_retE (r_cmp (e_comp (comp_P [("_law_k", 4), ("_law_one", 8)] 4 8 (p := fun p => !isTree G n (ns ++ [p.1]) p.2) (f := fun p => nD p.1) (xs := (with_ G t).zip ds) (g1 := fun p => nD p.1) (g2 := fun p => id p.2) (i_lst (e_var 7)) sc_law_is_tree.nd hwl
        (fun a ha s H C cl fp => s_one (t_not (t_val (r_callP ihx hr2 (a_cons (e_var 0) (a_cons (r_bin (e_var 1) e_nat (b_subN (i := n + 1) (j := 1) (by omega))) (a_cons (e_to (.d (nlD (ns ++ [a.1]))) (r_bin (e_var 2) (e_lst1 (a_cons (e_var 4) a_nil)) (b_catL (hcat _))) (by unfold nlD; rw [List.map_append]; rfl)) (a_cons (e_var 8) a_nil)))) (.mk (n := n) hG (hk a ha).1 (by simp; omega) (by omega) (hk a ha).2)))))
        (fun a ha hp s H C cl fp => e_var 4) (fun s H C cl fp => g_pr 4 8 sc_law_is_tree.nd))) e_nilL (c_mL0 hr.units (sh_nds _ (fun p : Nat × PyData => p.1)))) ?_)
      rw [emp_filt, el]
      rfl
theorem f_law_is_tree (T : Top K mg) (D : Nat) : Fn P w K mg base false (D + 3) "_law_is_tree" (F_law_is_tree D) := by
  induction D with
  | zero => exact f_law_is_tree_step T 0 fun d' e => by omega
  | succ d ih => exact f_law_is_tree_step T (d + 1) fun d' e => (show d = d' from by omega) ▸ ih
end
end SG
set_option Elab.async false
set_option linter.all false
set_option maxRecDepth 100000
set_option maxHeartbeats 4000000
namespace SG
open PySem PySem.Spec PyProof.Rows L2
/-! what a paper is judged to be -/
theorem str_code {a b : Str} (h : a = b) : a.cps[0]? = b.cps[0]? := by rw [h]
theorem code_app (a b : Str) (h : 0 < a.cps.size) : (a ++ b).cps[0]? = a.cps[0]? := by
  show (a.cps ++ b.cps)[0]? = _
  rw [Array.getElem?_append_left h]
theorem text_code : ∀ (ts : List Str) (k : Nat) (acc : Str), 0 < acc.cps.size → (textFrom k acc ts).cps[0]? = acc.cps[0]? ∧ 0 < (textFrom k acc ts).cps.size
  | [], k, acc, h => ⟨rfl, h⟩
  | t :: ts, k, acc, h => by
    have h1 : 0 < (acc ++ (if k > 0 then ", " else "" : String) ++ t : Str).cps.size := by
      show 0 < ((acc.cps ++ _) ++ _ : Array Nat).size
      rw [Array.size_append, Array.size_append]
      omega
    have h2 : 0 < (acc ++ (if k > 0 then ", " else "" : String) : Str).cps.size := by
      show 0 < ((acc.cps ++ _) : Array Nat).size
      rw [Array.size_append]
      omega
    obtain ⟨a, b⟩ := text_code ts (k + 1) (acc ++ (if k > 0 then ", " else "" : String) ++ t) h1
    refine ⟨?_, b⟩
    show (textFrom (k + 1) _ ts).cps[0]? = _
    rw [a, code_app _ _ h2, code_app _ _ h]
theorem list_code (ts : List Str) : (listText ts).cps[0]? = some 91 := by
  obtain ⟨a, b⟩ := text_code ts 0 "[" (by decide)
  show (textFrom 0 "[" ts ++ "]" : Str).cps[0]? = _
  rw [code_app _ _ b, a]
  decide
theorem tuple_code (ts : List Str) : (tupleText ts).cps[0]? = some 40 := by
  unfold tupleText
  rw [code_app _ _ (by
    show 0 < ((("(" : Str)).cps ++ _ : Array Nat).size
    rw [Array.size_append]
    exact Nat.lt_of_lt_of_le (show 0 < (("(" : Str)).cps.size by decide) (Nat.le_add_right _ _)), code_app _ _ (by decide)]
  decide
theorem shown_word {d : PyData} (h : okD d = true) : (d.shown = "'borne'" ↔ d = .str "borne") ∧ (d.shown = "'open'" ↔ d = .str "open") := by
  have no : ∀ {d : PyData}, (∀ z, d ≠ .str z) → d.shown ≠ "'borne'" → d.shown ≠ "'open'" → (d.shown = "'borne'" ↔ d = .str "borne") ∧ (d.shown = "'open'" ↔ d = .str "open") := fun h0 h1 h2 =>
    ⟨⟨fun z => absurd z h1, fun z => absurd z (h0 _)⟩, ⟨fun z => absurd z h2, fun z => absurd z (h0 _)⟩⟩
  match d, h with
  | .none, _ => exact no (fun z e => nomatch e) (by simp only [PyData.shown]; decide) (by simp only [PyData.shown]; decide)
  | .bool true, _ => exact no (fun z e => nomatch e) (by simp only [PyData.shown]; decide) (by simp only [PyData.shown]; decide)
  | .bool false, _ => exact no (fun z e => nomatch e) (by simp only [PyData.shown]; decide) (by simp only [PyData.shown]; decide)
  | .int i, h =>
    simp only [okD, Bool.and_eq_true, decide_eq_true_eq] at h
    obtain ⟨k, hk, rfl⟩ := int_small h.1 h.2
    exact no (fun z e => nomatch e) (int_shown k hk).2.1 (int_shown k hk).2.2.1
  | .str s, h =>
    simp only [okD, decide_eq_true_eq] at h
    obtain ⟨_, _, h1, h2⟩ := str_shown s h
    exact ⟨h1.trans ⟨fun e => by rw [e], fun e => by injection e⟩, h2.trans ⟨fun e => by rw [e], fun e => by injection e⟩⟩
  | .list ds, _ =>
    refine no (fun z e => nomatch e) (fun e => ?_) (fun e => ?_) <;>
    · simp only [PyData.shown] at e
      have := str_code e
      rw [list_code] at this
      revert this
      decide
  | .tuple ds, _ =>
    refine no (fun z e => nomatch e) (fun e => ?_) (fun e => ?_) <;>
    · simp only [PyData.shown] at e
      have := str_code e
      rw [tuple_code] at this
      revert this
      decide
def dueD (S G : Sp2) (d : PyData) : PyData := if formOk d = true then (if goodO S G d = true then .str (wordO d) else .list [.str (wordO d)]) else .list [.str "form"]
theorem due_form {S G : Sp2} {d : PyData} (h : formOk d = false) : dueD S G d = .list [.str "form"] := by
  unfold dueD
  rw [if_neg (by rw [h]; decide)]
theorem Gs.mem {n m : Nat} {ds : List PyData} (h : Gs n m (.tuple ds)) {d : PyData} (hd : d ∈ ds) : Gs n m d := by
  have h1 := h.ok
  have h2 := h.dep
  have h3 := h.wt
  simp only [okD] at h1
  simp only [PyData.depth] at h2
  simp only [SG.wt] at h3
  have key : ∀ ds : List PyData, ∀ d ∈ ds, SG.wt d ≤ wtA ds := by
    intro ds
    induction ds with
    | nil => intro d hd; cases hd
    | cons a ds ih =>
      intro d hd
      simp only [wtA]
      rcases List.mem_cons.mp hd with z | z
      · rw [z]; omega
      · have := ih d z
        omega
  have k1 := key ds d hd
  have k2 := depth_mem hd
  exact ⟨okA_all.mp h1 d hd, by omega, by omega⟩
section
variable {P : Program} {w : World} {K : PySem.W.Frag} {mg : Str → Option Value} {base : Heap}
inductive F_law_due : Spec
  | mk {S G : Sp2} {d : PyData} (hS : OkSp S) (hG : OkSys G) (hg : Gs 60 1000000 d) : F_law_due [] [.dt (spansD S), I_ (S.1 : Nat), .d (spD G), I_ (numberIn S : Nat), .d d] (.d (dueD S G d)) []
theorem sc_law_due : FnScope ["_law_spans_here", "_law_points", "_law_system_here", "_law_height", "_law_thing"] ["_law_spans_here", "_law_points", "_law_system_here", "_law_height", "_law_thing"] (C8.fnScope s_law_due) := ⟨rfl, rfl, rfl, by decide +kernel, rfl, by decide +kernel, by decide +kernel⟩
theorem bi_law_due : BindsF "_law_due" s_law_due ["_law_spans_here", "_law_points", "_law_system_here", "_law_height", "_law_thing"] := fun _ _ _ _ _ _ us hl => match us, hl with | [_, _, _, _, _], _ => rfl
theorem f_law_due (T : Top K mg) : Fn P w K mg base true 11 "_law_due" F_law_due := by
  refine Fn.ofG (k := 10) T.s_law_due sc_law_due bi_law_due (by rintro _ _ _ _ ⟨⟩; rfl) fun f cdv A outer s H E hr hq W rs r W' hF => ?_
  cases hF with | @mk S G d hS hG hg =>
  have gd := hg.gd (by decide) (by decide)
  have h2 := number_le hS
  have hle := hS.le
  have gle := hG.le
  have gn := hG.n
  by_cases ht : ∃ ds, d = .tuple ds
  rotate_left
  · have e : formOk d = false := by cases d <;> first | rfl | exact absurd ⟨_, rfl⟩ ht
    rw [due_form e]
    refine h_ifT (PW.pt (w_orT (t_notT (t_val (k := false) (e_eq (r_calB (a_cons (e_var 4) (a_cons (e_bty T.b_tuple rfl) a_nil)) (f_isTup (Sh.nd (by first | assumption | omega | exact gd.sh | decide))) T.b_isinstance rfl) ?_))))) (h_one (s_ret (e_lst1 (a_cons e_str a_nil))))
    cases d <;> first | rfl | exact absurd ⟨_, rfl⟩ ht
  obtain ⟨ds, rfl⟩ := ht
  cases ds with
  | nil =>
    rw [due_form rfl]
    exact h_ifT (PW.pt (w_orF (t_notF (t_val (r_calB (a_cons (e_var 4) (a_cons (e_bty T.b_tuple rfl) a_nil)) f_isTupT T.b_isinstance rfl))) (w_orT (t_eq (rt_cmp (e_var 4) e_nilT (c_nilT hr.units gd.sh)) rfl)))) (h_one (s_ret (e_lst1 (a_cons e_str a_nil))))
  | cons a ds =>
  have ga : Gs 60 1000000 a := hg.mem List.mem_cons_self
  obtain ⟨w1, w2⟩ := shown_word ga.ok
  by_cases hw : a = .str "borne" ∨ a = .str "open"
  rotate_left
  · have e : formOk (.tuple (a :: ds)) = false := by
      cases a with
      | str z =>
        show decide (((ds.length + 1 : Nat) : Int) = szOf z) = false
        unfold szOf
        rw [if_neg (fun e => hw (.inl (by rw [e]))), if_neg (fun e => hw (.inr (by rw [e])))]
        exact decide_eq_false (by omega)
      | _ => rfl
    rw [due_form e]
    refine h_ifT (PW.pt (w_orF (t_notF (t_val (r_calB (a_cons (e_var 4) (a_cons (e_bty T.b_tuple rfl) a_nil)) f_isTupT T.b_isinstance rfl))) (w_orF (t_eq (rt_cmp (e_var 4) e_nilT (c_nilT hr.units gd.sh)) rfl) (w_or1 (t_eq (rt_cmp (r_calB (a_cons (r_ix (e_var 4) e_nat (x_tup (d := a) (atI_nat rfl))) a_nil) (f_repr (hq rfl) hr.units ga (by decide) (by decide)) T.b_repr rfl) (e_to (.d (.tuple ((["'borne'", "'open'"] : List Str).map .str))) (e_tup2 (a_cons e_str (a_cons e_str a_nil))) rfl) c_niS) ?_))))) (h_one (s_ret (e_lst1 (a_cons e_str a_nil))))
    rw [Bool.not_eq_true', decide_eq_false_iff_not, List.mem_cons, List.mem_singleton]
    rintro (z | z)
    · exact hw (.inl (w1.mp z))
    · exact hw (.inr (w2.mp z))
  obtain ⟨z, rfl, hz⟩ : ∃ z : Str, a = .str z ∧ (z = "borne" ∨ z = "open") := by
    rcases hw with e | e
    · exact ⟨_, e, .inl rfl⟩
    · exact ⟨_, e, .inr rfl⟩
  refine h_ifF (PW.pt (w_orF (t_notF (t_val (r_calB (a_cons (e_var 4) (a_cons (e_bty T.b_tuple rfl) a_nil)) f_isTupT T.b_isinstance rfl))) (w_orF (t_eq (rt_cmp (e_var 4) e_nilT (c_nilT hr.units gd.sh)) rfl) (w_or1 (t_eq (rt_cmp (r_calB (a_cons (r_ix (e_var 4) e_nat (x_tup (d := .str z) (atI_nat rfl))) a_nil) (f_repr (hq rfl) hr.units ga (by decide) (by decide)) T.b_repr rfl) (e_to (.d (.tuple ((["'borne'", "'open'"] : List Str).map .str))) (e_tup2 (a_cons e_str (a_cons e_str a_nil))) rfl) c_niS) ?_))))) ?_
  · rw [Bool.not_eq_false', decide_eq_true_eq, List.mem_cons, List.mem_singleton]
    rcases hz with e | e
    · exact .inl (w1.mpr (by rw [e]))
    · exact .inr (w2.mpr (by rw [e]))
  have hbo : (Str.ofString "open" = Str.ofString "borne") = False := by decide
  rcases hz with rfl | rfl
  · -- borne
    by_cases hl : ds.length = 1
    rotate_left
    · have e : formOk (.tuple (.str "borne" :: ds)) = false := by
        show decide (((ds.length + 1 : Nat) : Int) = szOf "borne") = false
        unfold szOf
        rw [if_pos rfl]
        exact decide_eq_false (by omega)
      rw [due_form e]
      exact h_ifT (t_eq (rt_cmp (r_calB (a_cons (e_var 4) a_nil) f_lenT T.b_len rfl) (e_ifT (t_eq (rt_cmp (r_ix (e_var 4) e_nat (x_tup (d := .str "borne") (atI_nat rfl))) e_str c_eqS) (by decide)) e_nat) c_neN) (by simp [hl])) (h_one (s_ret (e_lst1 (a_cons e_str a_nil))))
    obtain ⟨x, rfl⟩ : ∃ x, ds = [x] := by
      match ds, hl with
      | [x], _ => exact ⟨x, rfl⟩
    refine h_ifF (t_eq (rt_cmp (r_calB (a_cons (e_var 4) a_nil) f_lenT T.b_len rfl) (e_ifT (t_eq (rt_cmp (r_ix (e_var 4) e_nat (x_tup (d := .str "borne") (atI_nat rfl))) e_str c_eqS) (by decide)) e_nat) c_neN) (by simp)) ?_
    have gx : Gd x := gd.mem x (by simp)
    have hr3 : Room (5 + 3) (bX P w K mg base _ _ _ f cdv A outer s H E).A := hr.mono (by decide)
    have e : dueD S G (.tuple [.str "borne", x]) = if isTree G (numberIn S) [] x = true then .str "borne" else .list [.str "borne"] := by
      unfold dueD
      rw [if_pos (by rfl)]
      rfl
    rw [e]
    cases hb : isTree G (numberIn S) [] x with
    | true =>
      rw [if_pos rfl]
      exact h_ifT (t_eq (rt_cmp (r_ix (e_var 4) e_nat (x_tup (d := .str "borne") (atI_nat rfl))) e_str c_eqS) (by decide)) (h_one (s_ret (e_ifT (t_val (e_to (B_ true) (r_callP (f_law_is_tree T 5) hr3 (a_cons (e_var 2) (a_cons (e_var 3) (a_cons (e_to (.d (nlD [])) e_nilL rfl) (a_cons (r_ix (e_var 4) e_nat (x_tup (d := x) (atI_nat rfl))) a_nil)))) (.mk (n := numberIn S) hG (fun k hk => nomatch hk) (by simp; omega) h2 gx)) (by rw [hb]))) e_str)))
    | false =>
      rw [if_neg (by decide)]
      exact h_ifT (t_eq (rt_cmp (r_ix (e_var 4) e_nat (x_tup (d := .str "borne") (atI_nat rfl))) e_str c_eqS) (by decide)) (h_one (s_ret (e_ifF (t_val (e_to (B_ false) (r_callP (f_law_is_tree T 5) hr3 (a_cons (e_var 2) (a_cons (e_var 3) (a_cons (e_to (.d (nlD [])) e_nilL rfl) (a_cons (r_ix (e_var 4) e_nat (x_tup (d := x) (atI_nat rfl))) a_nil)))) (.mk (n := numberIn S) hG (fun k hk => nomatch hk) (by simp; omega) h2 gx)) (by rw [hb]))) (e_lst1 (a_cons e_str a_nil)))))
  · -- open
    by_cases hl : ds.length = 2
    rotate_left
    · have e : formOk (.tuple (.str "open" :: ds)) = false := by
        show decide (((ds.length + 1 : Nat) : Int) = szOf "open") = false
        unfold szOf
        rw [if_neg (by decide), if_pos rfl]
        exact decide_eq_false (by omega)
      rw [due_form e]
      exact h_ifT (t_eq (rt_cmp (r_calB (a_cons (e_var 4) a_nil) f_lenT T.b_len rfl) (e_ifF (t_eq (rt_cmp (r_ix (e_var 4) e_nat (x_tup (d := .str "open") (atI_nat rfl))) e_str c_eqS) (by decide)) e_nat) c_neN) (by simp [hl])) (h_one (s_ret (e_lst1 (a_cons e_str a_nil))))
    obtain ⟨x, y, rfl⟩ : ∃ x y, ds = [x, y] := by
      match ds, hl with
      | [x, y], _ => exact ⟨x, y, rfl⟩
    refine h_ifF (t_eq (rt_cmp (r_calB (a_cons (e_var 4) a_nil) f_lenT T.b_len rfl) (e_ifF (t_eq (rt_cmp (r_ix (e_var 4) e_nat (x_tup (d := .str "open") (atI_nat rfl))) e_str c_eqS) (by decide)) e_nat) c_neN) (by simp)) ?_
    refine h_ifF (t_eq (rt_cmp (r_ix (e_var 4) e_nat (x_tup (d := .str "open") (atI_nat rfl))) e_str c_eqS) (by decide)) ?_
    have gx : Gd x := gd.mem x (by simp)
    have gy : Gd y := gd.mem y (by simp)
    have e : dueD S G (.tuple [.str "open", x, y]) = if (isCov G x && (decide ((lotN x).length ≤ numberIn S) && isBT S G y)) = true then .str "open" else .list [.str "open"] := by
      unfold dueD
      rw [if_pos (by rfl)]
      rfl
    rw [e]
    have ix : ∀ {W : List Ow} {ρ : Rho} {pos : Pos}, True := trivial
    cases hL : isLot (G.2.length : Int) x with
    | false =>
      have e2 : isCov G x = false := by unfold isCov; rw [hL]; rfl
      rw [e2, Bool.false_and, if_neg (by decide)]
      exact h_ifT (PW.pt (w_orT (t_notT (t_val (e_to (B_ false) (r_callP (f_law_is_lot T) (hr.mono (by decide)) (a_cons (r_calB (a_cons (r_ix (e_var 2) e_nat x_sp1) a_nil) f_lenNs T.b_len rfl) (a_cons (r_ix (e_var 4) e_nat (x_tup (d := x) (atI_nat rfl))) a_nil)) (.mk gx.sh gx.hz)) (by rw [hL])))))) (h_one (s_ret (e_lst1 (a_cons e_str a_nil))))
    | true =>
    obtain ⟨e1, l1, l2⟩ := isLot_inv hL
    have hlen := len_lt l1 l2
    have e2 : isCov G x = (bare G (lotN x)).isEmpty := by unfold isCov; rw [hL]; rfl
    rw [e2]
    generalize hlx : lotN x = l at e1 l1 l2 hlen
    subst e1
    have hlz : l.length < sizeLine := Nat.lt_of_le_of_lt (Nat.le_trans hlen gn) (by decide)
    by_cases hgt : l.length ≤ numberIn S
    rotate_left
    · rw [decide_eq_false hgt, Bool.false_and, Bool.and_false, if_neg (by decide)]
      exact h_ifT (PW.pt (w_orF (t_notF (t_val (e_to (B_ true) (r_callP (f_law_is_lot T) (hr.mono (by decide)) (a_cons (r_calB (a_cons (r_ix (e_var 2) e_nat x_sp1) a_nil) f_lenNs T.b_len rfl) (a_cons (r_ix (e_var 4) e_nat (x_tup (d := lotD l) (atI_nat rfl))) a_nil)) (.mk gx.sh gx.hz)) (by rw [hL])))) (w_orT (t_eq (rt_cmp (r_calB (a_cons (r_ix (e_var 4) e_nat (x_tup (d := lotD l) (atI_nat rfl))) a_nil) f_lenN T.b_len rfl) (e_var 3) c_gtN) (by simp; omega))))) (h_one (s_ret (e_lst1 (a_cons e_str a_nil))))
    rw [decide_eq_true hgt, Bool.true_and]
    cases hc : (bare G l).isEmpty with
    | false =>
      rw [Bool.false_and, if_neg (by decide)]
      exact h_ifT (PW.pt (w_orF (t_notF (t_val (e_to (B_ true) (r_callP (f_law_is_lot T) (hr.mono (by decide)) (a_cons (r_calB (a_cons (r_ix (e_var 2) e_nat x_sp1) a_nil) f_lenNs T.b_len rfl) (a_cons (r_ix (e_var 4) e_nat (x_tup (d := lotD l) (atI_nat rfl))) a_nil)) (.mk gx.sh gx.hz)) (by rw [hL])))) (w_orF (t_eq (rt_cmp (r_calB (a_cons (r_ix (e_var 4) e_nat (x_tup (d := lotD l) (atI_nat rfl))) a_nil) f_lenN T.b_len rfl) (e_var 3) c_gtN) (by simp; omega)) (w_or1 (t_notT (t_val (e_to (B_ false) (r_callP (f_law_is_cover T) (hr.mono (by decide)) (a_cons (e_var 2) (a_cons (r_ix (e_var 4) e_nat (x_tup (d := lotD l) (atI_nat rfl))) a_nil)) (.mk (by omega) hlz l2)) (by rw [hc])))))))) (h_one (s_ret (e_lst1 (a_cons e_str a_nil))))
    | true =>
    rw [Bool.true_and]
    refine h_ifF (PW.pt (w_orF (t_notF (t_val (e_to (B_ true) (r_callP (f_law_is_lot T) (hr.mono (by decide)) (a_cons (r_calB (a_cons (r_ix (e_var 2) e_nat x_sp1) a_nil) f_lenNs T.b_len rfl) (a_cons (r_ix (e_var 4) e_nat (x_tup (d := lotD l) (atI_nat rfl))) a_nil)) (.mk gx.sh gx.hz)) (by rw [hL])))) (w_orF (t_eq (rt_cmp (r_calB (a_cons (r_ix (e_var 4) e_nat (x_tup (d := lotD l) (atI_nat rfl))) a_nil) f_lenN T.b_len rfl) (e_var 3) c_gtN) (by simp; omega)) (w_or1 (t_notF (t_val (e_to (B_ true) (r_callP (f_law_is_cover T) (hr.mono (by decide)) (a_cons (e_var 2) (a_cons (r_ix (e_var 4) e_nat (x_tup (d := lotD l) (atI_nat rfl))) a_nil)) (.mk (by omega) hlz l2)) (by rw [hc])))))))) ?_
    cases ha : areTold S.1 G y with
    | false =>
      have e3 : isBT S G y = false := by
        cases y <;> first | rfl | skip
        rename_i ds
        show (decide (ds.length = G.1) && ((ds.all fun d => isInt d 0 ((S.1 : Int) - 1)) && _)) = false
        have ha : (decide (ds.length = G.1) && (ds.all fun d => isInt d 0 ((S.1 : Int) - 1))) = false := ha
        rw [← Bool.and_assoc, ha]
        rfl
      rw [e3, if_neg (by decide)]
      exact h_ifT (t_notT (t_val (e_to (B_ false) (r_callP (f_law_are_told T) (hr.mono (by decide)) (a_cons (e_var 1) (a_cons (e_var 2) (a_cons (r_ix (e_var 4) e_nat (x_tup (d := y) (atI_nat rfl))) a_nil))) (.mk gy.sh gy.hz)) (by rw [ha])))) (h_one (s_ret (e_lst1 (a_cons e_str a_nil))))
    | true =>
    refine h_ifF (t_notF (t_val (e_to (B_ true) (r_callP (f_law_are_told T) (hr.mono (by decide)) (a_cons (e_var 1) (a_cons (e_var 2) (a_cons (r_ix (e_var 4) e_nat (x_tup (d := y) (atI_nat rfl))) a_nil))) (.mk gy.sh gy.hz)) (by rw [ha])))) ?_
    obtain ⟨told, rfl, ht1, ht2, e3⟩ : ∃ told, y = lotD told ∧ told.length = G.1 ∧ (∀ p ∈ told, p < S.1) ∧ isBT S G y = (safeL S G told).isEmpty := by
      cases y <;> first | (cases ha; done) | skip
      rename_i ds
      have ha : (decide (ds.length = G.1) && (ds.all fun d => isInt d 0 ((S.1 : Int) - 1))) = true := ha
      rw [Bool.and_eq_true, decide_eq_true_eq] at ha
      obtain ⟨i1, i2⟩ := ints_lot ha.2
      refine ⟨lotN (.tuple ds), i1, ?_, i2, ?_⟩
      · unfold lotN
        rw [List.length_map]
        exact ha.1
      · show (decide (ds.length = G.1) && ((ds.all fun d => isInt d 0 ((S.1 : Int) - 1)) && (safeIn S G (lotN (.tuple ds))).isEmpty)) = _
        rw [ha.2, decide_eq_true ha.1, safe_eq hS i2]
        rfl
    rw [e3]
    cases hs : (safeL S G told).isEmpty with
    | true =>
      rw [if_pos rfl]
      exact h_one (s_ret (e_ifT (t_eq (rt_cmp (r_callP (f_law_safe T) (hr.mono (by decide)) (a_cons (e_var 0) (a_cons (e_var 1) (a_cons (r_ix (e_var 2) e_nat x_sp1) (a_cons (r_ix (e_var 4) e_nat (x_tup (d := lotD told) (atI_nat rfl))) a_nil)))) (.mk1 (by omega) (by omega) ht2)) e_nilT (c_lot0 hr.units)) hs) e_str))
    | false =>
      rw [if_neg (by decide)]
      exact h_one (s_ret (e_ifF (t_eq (rt_cmp (r_callP (f_law_safe T) (hr.mono (by decide)) (a_cons (e_var 0) (a_cons (e_var 1) (a_cons (r_ix (e_var 2) e_nat x_sp1) (a_cons (r_ix (e_var 4) e_nat (x_tup (d := lotD told) (atI_nat rfl))) a_nil)))) (.mk1 (by omega) (by omega) ht2)) e_nilT (c_lot0 hr.units)) hs) (e_lst1 (a_cons e_str a_nil))))
end
end SG
set_option Elab.async false
set_option linter.all false
set_option maxRecDepth 100000
set_option maxHeartbeats 4000000
/-! x = a + b: an own list -/
namespace SG
open PySem PySem.Spec PyProof.Rows L2
theorem Cf.newLd {D : Addr} {W : List Ow} {ρ : Rho} {σ : L2.St} {H : Hp} {ds : List PyData} {vs : List V} (c : Cf W ρ σ H) (hD : H D = none) (h : DaL (off (adrs W) H) ds vs) : Cf (.lst D ds :: W) ρ σ (upd H D (.lst vs)) ∧ Go W (.lst D ds :: W) H (upd H D (.lst vs)) := by
  have hDW : D ∉ adrs W := fun m => c.hd.lv D m hD
  have sm : Same H (upd H D (.lst vs)) := upd_ext hD
  have sm2 : Same (off (adrs W) H) (off (adrs (.lst D ds :: W)) (upd H D (.lst vs))) := fun b x e => by
    obtain ⟨h1, h2⟩ := off_some e
    have : b ∉ adrs (Ow.lst D ds :: W) := fun m => by
      rcases List.mem_cons.mp m with z | z
      · have z : b = D := z
        rw [z, hD] at h2; cases h2
      · exact h1 z
    rw [off_out this]
    exact sm b x h2
  refine ⟨⟨c.len, ⟨List.nodup_cons.mpr ⟨hDW, c.hd.nd⟩, fun u hu => ?_⟩, fun i s e => ?_⟩, ⟨fun b x hb e => sm b x e, fun b hb => ?_⟩⟩
  · rcases List.mem_cons.mp hu with e | hu
    · subst e
      exact ⟨vs, upd_same, DaL.mono sm2 _ _ h⟩
    · exact Ow.holds_mono sm2 sm (c.hd.hold u hu)
  · obtain ⟨v, h1, h2⟩ := c.env i s e
    exact ⟨v, h1, h2.mono sm2⟩
  · rcases List.mem_cons.mp hb with z | z
    · have z : b = D := z
      exact .inr (by rw [z]; exact hD)
    · exact .inl z
section
variable {X : Cx} {a b : Expr} {x : Str} {pos px bp : Pos} {sts : List Stmt} {W W1 W2 : List Ow} {ρ : Rho} {o : Oc} {ds es : List PyData}
theorem h_cat (i : Nat) (ha : PE X a (tE W ρ (.d (.list ds)) W1)) (hb : PE X b (tE W1 ρ (.d (.list es)) W2)) (hz : ds.length + es.length ≤ sizeLine) (h : ∀ p, PSs X sts (oS (.lst p (ds ++ es) :: W2) (ρ.set i (some (.v (.ref p)))) o)) (hN : X.N.Nodup) (hs : swapsWith (.BinOp a .Add b bp) (some (.Name x px)) pos.line X.env = pure false := by rfl) (hi : X.N[i]? = some x := by rfl) (hx : Loc X.env.scope x := by first | exact Or.inl rfl | exact Or.inr rfl)
    (hf : X.fn x = true ∨ X.env.scope.names.lookup x = some .local := by first | exact .inl rfl | exact .inr rfl) : PSs X (.Assign [.Name x px] (.BinOp a .Add b bp) pos :: sts) (oS W ρ o) := by
  have h' : PSs X sts (fun D σ H => ∃ p, oS (.lst p (ds ++ es) :: W2) (ρ.set i (some (.v (.ref p)))) o D σ H) := ⟨fun pins s σ H D I ⟨p, q⟩ => (h p).run pins s σ H D I q⟩
  refine PSsto (pss_cons (ps_set hN hi hx (pe_op op_cat ha hb) hs hf) h') fun D σ H q => ?_
  have go : ∀ (Z : List Ow) (H1 H2 : Hp) (u v : V), Cf (Z ++ W) ρ σ H → Go (Z ++ W) (Z ++ W1) H H1 → Hd (Z ++ W1) H1 → Rp (off (adrs (Z ++ W1)) H1) (.d (.list ds)) u → Go (Z ++ W1) (Z ++ W2) H1 H2 → Hd (Z ++ W2) H2 → Rp (off (adrs (Z ++ W2)) H2) (.d (.list es)) v →
      ∃ (a b : Addr) (xs ys : List V), u = .ref a ∧ v = .ref b ∧ H2 a = some (.lst xs) ∧ H2 b = some (.lst ys) ∧ xs.length + ys.length ≤ sizeLine ∧ ∀ p, H2 p = none →
        Cf (Z ++ .lst p (ds ++ es) :: W2) (ρ.set i (some (.v (.ref p)))) (σ.set i (some (.ref p))) (upd H2 p (.lst (xs ++ ys))) ∧ Go (Z ++ W) (Z ++ .lst p (ds ++ es) :: W2) H (upd H2 p (.lst (xs ++ ys))) := fun Z H1 H2 u v c g1 d1 q1 g2 d2 q2 => by
    have q1' := q1.mono g2.off
    rw [rp_lst] at q1' q2
    obtain ⟨a, xs, rfl, a1, a2⟩ := q1'
    obtain ⟨b, ys, rfl, b1, b2⟩ := q2
    refine ⟨a, b, xs, ys, rfl, rfl, off_sub _ _ a1, off_sub _ _ b1, by rw [a2.length, b2.length]; exact hz, fun p hp => ?_⟩
    obtain ⟨c1, g3⟩ := ((c.go g1 d1).go g2 d2).newLd hp (a2.append b2)
    exact ⟨(c1.set (s := .v (.ref p)) rfl i).perm mid.symm, ((g1.trans g2).trans g3).permR mid.symm⟩
  cases o with
  | nx W3 ρ3 =>
    obtain ⟨Z, c, k⟩ := q
    refine ⟨Z, c, fun u H1 g1 d1 q1 => ⟨Z, c.go g1 d1, fun v H2 g2 d2 q2 => ?_⟩⟩
    obtain ⟨a, b, xs, ys, e1, e2, e3, e4, e5, e6⟩ := go Z H1 H2 u v c g1 d1 q1 g2 d2 q2
    refine ⟨a, b, xs, ys, e1, e2, e3, e4, e5, fun p hp => ?_⟩
    obtain ⟨c1, g3⟩ := e6 p hp
    exact ⟨p, Z, c1, fun σ2 H3 g4 c2 => k σ2 H3 (g3.trans g4) c2⟩
  | rt r W3 =>
    obtain ⟨Z, c, k⟩ := q
    refine ⟨Z, c, fun u H1 g1 d1 q1 => ⟨Z, c.go g1 d1, fun v H2 g2 d2 q2 => ?_⟩⟩
    obtain ⟨a, b, xs, ys, e1, e2, e3, e4, e5, e6⟩ := go Z H1 H2 u v c g1 d1 q1 g2 d2 q2
    refine ⟨a, b, xs, ys, e1, e2, e3, e4, e5, fun p hp => ?_⟩
    obtain ⟨c1, g3⟩ := e6 p hp
    exact ⟨p, Z, c1, fun w H3 g4 d4 q4 => k w H3 (g3.trans g4) d4 q4⟩
end
end SG
set_option Elab.async false
set_option linter.all false
set_option maxRecDepth 100000
set_option maxHeartbeats 4000000
namespace SG
open PySem PySem.Spec PyProof.Rows L2
/-! papers near a told one, and others -/
def toldF (n : Nat) : List Nat → LS → List Nat × LS
  | [], s => ([], s)
  | _ :: ts, s => ((draw s n).1 :: (toldF n ts (draw s n).2).1, (toldF n ts (draw s n).2).2)
def toldS (n k : Nat) (s : LS) : List Nat × LS := toldF n (List.range k) s
def toldStep (n : Nat) (_ : Nat) (s : LS) : Option PyData × LS := (some (nD (draw s n).1), (draw s n).2)
theorem toldF_sel (n : Nat) : ∀ (ts : List Nat) (s : LS), selS (toldStep n) ts s = ((toldF n ts s).1.map nD, (toldF n ts s).2)
  | [], s => rfl
  | t :: ts, s => by
    have ih := toldF_sel n ts (draw s n).2
    simp only [selS, toldF, toldStep]
    rw [show selS (toldStep n) ts (draw s n).2 = _ from ih]
    simp
theorem toldF_ok (n : Nat) : ∀ (ts : List Nat) {b : Nat} {s : LS}, OkS b s → OkS (b + ts.length) (toldF n ts s).2
  | [], b, s, h => h
  | t :: ts, b, s, h => (toldF_ok n ts (draw_ok h n)).mono (by simp only [List.length_cons]; omega)
theorem toldF_lt {n : Nat} (hn : 0 < n) : ∀ (ts : List Nat) (s : LS), (toldF n ts s).1.length = ts.length ∧ ∀ p ∈ (toldF n ts s).1, p < n
  | [], s => ⟨rfl, fun p hp => nomatch hp⟩
  | t :: ts, s => by
    obtain ⟨h1, h2⟩ := toldF_lt hn ts (draw s n).2
    refine ⟨by simp [toldF, h1], fun p hp => ?_⟩
    rcases List.mem_cons.mp (show p ∈ _ :: _ from hp) with z | z
    · rw [z]; exact draw_lt hn
    · exact h2 p z
theorem toldS_ok {n k b : Nat} {s : LS} (h : OkS b s) : OkS (b + k) (toldS n k s).2 := by
  have := toldF_ok n (List.range k) h
  rwa [List.length_range] at this
def openD (row told : List Nat) : PyData := .tuple [.str "open", lotD row, lotD told]
structure ThS where
  ds : List PyData
  s : LS
  lt : List Nat
def againT (n k : Nat) (row : List Nat) (t : ThS) : Nat → ThS
  | 0 => t
  | j + 1 => ⟨(againT n k row t j).ds ++ [openD row (toldS n k (againT n k row t j).s).1], (toldS n k (againT n k row t j).s).2, (toldS n k (againT n k row t j).s).1⟩
def rowT (n k : Nat) (t : ThS) (row : List Nat) : ThS := ⟨(againT n k row t 4).ds ++ [openD (row.drop 1) (againT n k row t 4).lt], (againT n k row t 4).s, (againT n k row t 4).lt⟩
def rowsT (n k : Nat) (rows : List (List Nat)) (t : ThS) : ThS := rows.foldl (rowT n k) t
def lap2 (ps : List PyData) (x : PyData) : PyData := .tuple (ps.take 1 ++ [x] ++ ps.drop 2)
def lapT (ps : List PyData) (t : ThS) : Nat → ThS
  | 0 => t
  | j + 1 => ⟨(lapT ps t j).ds ++ [(bent 40 (lapT ps t j).s (.tuple ps)).1] ++ [lap2 ps (bent 40 (bent 40 (lapT ps t j).s (.tuple ps)).2 (ps.getD 1 .none)).1], (bent 40 (bent 40 (lapT ps t j).s (.tuple ps)).2 (ps.getD 1 .none)).2, (lapT ps t j).lt⟩
def base0 (ps : List PyData) : List PyData := [.tuple ps, .list ps, .tuple ps.dropLast, .tuple (ps ++ [.tuple []]), .none, .int 5, .tuple [], .str "borne", .tuple ([.str "Borne"] ++ ps.drop 1), .tuple ps.reverse]
def base1 : List PyData := [.tuple [.str "borne", .tuple []], .tuple [.str "borne", .tuple [.int 0, .tuple []]], .tuple [.str "open", .tuple [], .tuple []], .tuple [.str "open", .none, .none], .tuple [.str "borne", .none]]
def rows6 (G : Sp2) : List (List Nat) := (covL G).take 3 ++ (covsL G).take 3
def thingsT (n : Nat) (G : Sp2) (ps : List PyData) (s : LS) : ThS := lapT ps (rowsT n G.1 (rows6 G) ⟨base0 ps ++ base1, s, []⟩) 12
/-! sizes -/
theorem againT_ok {n k b : Nat} {row : List Nat} {t : ThS} (h : OkS b t.s) : ∀ j, OkS (b + k * j) (againT n k row t j).s ∧ (againT n k row t j).ds.length = t.ds.length + j
  | 0 => ⟨h, rfl⟩
  | j + 1 => by
    obtain ⟨h1, h2⟩ := againT_ok (n := n) (row := row) h j
    exact ⟨(toldS_ok h1).mono (by rw [Nat.mul_succ]; omega), by simp [againT, h2]; omega⟩
theorem rowT_ok {n k b : Nat} {row : List Nat} {t : ThS} (h : OkS b t.s) : OkS (b + k * 4) (rowT n k t row).s ∧ (rowT n k t row).ds.length = t.ds.length + 5 := by
  obtain ⟨h1, h2⟩ := againT_ok (n := n) (k := k) (row := row) h 4
  exact ⟨h1, by simp [rowT, h2]⟩
theorem rowsT_ok {n k : Nat} : ∀ {rows : List (List Nat)} {b : Nat} {t : ThS}, OkS b t.s → OkS (b + k * 4 * rows.length) (rowsT n k rows t).s ∧ (rowsT n k rows t).ds.length = t.ds.length + 5 * rows.length
  | [], b, t, h => ⟨h, rfl⟩
  | row :: rows, b, t, h => by
    obtain ⟨h1, h2⟩ := rowT_ok (n := n) (k := k) (row := row) h
    obtain ⟨h3, h4⟩ := rowsT_ok (rows := rows) h1
    refine ⟨h3.mono (by have : k * 4 * (rows.length + 1) = k * 4 * rows.length + k * 4 := Nat.mul_succ _ _; rw [List.length_cons]; omega), ?_⟩
    show (rowsT n k rows (rowT n k t row)).ds.length = _
    rw [h4, h2, List.length_cons]; omega
theorem rowsT_take {n k : Nat} {rows : List (List Nat)} {t : ThS} {j : Nat} {row : List Nat} (h : rows[j]? = some row) : rowsT n k (rows.take (j + 1)) t = rowT n k (rowsT n k (rows.take j) t) row := by
  unfold rowsT
  rw [List.take_add_one, h, List.foldl_append]
  rfl
theorem lapT_ok {ps : List PyData} {b : Nat} {t : ThS} (h : OkS b t.s) : ∀ j, OkS (b + 480 * j) (lapT ps t j).s ∧ (lapT ps t j).ds.length = t.ds.length + 2 * j
  | 0 => ⟨h, rfl⟩
  | j + 1 => by
    obtain ⟨h1, h2⟩ := lapT_ok (ps := ps) h j
    refine ⟨(bent_ok 40 _ (bent_ok 40 (.tuple ps) h1)).mono (by omega), ?_⟩
    simp only [lapT, List.length_append, List.length_singleton, h2]; omega
theorem rows6_len (G : Sp2) : (rows6 G).length ≤ 6 := by
  unfold rows6
  rw [List.length_append, List.length_take, List.length_take]
  omega
theorem rows6_mem {G : Sp2} {l : List Nat} (h : l ∈ rows6 G) : l ∈ covsL G := by
  rcases List.mem_append.mp h with z | z
  · exact (mem_covL.mp (List.mem_of_mem_take z)).1
  · exact List.mem_of_mem_take z
section
variable {P : Program} {w : World} {K : PySem.W.Frag} {mg : Str → Option Value} {base : Heap}
inductive F_law_things : Spec
  | mk {A : LAd} {s : LS} {n : Nat} {G : Sp2} {ps : List PyData} (h : OkS 800000 s) (h0 : 1 ≤ n) (hn : n ≤ 5) (hG : OkSys G) (hp : 2 ≤ ps.length) (hg : Gs 20 500000 (.tuple ps)) :
      F_law_things (SW A s) [stV A, I_ (n : Nat), .d (spD G), .d (.tuple ps)] (.d (.list (thingsT n G ps s).ds)) (SW A (thingsT n G ps s).s)
theorem sc_law_things : FnScope ["_law_state", "_law_points", "_law_system_here", "_law_paper", "_law_found", "_law_row", "_law_again", "_law_told_so", "_law_teller", "_law_lap"] ["_law_state", "_law_points", "_law_system_here", "_law_paper"] (C8.fnScope s_law_things) := ⟨rfl, rfl, rfl, by decide +kernel, rfl, by decide +kernel, by decide +kernel⟩
theorem f_law_things (T : Top K mg) : Fn P w K mg base false 45 "_law_things" F_law_things := by
  refine Fn.of T.s_law_things sc_law_things (fun _ _ _ _ _ _ us hl => match us, hl with | [_, _, _, _], _ => rfl) (by rintro _ _ _ _ ⟨⟩ <;> rfl) fun f cdv A outer s H E hr W rs r W' hF => ?_
  cases hF with | @mk B s0 n G ps h h0 hn hG hp hg =>
  have gd := hg.gd (by decide) (by decide)
  have gle := hG.le
  have gn := hG.n
  have hpl := gd.len
  have hps : ps.length ≤ 500000 := by
    have := gd.sz
    simp only [szD, Bool.and_eq_true, decide_eq_true_eq] at this
    exact this.1
  have zcat : ∀ (x : PyData), ps.length + ([x] : List PyData).length ≤ sizeLine := fun x => by rw [List.length_singleton]; omega
  have zcat2 : ∀ (x : PyData) (j : Nat), ([x] : List PyData).length + (ps.drop j).length ≤ sizeLine := fun x j => by
    rw [List.length_singleton, List.length_drop]; omega
  refine h_cons (s_set 4 (e_to (.d (.list (base0 ps))) (e_lst (a_cons (e_var 3) (a_cons (r_calT (a_cons (e_var 3) a_nil) f_listT T.b_list rfl) (a_cons (e_sl s_initT (e_var 3) p_none (p_some (r_un e_nat u_neg))) (a_cons (r_bin (e_var 3) (e_tup1 (a_cons e_nilT a_nil)) (b_catT (by first | assumption | omega | exact zcat _ | exact zcat2 _ _ | decide))) (a_cons e_non (a_cons e_nat (a_cons e_nilT (a_cons e_str (a_cons (r_bin (e_tup1 (a_cons e_str a_nil)) (e_sl s_dropT (e_var 3) (p_some e_nat) p_none) (b_catT (by first | assumption | omega | exact zcat _ | exact zcat2 _ _ | decide))) (a_cons (r_rev (e_var 3)) a_nil)))))))))) (by rfl) (small_le (by simp))) rfl) sc_law_things.nd) ?_
  refine h_cat 4 (es := base1) (e_var 4) (e_to (.d (.list base1)) (e_lst (a_cons (e_tup2 (a_cons e_str (a_cons e_nilT a_nil))) (a_cons (e_tup2 (a_cons e_str (a_cons (e_tup2 (a_cons e_nat (a_cons e_nilT a_nil))) a_nil))) (a_cons (e_tup3 (a_cons e_str (a_cons e_nilT (a_cons e_nilT a_nil)))) (a_cons (e_tup3 (a_cons e_str (a_cons e_non (a_cons e_non a_nil)))) (a_cons (e_tup2 (a_cons e_str (a_cons e_non a_nil))) a_nil)))))) rfl) (small_le (by show 10 + 5 ≤ 100; omega)) (fun p => ?_) sc_law_things.nd
  generalize ht0 : (⟨base0 ps ++ base1, s0, []⟩ : ThS) = t0
  have l0 : t0.ds.length = 15 := by rw [← ht0]; rfl
  have o0 : OkS 800000 t0.s := by rw [← ht0]; exact h
  have et : thingsT n G ps s0 = lapT ps (rowsT n G.1 (rows6 G) t0) 12 := by rw [← ht0]; rfl
  rw [et]
  have eW : (Ow.lst p (base0 ps ++ base1) :: SW B s0) = Ow.lst p t0.ds :: SW B t0.s := by rw [← ht0]
  rw [eW]
  clear ht0 et eW
  have rl := rows6_len G
  have hok : ∀ j ≤ 6, ∀ b ≤ 5, 800000 + b * 4 * j ≤ 800120 := fun j hj b hb => by
    have : b * 4 * j ≤ 5 * 4 * 6 := Nat.mul_le_mul (Nat.mul_le_mul_right 4 hb) hj
    omega
  have zl3 : ((covL G).take 3 |>.map lotD).length + ((covsL G).take 3 |>.map lotD).length ≤ sizeLine := by
    rw [List.length_map, List.length_map, List.length_take, List.length_take]
    exact small_le (by omega)
  have h9 : G.1 ≤ 9 ∧ G.2.length ≤ 9 := ⟨by omega, by omega⟩
  obtain ⟨h91, h92⟩ := h9
  refine h_cons (s_forI (fun j => .lst p (rowsT n G.1 ((rows6 G).take j) t0).ds :: SW B (rowsT n G.1 ((rows6 G).take j) t0).s) (fun _ => [some (stV B), some (I_ (n : Nat)), some (.d (spD G)), some (.d (.tuple ps)), some (.v (.ref p)), none, none, none, none, none]) 5 (xs := rows6 G) (gg := lotD) (i_lst (e_to (.d (.list ((rows6 G).map lotD))) (r_bin (e_sl s_takeLM (r_callP (f_law_covers T) (hr.mono (by decide)) (a_cons (e_var 2) a_nil) (.mk (by first | assumption | omega | exact zl3 | decide) (by first | assumption | omega | exact zl3 | decide))) p_none (p_some e_nat)) (e_sl s_takeLM (r_callP (f_law_all_covers T) (hr.mono (by decide)) (a_cons (e_var 2) a_nil) (.mk (by first | assumption | omega | exact zl3 | decide) (by first | assumption | omega | exact zl3 | decide))) p_none (p_some e_nat)) (b_catL (by first | assumption | omega | exact zl3 | decide))) (by unfold rows6; rw [List.map_append]))) sc_law_things.nd (by repeat (first | exact trivial | refine ⟨.inr rfl, ?_⟩ | refine ⟨.inl rfl, ?_⟩)) fun j row hrow => ?_) ?_
  · rw [rowsT_take hrow]
    have hj : j < (rows6 G).length := (List.getElem?_eq_some_iff.mp hrow).1
    have hjl : ((rows6 G).take j).length = j := by rw [List.length_take]; omega
    obtain ⟨o1, l1⟩ := rowsT_ok (n := n) (k := G.1) (rows := (rows6 G).take j) o0
    rw [hjl] at o1 l1
    have o1' := o1.mono (hok j (by omega) G.1 gle)
    generalize rowsT n G.1 ((rows6 G).take j) t0 = t at o1' l1
    clear o1
    have env : ∀ i, Rho := fun i => [some (stV B), some (I_ (n : Nat)), some (.d (spD G)), some (.d (.tuple ps)), some (.v (.ref p)), some (.d (lotD row)), none, (match i with | 0 => none | _ + 1 => some (.d (lotD (againT n G.1 row t i).lt))), none, none]
    refine hs_wk (ρ1 := [some (stV B), some (I_ (n : Nat)), some (.d (spD G)), some (.d (.tuple ps)), some (.v (.ref p)), some (.d (lotD row)), none, some (.d (lotD (againT n G.1 row t 4).lt)), none, none]) ?_ (by repeat (first | exact trivial | refine ⟨.inr rfl, ?_⟩ | refine ⟨.inl rfl, ?_⟩))
    refine h_cons (s_forI (fun i => .lst p (againT n G.1 row t i).ds :: SW B (againT n G.1 row t i).s) (fun i => [some (stV B), some (I_ (n : Nat)), some (.d (spD G)), some (.d (.tuple ps)), some (.v (.ref p)), some (.d (lotD row)), none, (match i with | 0 => none | _ + 1 => some (.d (lotD (againT n G.1 row t i).lt))), none, none]) 6 (xs := List.range 4) (gg := nD) (i_rgN T.b_range (a_cons e_nat a_nil) (by first | assumption | omega | exact zl3 | decide)) sc_law_things.nd (by repeat (first | exact trivial | refine ⟨.inr rfl, ?_⟩ | refine ⟨.inl rfl, ?_⟩)) fun i a ha => ?_) ?_
    · have hi : i < 4 ∧ a = i := by
        obtain ⟨h1, h2⟩ := List.getElem?_eq_some_iff.mp ha
        rw [List.getElem_range] at h2
        exact ⟨by simpa using h1, h2.symm⟩
      obtain ⟨hi4, rfl⟩ := hi
      obtain ⟨o2, l2⟩ := againT_ok (n := n) (k := G.1) (row := row) o1' a
      have o2' : OkS 800140 (againT n G.1 row t a).s := o2.mono (by
        have : G.1 * a ≤ 5 * 4 := Nat.mul_le_mul gle (by omega)
        omega)
      have e1 : (againT n G.1 row t (a + 1)).ds = (againT n G.1 row t a).ds ++ [openD row (toldS n G.1 (againT n G.1 row t a).s).1] := rfl
      have e2 : (againT n G.1 row t (a + 1)).s = (toldS n G.1 (againT n G.1 row t a).s).2 := rfl
      have e3 : (againT n G.1 row t (a + 1)).lt = (toldS n G.1 (againT n G.1 row t a).s).1 := rfl
      show PSs _ _ (oS _ _ (.nx (.lst p (againT n G.1 row t (a + 1)).ds :: SW B (againT n G.1 row t (a + 1)).s) [some (stV B), some (I_ (n : Nat)), some (.d (spD G)), some (.d (.tuple ps)), some (.v (.ref p)), some (.d (lotD row)), none, some (.d (lotD (againT n G.1 row t (a + 1)).lt)), none, none]))
      rw [e1, e2, e3]
      have dl : (againT n G.1 row t a).ds.length < sizeLine := Nat.lt_of_le_of_lt (show _ ≤ 60 by rw [l2, l1, l0]; omega) (by decide)
      generalize (againT n G.1 row t a).ds = ds at dl
      generalize (againT n G.1 row t a).s = s1 at o2'
      refine hs_wk (ρ1 := [some (stV B), some (I_ (n : Nat)), some (.d (spD G)), some (.d (.tuple ps)), some (.v (.ref p)), some (.d (lotD row)), none, some (.d (lotD (toldS n G.1 s1).1)), none, none]) ?_ (by repeat (first | exact trivial | refine ⟨.inr rfl, ?_⟩ | refine ⟨.inl rfl, ?_⟩))
      have e5 : selS (toldStep n) (List.range G.1) s1 = ((toldS n G.1 s1).1.map nD, (toldS n G.1 s1).2) := toldF_sel n _ _
      have hz : (List.range G.1).length < sizeLine := by rw [List.length_range]; exact Nat.lt_of_le_of_lt gle (by decide)
      refine h_cons (s_wk (s_set 7 (r_calT (a_cons (e_comp (comp_G [("_law_teller", 8)] 8 (xs := List.range G.1) (gg := nD) (fun j s => OkS (800140 + j) s ∧ j ≤ 9) (toldStep n) (fun _ s => s) (fun s => .lst p ds :: SW B s) s1 (i_rgN T.b_range (a_cons (r_ix (e_var 2) e_nat x_sp0) a_nil) (by first | assumption | omega | exact zl3 | decide)) sc_law_things.nd hz ⟨o2', Nat.zero_le _⟩ (fun j a s e hs => ⟨(draw_ok hs.1 n).mono (by omega), ?_⟩) (fun a s z => nomatch z)
        (fun j a s e hs s' H C cl fp => s_nil) (fun j a s d e hs hd s' H C cl fp => ?_) (fun s H C cl fp => g_nm 8 sc_law_things.nd))) a_nil) f_tuple T.b_tuple rfl) sc_law_things.nd) (ρ2 := [some (stV B), some (I_ (n : Nat)), some (.d (spD G)), some (.d (.tuple ps)), some (.v (.ref p)), some (.d (lotD row)), none, some (.d (lotD (toldS n G.1 s1).1)), none, none]) ⟨.inr rfl, .inr rfl, .inr rfl, .inr rfl, .inr rfl, .inr rfl, .inl rfl, .inr (by rw [e5]; rfl), .inl rfl, .inl rfl, trivial⟩) ?_
      · have := (List.getElem?_eq_some_iff.mp e).1
        rw [List.length_range] at this
        omega
      · have hd' : some (nD (draw s n).1) = some d := hd
        have e6 : d = nD (draw s n).1 := (Option.some.inj hd').symm
        rw [e6]
        exact r_callS1 (f_law_draw T) (hr.mono (by decide)) (a_cons (e_var 0) (a_cons (e_var 1) a_nil)) (.mk (hs.1.mono (by omega)) (by omega) (by omega))
      · rw [e5]
        exact h_one (s_append 4 (e_tup3 (a_cons e_str (a_cons (e_var 5) (a_cons (e_var 7) a_nil)))) dl)
    · rw [List.length_range]
      obtain ⟨o2, l2⟩ := againT_ok (n := n) (k := G.1) (row := row) o1' 4
      have dl : (againT n G.1 row t 4).ds.length < sizeLine := Nat.lt_of_le_of_lt (show _ ≤ 60 by rw [l2, l1, l0]; omega) (by decide)
      exact h_one (s_append 4 (e_tup3 (a_cons e_str (a_cons (e_sl s_dropN (e_var 5) (p_some e_nat) p_none) (a_cons (e_var 7) a_nil)))) dl)
  · have e0 : (rows6 G).take (rows6 G).length = rows6 G := List.take_length
    rw [e0]
    obtain ⟨o1, l1⟩ := rowsT_ok (n := n) (k := G.1) (rows := rows6 G) o0
    have o1' := o1.mono (hok _ rl G.1 gle)
    generalize rowsT n G.1 (rows6 G) t0 = t at o1' l1
    refine h_cons (s_forI (fun j => .lst p (lapT ps t j).ds :: SW B (lapT ps t j).s) (fun _ => [some (stV B), some (I_ (n : Nat)), some (.d (spD G)), some (.d (.tuple ps)), some (.v (.ref p)), none, none, none, none, none]) 9 (xs := List.range 12) (gg := nD) (i_rgN T.b_range (a_cons e_nat a_nil) (by first | assumption | omega | exact zl3 | decide)) sc_law_things.nd (by repeat (first | exact trivial | refine ⟨.inr rfl, ?_⟩ | refine ⟨.inl rfl, ?_⟩)) fun j a ha => ?_) ?_
    · have hj : j < 12 ∧ a = j := by
        obtain ⟨h1, h2⟩ := List.getElem?_eq_some_iff.mp ha
        rw [List.getElem_range] at h2
        exact ⟨by simpa using h1, h2.symm⟩
      obtain ⟨hj12, rfl⟩ := hj
      obtain ⟨o2, l2⟩ := lapT_ok (ps := ps) o1' a
      have o2' : OkS 810000 (lapT ps t a).s := o2.mono (by omega)
      have dl : (lapT ps t a).ds.length ≤ 90 := by rw [l2, l1, l0]; omega
      have e1 : (lapT ps t (a + 1)).ds = (lapT ps t a).ds ++ [(bent 40 (lapT ps t a).s (.tuple ps)).1] ++ [lap2 ps (bent 40 (bent 40 (lapT ps t a).s (.tuple ps)).2 (ps.getD 1 .none)).1] := rfl
      have e2 : (lapT ps t (a + 1)).s = (bent 40 (bent 40 (lapT ps t a).s (.tuple ps)).2 (ps.getD 1 .none)).2 := rfl
      rw [e1, e2]
      generalize (lapT ps t a).ds = ds at dl
      generalize (lapT ps t a).s = s1 at o2'
      have o3 := bent_ok 40 (.tuple ps) o2'
      have hx : ps[1]? = some (ps.getD 1 .none) := by
        rw [List.getD_eq_getElem?_getD, List.getElem?_eq_getElem (show 1 < ps.length by omega)]; rfl
      have hm : ps.getD 1 .none ∈ ps := List.mem_of_getElem? hx
      have dep := hg.dep
      have hd1 : (ps.getD 1 .none).depth < 40 := by
        have := depth_mem hm
        simp only [PyData.depth] at dep
        omega
      have hr44 : Room 44 (bX P w K mg base ["_law_state", "_law_points", "_law_system_here", "_law_paper", "_law_found", "_law_row", "_law_again", "_law_told_so", "_law_teller", "_law_lap"] "_law_things" s_law_things f cdv A outer s H E).A := hr
      have z1 : ∀ x : PyData, (ps.take 1).length + ([x] : List PyData).length ≤ sizeLine := fun x => by
        rw [List.length_take, List.length_singleton]
        omega
      have z2 : ∀ x : PyData, (ps.take 1 ++ [x]).length + (ps.drop 2).length ≤ sizeLine := fun x => by
        rw [List.length_append, List.length_take, List.length_drop, List.length_singleton]
        omega
      refine hs_wk (ρ1 := [some (stV B), some (I_ (n : Nat)), some (.d (spD G)), some (.d (.tuple ps)), some (.v (.ref p)), none, none, none, none, some (I_ (a : Nat))]) ?_ (by repeat (first | exact trivial | refine ⟨.inr rfl, ?_⟩ | refine ⟨.inl rfl, ?_⟩))
      refine h_cons (s_append 4 (r_callS1 (f_law_bent T 40) hr44 (a_cons (e_var 0) (a_cons (e_var 3) a_nil)) (.mk (o2'.mono (by omega)) (by omega) (by decide) gd)) (Nat.lt_of_le_of_lt dl (by decide))) ?_
      refine h_one (s_append 4 (r_bin (r_bin (e_sl s_takeT (e_var 3) p_none (p_some e_nat)) (e_tup1 (a_cons (r_callS1 (f_law_bent T 40) hr44 (a_cons (e_var 0) (a_cons (r_ix (e_var 3) e_nat (x_tup (atI_nat hx))) a_nil)) (.mk (o3.mono (by omega)) hd1 (by decide) (gd.mem _ hm))) a_nil)) (b_catT (z1 _))) (e_sl s_dropT (e_var 3) (p_some e_nat) p_none) (b_catT (z2 _))) ?_)
      rw [List.length_append, List.length_singleton]
      exact Nat.lt_of_le_of_lt (show _ ≤ 91 by omega) (by decide)
    · rw [List.length_range]
      exact h_frz 4 (h_one (s_ret (e_var 4)))
end
end SG
set_option Elab.async false
set_option linter.all false
set_option maxRecDepth 100000
set_option maxHeartbeats 4000000
/-! a lambda handed to the law's judge -/
namespace SG
open PySem PySem.Spec PyProof.Rows L2 LamX
section
variable {X : Cx} {pins : List (Addr × Obj)} {σ : L2.St} {H : Hp} {s : Shared}
theorem tab_grown {M : List Addr} {P c' : Addr} {q : Str} {ps : Array Value} {pos : Pos} (hP : P ∈ M) (hl : Lv M H) (hH : H P = some (.tbl ps)) (ht : TriplesOk ps.toList) (ha : ∀ (pos : Pos) (cv : Value), codeAmong pos ps.toList = some cv → ∃ c, cv = .ref c ∧ off M H c = some (CodeO c q)) (hc : H c' = none) :
    (Ow.tab P q).holds (off M (upd (upd H P (.tbl (ps ++ #[rawInt pos.line, rawInt pos.col, .ref c']))) c' (CodeO c' q))) (upd (upd H P (.tbl (ps ++ #[rawInt pos.line, rawInt pos.col, .ref c']))) c' (CodeO c' q)) := by
  have eL : (ps ++ #[rawInt pos.line, rawInt pos.col, .ref c']).toList = ps.toList ++ [rawInt pos.line, rawInt pos.col, .ref c'] := by simp
  have nPc : P ≠ c' := ne_of_none hH hc
  refine ⟨_, by rw [upd_ne nPc, upd_same], by rw [eL]; exact PySem.TriplesOk_snoc _ _ _ _ ht, fun p' cv hcv => ?_⟩
  rw [eL] at hcv
  rcases among_app _ ht hcv with z | z
  · obtain ⟨c0, e1, e2⟩ := ha p' cv z
    obtain ⟨n0, h0⟩ := off_some e2
    refine ⟨c0, e1, ?_⟩
    rw [off_out n0, upd_ne (ne_of_none h0 hc), upd_ne (fun e => n0 (by rw [e]; exact hP))]
    exact h0
  · refine ⟨c', z, ?_⟩
    rw [off_out (fun m => hl c' m hc), upd_same]
/-- the lambda is made; of all tables its maker's alone may grow -/
theorem lam_own {M : List Addr} {c P : Addr} {params : Arguments} {body : Expr} {scope : Scope} {pos : Pos} {E : Value → Shared → Prop} {Q : Value → Shared → Prop} (I : Inv X pins σ H s) (TB : TabB X.base X.mg c P) (hcode : X.env.code = .ref c) (hPM : P ∈ M) (hl : Lv M H)
    (hT : (Ow.tab P (X.env.qual ++ "<lambda>")).holds (off M H) H) (hdef : defaultsOf params X.env = ([], [])) (hfree : ∀ y ∈ scope.names, y.2 = .free → ∃ c, X.env.cells.lookup y.1 = some c)
    (h : ∀ (f c' : Addr) (pm ctv : Value) (H1 : Hp) (s' : Shared), Inv X pins σ H1 s' → (∀ b o, b ≠ P → H b = some o → H1 b = some o) → (Ow.tab P (X.env.qual ++ "<lambda>")).holds (off M H1) H1 →
      s'.heap.get? f = some (PySem.W.kla_obj "<lambda>" (X.env.qual ++ "<lambda>") params body scope (cloFrom X.env.cells scope.names []) pm c' ctv) → H1 f = none → f ∉ frs X.stack → H1 c' = some (CodeO c' (X.env.qual ++ "<lambda>")) → Q (.ref f) s') :
    wpAny (model X.prog X.w) X.A (eval (.Lambda params body scope pos) X.env) Q E s := by
  obtain ⟨ps, hP, ht, ha⟩ := id hT
  have bP : s.heap.BuiltinsAt X.mg P := TB.bm.keeps I.bk
  have hP' : s.heap.get? P = some { cls := .none, data := .fields ps } := I.hok P _ hP
  have out : ∀ f, s.heap.objs.size ≤ f → f ∉ frs X.stack := fun f hf z => by
    rcases List.mem_cons.mp (I.stkSub _ z) with e | e
    · have := I.lt
      rw [← e] at this
      exact absurd this (Nat.not_lt_of_le hf)
    · exact I.nofs hf e
  refine PySem.W.kla_eval hdef ?_
  cases hc : codeAmong pos ps.toList with
  | some cv =>
    obtain ⟨c', rfl, hco⟩ := ha pos cv hc
    refine PySem.W.kla_makeFunctionHit (mg := X.mg) (c := c) (P := P) (ps := ps) (closure_ok hfree) I.ok.glob (I.mod.glob.keeps I.bk) hcode (TB.code.keeps I.bk) hP' ht hc bP fun ctv h' tk hx hsz => ?_
    exact h h'.objs.size c' ((X.mg "__name__").getD .none) ctv H _ (I.kept (t' := tk) fun b o e => Heap.get?_push_of_some _ (hx b o e)) (fun _ _ _ e => e) hT (Heap.get?_push_size _ rfl) (I.hok.fresh hsz) (out _ hsz) (off_sub _ _ hco)
  | none =>
    refine PySem.W.kla_makeFunction (mg := X.mg) (c := c) (P := P) (ps := ps) (closure_ok hfree) I.ok.glob (I.mod.glob.keeps I.bk) hcode (TB.code.keeps I.bk) hP' ht hc TB.gP bP fun c' ctv h' tk hx hge hlt hrec htb => ?_
    obtain ⟨c2, oc, vs, t, e2, hoc, hd, hv⟩ := hrec
    cases e2
    have hsz : s.heap.objs.size ≤ h'.objs.size := Nat.le_trans hge (Nat.le_of_lt hlt)
    have nC : H c' = none := I.hok.fresh hge
    have J := inv_table (t' := tk) (q := X.env.qual ++ "<lambda>") (more := #[rawInt pos.line, rawInt pos.col, .ref c']) (h' := h'.push (PySem.W.kla_obj "<lambda>" (X.env.qual ++ "<lambda>") params body scope (cloFrom X.env.cells scope.names []) ((X.mg "__name__").getD .none) c' ctv)) I hP
      (fun b o hb e => Heap.get?_push_of_some _ (hx b o hb e)) (Heap.get?_push_of_some _ htb) hge ⟨oc, vs, t, Heap.get?_push_of_some _ hoc, hd, hv⟩
    refine h h'.objs.size c' ((X.mg "__name__").getD .none) ctv _ _ J (fun b o hb e => ?_) (tab_grown hPM hl hP ht ha nC) (Heap.get?_push_size _ rfl) ?_ (out _ hsz) upd_same
    · rw [upd_ne (ne_of_none e nC), upd_ne hb]
      exact e
    · rw [upd_ne (Nat.ne_of_gt hlt), upd_ne (Nat.ne_of_gt (Nat.lt_of_lt_of_le (Heap.lt_size hP') hsz))]
      exact I.hok.fresh hsz
end
/-- what is told of a lambda, handed to a def: TT is what the def makes of it -/
def tLamO (P : Addr) (q : Str) (TT : (XK → Hp → VK → Prop) → Hp → VK → Prop) (t : XK → TE) : TE := fun σ H Q => ∃ M, P ∈ M ∧ Lv M H ∧ (Ow.tab P q).holds (off M H) H ∧
  ∀ H1, (∀ b o, b ≠ P → H b = some o → H1 b = some o) → (Ow.tab P q).holds (off M H1) H1 → TT (fun E H' Q' => t E σ H' Q') H1 Q
section
variable {X : Cx}
theorem pe_lamO {TT : (XK → Hp → VK → Prop) → Hp → VK → Prop} {x a : Str} {g c P : Addr} {k : Nat} {pg : Arguments} {bg : List Stmt} {sg : Scope} {dV kV doc pm cdv ct oc : Value} {an od : Option Addr} {osl : Array (Option Value)} {Ng : List Str}
    {params : Arguments} {body : Expr} {scope : Scope} {t : XK → TE} {p lpos pos : Pos} (hg : Gl X x) (hm : X.mg x = some (.ref g)) (hk : PySem.W.keepIn X.K (.ref g) = true)
    (lk : X.K.lookup g = some ⟨oc, od, .func (PySem.W.fnOf x x pg bg sg dV kV doc pm an cdv ct), osl⟩) (hcg : PySem.W.codeIn X.K cdv x = true) (hb : L2.Binds X.K (PySem.W.fnOf x x pg bg sg dV kV doc pm an cdv ct) [a] []) (Sg : FnScope Ng [a] sg) (hNg : Ng[0]? = some a) (hva : Vis sg a)
    (hG : GivesTo X Ng x sg g cdv bg a (X.env.qual ++ "<lambda>") TT) (TB : TabB X.base X.mg c P) (hcode : X.env.code = .ref c) (hr : Room (k + 2) X.A) (L : LamS X.env.scope scope) (hdef : defaultsOf params X.env = ([], []))
    (hbind : ∀ (q : Str) (cl : List (Str × Addr)) (pm cv ctv : Value), bindArgs (PySem.W.kla_fn "<lambda>" q params body scope cl pm cv ctv) ⟨[], []⟩ = pure [])
    (hbody : ∀ (A : Around) (outer : List Env) (s : Shared) (H : Hp) (E : XK) (f c' : Addr), Room k (A.deeper (lamEnv X scope s.heap.objs.size f c')) → PE (lamCx X A outer s H E scope f c') body (t E))
    (hdb : (x == ("__debug__" : Str)) = false := by decide) (hd : (a == ("__debug__" : Str)) = false := by decide) (hcd : (a == ("__classdict__" : Str)) = false := by decide) :
    PE X (.Call (.Name x p) [.Lambda params body scope lpos] [] pos) (tLamO P (X.env.qual ++ "<lambda>") TT t) := by
  refine ⟨fun pins s σ H Q I ⟨M, hPM, hl, hT, hq⟩ => ?_⟩
  refine wpAny_Call_Name_kw (ld_glob I hg hm ?_ hdb)
  refine PySem.W.callWith_K (h₀ := X.base) I.ok.mod.kin hk ?_ (by rfl) (by rfl)
  show wpAny _ _ (spliced ((false, eval (.Lambda params body scope lpos) X.env) :: backTo pos (starEach [] X.env))) _ _ s
  refine Calls.spliced_cons (lam_own I TB hcode hPM hl hT hdef (L.has I.ok) fun f c' pm' ctv H1 s' J keep T1 hf hfn hfr hco => ?_)
  refine Calls.spliced_nil ⟨J.kIn, ?_⟩
  refine wpAny_call (codeAny_mono (run_ofS (N := Ng) (ps := [a]) (us := [.ref f]) (vs := [.ref f]) (CX := C8.CX0) (Q := Q) (E := C8.E0) lk hcg Sg hr J.env0 (hb s' [.ref f] J.kIn rfl) (.cons rfl .nil) rfl fun hr' => ?_) fun r s2 z => ?_)
  · obtain ⟨t', h1, h2⟩ := hG f c' s' H1 Q (fun E H' Q' => t E σ H' Q') (fun W pn xe E p1 p2 tk hW => pe_act (i := 0) J L hf hfn hfr (hbind _ _ _ _ _) tk hW hr' (fun A outer s H hr2 => hbody A outer s H E f c' hr2) hNg hva hd hcd) hco (hq H1 keep T1)
    exact ⟨t', h1.nox, h2⟩
  · match r, z with
    | .error e, z => exact False.elim z
    | .ok (.ret u), z => exact J.after z
    | .ok .next, z => exact False.elim z
    | .ok .brk, z => exact False.elim z
    | .ok .cont, z => exact False.elim z
end
end SG
set_option Elab.async false
set_option linter.all false
set_option maxRecDepth 100000
set_option maxHeartbeats 4000000
/-! what the judge tells, or the word by which a paper is refused -/
namespace SG
open PySem PySem.Spec PyProof.Rows L2 LamX
theorem nd_inj {α β : Type} {f : α → β} : ∀ {l : List α} {a b : α}, (l.map f).Nodup → a ∈ l → b ∈ l → f a = f b → a = b
  | [], _, _, _, h, _, _ => nomatch h
  | x :: l, a, b, n, ha, hb, e => by
    obtain ⟨n1, n2⟩ := List.nodup_cons.mp (show (f x :: l.map f).Nodup from n)
    rcases List.mem_cons.mp ha with z | z <;> rcases List.mem_cons.mp hb with w | w
    · rw [z, w]
    · exact absurd (List.mem_map.mpr ⟨b, w, by rw [← e, z]⟩) n1
    · exact absurd (List.mem_map.mpr ⟨a, z, by rw [e, w]⟩) n1
    · exact nd_inj n2 z w e
/-- one table grows, all else stays -/
theorem Hd.tabs {W : List Ow} {H H1 : Hp} {P : Addr} {q : Str} (h : Hd W H) (hm : Ow.tab P q ∈ W) (keep : ∀ b o, b ≠ P → H b = some o → H1 b = some o) (T1 : (Ow.tab P q).holds (off (adrs W) H1) H1) : Hd W H1 ∧ Go W W H H1 := by
  have hP : P ∈ adrs W := List.mem_map.mpr ⟨_, hm, rfl⟩
  have sm : Same (off (adrs W) H) (off (adrs W) H1) := fun a o e => by
    obtain ⟨n, h1⟩ := off_some e
    rw [off_out n]
    exact keep a o (fun z => n (by rw [z]; exact hP)) h1
  refine ⟨⟨h.nd, fun o ho => ?_⟩, ⟨fun a o n e => keep a o (fun z => n (by rw [z]; exact hP)) e, fun a ha => .inl ha⟩⟩
  by_cases ha : o.addr = P
  · have : o = Ow.tab P q := nd_inj h.nd ho hm ha
    rw [this]
    exact T1
  · have hh := h.hold o ho
    cases o with
    | raw b x => exact ⟨keep _ _ ha hh.1, hh.2⟩
    | lst b ds =>
      obtain ⟨vs, h1, h2⟩ := hh
      exact ⟨vs, keep _ _ ha h1, DaL.mono sm _ _ h2⟩
    | tab b q' =>
      obtain ⟨ps, h1, h2, h3⟩ := hh
      exact ⟨ps, keep _ _ ha h1, h2, fun pos cv hc => let ⟨c, e1, e2⟩ := h3 pos cv hc; ⟨c, e1, sm _ _ e2⟩⟩
def TTh (C : Addr) : (XK → Hp → VK → Prop) → Hp → VK → Prop := fun tl H Q => tl (fun cls d H' => cls = .ref C ∧ ∃ dd z, d = some dd ∧ H' dd = some (partO (.str z)) ∧ ∀ p, H' p = none → Q (.ref p) (upd H' p (.lst [.str z]))) H Q
theorem sc_law_heard : FnScope ["_law_call", "e"] ["_law_call"] (C8.fnScope s_law_heard) := ⟨rfl, rfl, rfl, by decide +kernel, rfl, by decide +kernel, by decide +kernel⟩
theorem bi_law_heard : BindsF "_law_heard" s_law_heard ["_law_call"] := fun _ _ _ _ _ _ us hl => match us, hl with | [_], _ => rfl
section
variable {X : Cx} {C fI g : Addr} {cdg : Value} {q : Str}
theorem bp_xf (T : BpT X.prog X.K X.mg C fI) : XfC X.K C := ⟨T.ga, T.gg, T.exC, T.hdC⟩
theorem heard_gives (T : BpT X.prog X.K X.mg C fI) : GivesTo X ["_law_call", "e"] "_law_heard" (C8.fnScope s_law_heard) g cdg (C8.fnBody s_law_heard) "_law_call" q (TTh C) := by
  intro f c' s H Q tl act hc h
  refine ⟨_, pss_one (ps_try_as (X := (cxOf C8.CX0 X.prog X.w X.K X.mg X.base ["_law_call", "e"] "_law_heard" (C8.fnScope s_law_heard) g cdg X.A X.stack s H C8.E0).nox) (c := .ref C) (i := 1)
      (tb := fun W D σ H => ∃ Ech : XK, (∀ cls d σ' H', Ech cls d H' → W cls d σ' H') ∧ σ[0]? = some (some (.ref f)) ∧ H c' = some (CodeO c' q) ∧ tl Ech H D.rt)
      (ts := fun a cls d D σ H => σ.length = 2 → σ[1]? = some (some (.ref a)) ∧ cls = .ref C ∧ ∃ dd z, d = some dd ∧ H dd = some (partO (.str z)) ∧ ∀ p, H p = none → D.rt (.ref p) (upd H p (.lst [.str z])))
      (Wout := fun _ _ _ _ => False) rfl rfl sc_law_heard.nd rfl rfl ⟨rfl, by decide, .inl T.gC⟩ L2.takes0 (fun W pn xe tk _ => ?_) (fun a oe cls d pn hz hf => ?_)), ?_⟩
  · refine ⟨fun pins s' σ H' D I h' => ?_⟩
    obtain ⟨Ech, hW, h1, h2, h3⟩ := h'
    exact (pss_one (ps_ret (act W pn xe Ech _ _ tk hW))).run pins s' σ H' D I ⟨h1, h2, h3⟩
  · refine ⟨fun pins s' σ H' D I h' => ?_⟩
    obtain ⟨h1, h2, dd, z, h3, h4, h5⟩ := h' I.len
    refine (pss_one (ps_ret (pe_lst (pa_cons (pe_xf (X := (cxOf C8.CX0 X.prog X.w X.K X.mg X.base ["_law_call", "e"] "_law_heard" (C8.fnScope s_law_heard) g cdg X.A X.stack s H C8.E0).nox) (C := C) (a := a) (pn := pn) (n := "part") (bp_xf T) T.noN hz hf (pe_var (X := Cx.suite (cxOf C8.CX0 X.prog X.w X.K X.mg X.base ["_law_call", "e"] "_law_heard" (C8.fnScope s_law_heard) g cdg X.A X.stack s H C8.E0).nox a ((a, oe) :: pn)) (x := "e") (i := 1) rfl (.inl rfl))) pa_nil)))).run pins s' σ H' D I ?_
    exact ⟨.ref a, h1, rfl, h2, dd, _, .str z, h3, h4, rfl, (show (1 : Nat) ≤ sizeLine by decide), fun p hp => h5 p hp⟩
  · refine ⟨fun cls d H' => cls = .ref C ∧ ∃ dd z, d = some dd ∧ H' dd = some (partO (.str z)) ∧ ∀ p, H' p = none → Q (.ref p) (upd H' p (.lst [.str z])), fun cls d σ' H' hh => ?_, rfl, hc, h⟩
    obtain ⟨h1, h2⟩ := hh
    subst h1
    refine ⟨true, T.te, fun _ a ha hl => ⟨?_, rfl, h2⟩, fun z => nomatch z⟩
    rw [List.length_set] at hl
    rw [List.getElem?_set_self (by omega)]
variable {W : List Ow} {ρ : Rho} {params : Arguments} {scope : Scope} {e1 e2 e3 : Expr} {p p2 p3 lpos pos : Pos} {c P : Addr} {S G : Sp2} {d : PyData}
theorem e_heard (T : BpT X.prog X.K X.mg C fI) (D : DfOk X.K X.mg "_law_heard" s_law_heard) (ck : FnX X.prog X.w X.K X.mg X.base 12 "check_borne" C F_check G_check) (TB : TabB X.base X.mg c P) (hcode : X.env.code = .ref c) (hr : Room 14 X.A) (hW : Ow.tab P (X.env.qual ++ "<lambda>") ∈ W) (hS : OkSp S) (hG : OkSys G) (hd : Gd d)
    (ha : ∀ (A : Around) (outer : List Env) (s : Shared) (H : Hp) (E : XK) (f c' : Addr), PA (lamCx X A outer s H E scope f c') [e1, e2, e3] (tA W ρ [.d (spD S), .d (spD G), .d d] W)) (hg : Gl X "_law_heard" := by rfl) (L : LamS X.env.scope scope := by exact lamS_by (by kernel_rfl)) (hgl : scope.names.lookup ("check_borne" : Str) = some .globalImplicit := by rfl)
    (hdef : defaultsOf params X.env = ([], []) := by rfl) (hbind : ∀ (q : Str) (cl : List (Str × Addr)) (pm cv ctv : Value), bindArgs (PySem.W.kla_fn "<lambda>" q params (.Call (.Name "check_borne" p2) [e1, e2, e3] [] p3) scope cl pm cv ctv) ⟨[], []⟩ = pure [] := by intro _ _ _ _ _; rfl)
    (he : ∀ env, starEach [e1, e2, e3] env = (false, eval e1 env) :: starEach [e2, e3] env := by intro _; rfl) (hpl : ∀ env, (backTo p3 (starEach [e2, e3] env)).any (·.1) = false := by intro _; rfl) :
    PE X (.Call (.Name "_law_heard" p) [.Lambda params (.Call (.Name "check_borne" p2) [e1, e2, e3] [] p3) scope lpos] [] pos) (tE W ρ (.d (dueD S G d)) W) := by
  obtain ⟨gh, fd, FD, hmg⟩ := D
  have bn := FD.bindsN bi_law_heard
  have kp := FD.kp
  obtain ⟨oc, od, dV, kV, doc, pm, an, cdv, ct, osl, rfl, lk, hcd, _, _⟩ := FD.ex
  refine PEto (pe_lamO (k := 12) (t := fun E => tCx C (fun cls d _ H => E cls d H) W ρ F_check G_check [.d (spD S), .d (spD G), .d d]) hg hmg kp lk hcd bn sc_law_heard rfl (.inl rfl) (heard_gives T) TB hcode hr L hdef hbind
    (fun A outer s H E f c' hr2 => x_call ck hr2 (takes_of rfl rfl rfl rfl) (ha A outer s H E f c') hgl (by decide) (he _) (hpl _))) fun σ H Q ⟨Z, cf, k⟩ => ?_
  have hm : Ow.tab P (X.env.qual ++ "<lambda>") ∈ Z ++ W := List.mem_append_right _ hW
  refine ⟨adrs (Z ++ W), List.mem_map.mpr ⟨_, hm, rfl⟩, cf.hd.lv, cf.hd.hold _ hm, fun H1 keep T1 => ?_⟩
  obtain ⟨d1, g1⟩ := cf.hd.tabs hm keep T1
  have c1 := cf.go g1 d1
  have h1 := strays_ne hS
  have h2 := number_le hS
  have right : ∀ z, dueD S G d = .list [.str z] → G_check [.d (spD S), .d (spD G), .d d] z → TTh C (fun E H' Q' => tCx C (fun cls d _ H => E cls d H) W ρ F_check G_check [.d (spD S), .d (spD G), .d d] σ H' Q') H1 Q := fun z ez hz => by
    refine ⟨Z, c1, .inr ⟨z, hz, fun d' H' g2 d2 n2 e2 => ⟨rfl, d', z, rfl, e2, fun p hp => ?_⟩⟩⟩
    have sm : Same H' (upd H' p (.lst [.str z])) := upd_ext hp
    refine k _ _ ((g1.trans g2).trans (Go.same sm)) (d2.same sm) ?_
    rw [ez, rp_lst]
    exact ⟨p, _, rfl, off_new d2.lv hp, DaL.cons (by simp only [Da]) DaL.nil⟩
  by_cases ho : formOk d = true
  · by_cases hg : goodO S G d = true
    · have ed : dueD S G d = .str (wordO d) := by unfold dueD; rw [if_pos ho, if_pos hg]
      exact ⟨Z, c1, .inl ⟨.d (.str (wordO d)), .mk hS hG h1 h2 hd ho hg, fun v H' g2 d2 q2 => k v H' (g1.trans g2) d2 (by rw [ed]; exact q2)⟩⟩
    · exact right _ (by unfold dueD; rw [if_pos ho, if_neg hg]) (.mk2 hS hG h1 h2 hd ho (by simpa using hg))
  · exact right _ (by unfold dueD; rw [if_neg ho]) (.mk1 hS hG h1 h2 hd (by simpa using ho))
end
end SG
set_option Elab.async false
set_option linter.all false
set_option maxRecDepth 100000
set_option maxHeartbeats 4000000
namespace SG
open PySem PySem.Spec PyProof.Rows L2
/-! all that can be told; dealt points -/
theorem gs_lot {l : List Nat} (h : ∀ p ∈ l, p ≤ 100) (hl : l.length ≤ 1000) : Gs 1 13000 (lotD l) := by
  have key : ∀ l : List Nat, (∀ p ∈ l, p ≤ 100) → okA (l.map nD) = true ∧ wtA (l.map nD) = 12 * l.length := by
    intro l
    induction l with
    | nil => intro _; exact ⟨by simp only [List.map_nil, okA], by simp only [List.map_nil, wtA]; rfl⟩
    | cons a l ih =>
      intro h
      obtain ⟨h1, h2⟩ := ih fun p hp => h p (List.mem_cons_of_mem _ hp)
      have ha := h a List.mem_cons_self
      refine ⟨?_, ?_⟩
      · rw [List.map_cons]
        simp only [okA, okD, h1, Bool.and_true, Bool.and_eq_true, decide_eq_true_eq]
        omega
      · rw [List.map_cons]
        simp only [wtA, wt, h2, List.length_cons]
        omega
  obtain ⟨h1, h2⟩ := key l h
  refine ⟨?_, ?_, ?_⟩
  · unfold lotD
    simp only [okD]
    exact h1
  · rw [(can_lot l).2]
    exact Nat.le_refl _
  · unfold lotD
    simp only [wt, h2]
    omega
section
variable {P : Program} {w : World} {K : PySem.W.Frag} {mg : Str → Option Value} {base : Heap}
inductive F_law_told_right : Spec
  | mk {S G : Sp2} (hS : OkSp S) (hG : OkSys G) : F_law_told_right [] [.dt (spansD S), I_ (S.1 : Nat), .d (spD G), B_ (stays G (numberIn S) [])] (B_ true) []
theorem sc_law_told_right : FnScope ["_law_spans_here", "_law_points", "_law_system_here", "_law_is_right", "_law_some", "_law_row"] ["_law_spans_here", "_law_points", "_law_system_here", "_law_is_right"] (C8.fnScope s_law_told_right) := ⟨rfl, rfl, rfl, by decide +kernel, rfl, by decide +kernel, by decide +kernel⟩
theorem f_law_told_right (T : Top K mg) : Fn P w K mg base false 4 "_law_told_right" F_law_told_right := by
  refine Fn.of T.s_law_told_right sc_law_told_right (fun _ _ _ _ _ _ us hl => match us, hl with | [_, _, _, _], _ => rfl) (by rintro _ _ _ _ ⟨⟩ <;> rfl) fun f cdv A outer s H E hr W rs r W' hF => ?_
  cases hF with | @mk S G hS hG =>
  have sle := hS.le
  have gle := hG.le
  have m1 : S.1 * S.1 ≤ 25 := Nat.mul_le_mul sle sle
  have m2 : S.1 * S.1 * S.1 ≤ 125 := Nat.mul_le_mul m1 sle
  refine h_ifR (k := decide (S.1 * S.1 * S.1 > 70) || decide (G.1 > 4)) (PW.pt (w_orP (rt_cmp (r_bin (r_bin (e_var 1) (e_var 1) (b_mulN (by first | assumption | omega | decide))) (e_var 1) (b_mulN (by first | assumption | omega | decide))) e_nat c_gtN) (w_or1 (rt_cmp (r_ix (e_var 2) e_nat x_sp0) e_nat c_gtN)))) (fun _ => h_one (s_ret e_bl)) (fun _ => ?_)
  have hz : (allT S.1 G.1).length < sizeLine := by
    rw [allT_len]
    refine Nat.lt_of_le_of_lt (Nat.le_trans (Nat.pow_le_pow_left sle _) (Nat.pow_le_pow_right (by decide) gle)) (by decide)
  have hall : ∀ r ∈ allT S.1 G.1, r.length < 64 ∧ ∀ p ∈ r, p < S.1 := fun r hr => by
    obtain ⟨h1, h2⟩ := allT_row hr
    exact ⟨by omega, h2⟩
  have h9 : S.1 ≤ 9 := by omega
  refine h_cons (s_setC 4 (comp_N [("_law_row", 5)] 5 (p := fun r => (safeL S G r).isEmpty) (f := lotD) (xs := allT S.1 G.1) (i_lst (r_callP (f_law_all_told T) (hr.mono (by decide)) (a_cons (e_var 1) (a_cons (r_ix (e_var 2) e_nat x_sp0) a_nil)) (.mk (by first | assumption | omega | exact (hall _ ‹_›).1 | exact (hall _ ‹_›).2 | decide) (by first | assumption | omega | exact (hall _ ‹_›).1 | exact (hall _ ‹_›).2 | decide)))) sc_law_told_right.nd (by first | assumption | omega | exact (hall _ ‹_›).1 | exact (hall _ ‹_›).2 | decide) (fun a ha s H C cl fp => s_one (rt_cmp (r_callP (f_law_safe T) (hr.mono (by decide)) (a_cons (e_var 0) (a_cons (e_var 1) (a_cons (r_ix (e_var 2) e_nat x_sp1) (a_cons (e_var 5) a_nil)))) (.mk1 (by first | assumption | omega | exact (hall _ ‹_›).1 | exact (hall _ ‹_›).2 | decide) (by first | assumption | omega | exact (hall _ ‹_›).1 | exact (hall _ ‹_›).2 | decide) (by first | assumption | omega | exact (hall _ ‹_›).1 | exact (hall _ ‹_›).2 | decide))) e_nilT (c_lot0 hr.units))) (fun a ha hp s H C cl fp => (e_var 5)) (fun s H C cl fp => g_nm 5 sc_law_told_right.nd))) ?_
  refine h_one (s_retE (r_cmp (r_cmp (e_var 4) e_nilL (c_mL0 hr.units (by first | assumption | exact sh_lot | exact sh_nl | exact sh_ll | exact sh_lots | exact sh_int | exact sh_bool | exact sh_none | exact sh_nil | exact sh_nilT | exact sh_ones _))) (e_var 3) c_eqB) ?_)
  rw [told_borne hS hG]
  simp
inductive F_law_dealt_right : Spec
  | mk {S G : Sp2} (hS : OkSp S) (hG : OkSys G) : F_law_dealt_right [] [.d (spD S), .dt (spansD S), .d (spD G), .d (llD (straysL S))] (B_ true) []
theorem sc_law_dealt_right : FnScope ["_law_space", "_law_spans_here", "_law_system_here", "_law_strays_here", "_law_row", "_law_lot_here", "_law_one", "_law_due_here", "_law_teller", "_law_k", "_law_point"] ["_law_space", "_law_spans_here", "_law_system_here", "_law_strays_here"] (C8.fnScope s_law_dealt_right) := ⟨rfl, rfl, rfl, by decide +kernel, rfl, by decide +kernel, by decide +kernel⟩
theorem bi_law_dealt_right : BindsF "_law_dealt_right" s_law_dealt_right ["_law_space", "_law_spans_here", "_law_system_here", "_law_strays_here"] := fun _ _ _ _ _ _ us hl => match us, hl with | [_, _, _, _], _ => rfl
theorem f_law_dealt_right (T : Top K mg) : Fn P w K mg base true 8 "_law_dealt_right" F_law_dealt_right := by
  refine Fn.ofG (k := 7) T.s_law_dealt_right sc_law_dealt_right bi_law_dealt_right (by rintro _ _ _ _ ⟨⟩; rfl) fun f cdv A outer s H E hr hq W rs r W' hF => ?_
  cases hF with | @mk S G hS hG =>
  have sle := hS.le
  have gle := hG.le
  have gn := hG.n
  have h9 : S.1 ≤ 9 := by omega
  have h91 : G.1 ≤ 9 := by omega
  have h92 : G.2.length ≤ 9 := by omega
  have hsz : (straysL S).length < sizeLine := by
    refine Nat.lt_of_le_of_lt (List.length_filter_le _ _) ?_
    rw [lots_len]
    exact Nat.lt_of_le_of_lt (p2_le h9) (by decide)
  refine h_cons (s_forI (fun _ => []) (fun _ => [some (.d (spD S)), some (.dt (spansD S)), some (.d (spD G)), some (.d (llD (straysL S))), none, none, none, none, none, none, none]) 4 (xs := covsL G) (gg := lotD) (i_lst (r_callP (f_law_all_covers T) (hr.mono (by decide)) (a_cons (e_var 2) a_nil) (.mk (by first | assumption | omega | decide) (by first | assumption | omega | decide)))) sc_law_dealt_right.nd (by repeat (first | exact trivial | refine ⟨.inr rfl, ?_⟩ | refine ⟨.inl rfl, ?_⟩)) fun j row hrow => ?_) (h_one (s_ret e_bl))
  obtain ⟨r1, r2, r3⟩ := mem_covsL.mp (List.mem_of_getElem? hrow)
  have rl := len_lt r1 r2
  refine hs_wk (ρ1 := [some (.d (spD S)), some (.dt (spansD S)), some (.d (spD G)), some (.d (llD (straysL S))), some (.d (lotD row)), none, none, none, none, none, none]) (h_one (s_forI (fun _ => []) (fun _ => [some (.d (spD S)), some (.dt (spansD S)), some (.d (spD G)), some (.d (llD (straysL S))), some (.d (lotD row)), none, none, none, none, none, none]) 5 (xs := (straysL S).filter fun l => decide (l.length = row.length)) (gg := lotD) (i_lst (e_comp (comp_N [("_law_one", 6)] 6 (p := fun l => decide (l.length = row.length)) (f := lotD) (xs := straysL S) (i_lst (e_var 3)) sc_law_dealt_right.nd (by first | assumption | omega | decide) (fun a ha s H C cl fp => s_one (rt_cmp (r_calB (a_cons (e_var 6) a_nil) f_lenN T.b_len rfl) (r_calB (a_cons (e_var 4) a_nil) f_lenN T.b_len rfl) c_eqN)) (fun a ha hp s H C cl fp => (e_var 6)) (fun s H C cl fp => g_nm 6 sc_law_dealt_right.nd)))) sc_law_dealt_right.nd (by repeat (first | exact trivial | refine ⟨.inr rfl, ?_⟩ | refine ⟨.inl rfl, ?_⟩)) fun i lot hlot => ?_)) (by repeat (first | exact trivial | refine ⟨.inr rfl, ?_⟩ | refine ⟨.inl rfl, ?_⟩))
  obtain ⟨l0, l3⟩ := List.mem_filter.mp (List.mem_of_getElem? hlot)
  have hl : row.length = lot.length := (of_decide_eq_true l3).symm
  obtain ⟨l1, l2, _, _⟩ := mem_straysL.mp l0
  have hst : strayM (spansM S) (mask lot) = true := by
    obtain ⟨_, _, n1, n2⟩ := mem_straysL.mp l0
    rw [stray_mask hS l1 l2, n2]
    cases lot with
    | nil => exact absurd rfl n1
    | cons a r => rfl
  have hsafe := dealt_safe (G := G) r2 r3 hl l0
  have dlt := dealt_lt (G := G) r3 hl l2
  have dln := dealt_len G row lot
  have hz2 : (row.zip lot).length < sizeLine := by
    rw [List.length_zip]
    exact Nat.lt_of_le_of_lt (show _ ≤ 5 by omega) (by decide)
  refine h_new 7 (fun p => ?_) sc_law_dealt_right.nd
  refine h_cons (s_forI (fun j => [.lst p ((List.range j).map fun t => nD ((dealsTo G row lot t).getD 0 0))]) (fun _ => [some (.d (spD S)), some (.dt (spansD S)), some (.d (spD G)), some (.d (llD (straysL S))), some (.d (lotD row)), some (.d (lotD lot)), none, some (.v (.ref p)), none, none, none]) 8 (xs := List.range G.1) (gg := nD) (i_rgN T.b_range (a_cons (r_ix (e_var 2) e_nat x_sp0) a_nil) (by first | assumption | omega | decide)) sc_law_dealt_right.nd (by repeat (first | exact trivial | refine ⟨.inr rfl, ?_⟩ | refine ⟨.inl rfl, ?_⟩)) fun j t hj => ?_) ?_
  · obtain ⟨ht, e⟩ := List.getElem?_eq_some_iff.mp hj
    rw [List.length_range] at ht
    rw [List.getElem_range] at e
    subst e
    have hne : 0 < (dealsTo G row lot j).length := List.length_pos_iff.mpr (deals_ne r3 hl ht)
    have hs2 : ((List.range j).map fun t => nD ((dealsTo G row lot t).getD 0 0)).length < sizeLine := by
      rw [List.length_map, List.length_range]
      exact Nat.lt_of_le_of_lt (show j ≤ 5 by omega) (by decide)
    rw [List.range_succ, List.map_append, List.map_singleton]
    have hk : ∀ a ∈ row.zip lot, a.1 < G.2.length := fun a ha => r2 _ (List.of_mem_zip (a := a.1) (b := a.2) ha).1
    exact hs_wk (h_one (s_append 7 (r_ix (e_to (.d (.list ((dealsTo G row lot j).map nD))) (e_comp (comp_P [("_law_k", 9), ("_law_point", 10)] 9 10 (p := fun p => decide (j ∈ G.2.getD p.1 [])) (f := fun p => nD p.2) (xs := row.zip lot) (i_zT T.b_zip (a_cons (e_var 4) (a_cons (e_var 5) a_nil))) sc_law_dealt_right.nd (by first | assumption | omega | exact hk _ ‹_› | decide) (fun a ha s H C cl fp => s_one (rt_cmp (e_var 8) (r_ix (r_ix (e_var 2) e_nat x_sp1) (e_var 9) (x_lots (by first | assumption | omega | exact hk _ ‹_› | decide))) c_inN)) (fun a ha hp s H C cl fp => (e_var 10)) (fun s H C cl fp => g_pr 9 10 sc_law_dealt_right.nd))) (by unfold dealsTo; rw [List.map_map]; rfl)) e_nat (x_nl hne)) hs2)) (by repeat (first | exact trivial | refine ⟨.inr rfl, ?_⟩ | refine ⟨.inl rfl, ?_⟩))
  · rw [List.length_range]
    have ed : ((List.range G.1).map fun t => nD ((dealsTo G row lot t).getD 0 0)) = (dealtM G row lot).map nD := by
      unfold dealtM
      rw [List.map_map]
      rfl
    rw [ed]
    refine h_frz 7 ?_
    have gs : Gs 1 13000 (lotD (dealtM G row lot)) := gs_lot (fun p hp => by have := dlt p hp; omega) (by rw [dln]; omega)
    have hr6 : Room 6 (bX P w K mg base _ _ _ f cdv A outer s H E).A := hr.mono (by decide)
    refine hs_wk (ρ1 := [some (.d (spD S)), some (.dt (spansD S)), some (.d (spD G)), some (.d (llD (straysL S))), some (.d (lotD row)), some (.d (lotD lot)), none, some (.d (nlD (dealtM G row lot))), none, none, none]) ?_ (by repeat (first | exact trivial | refine ⟨.inr rfl, ?_⟩ | refine ⟨.inl rfl, ?_⟩))
    refine h_cons (s_ifF (t_eq (rt_cmp (r_calB (a_cons (r_callP (f_dealt T) hr6 (a_cons (e_var 0) (a_cons (e_var 2) (a_cons (e_var 4) (a_cons (e_var 5) a_nil)))) (.mk hS hG r1 r2 r3 l1 l2 hl hst)) a_nil) (f_repr (hq rfl) hr.units gs (by decide) (by decide)) T.b_repr rfl)
      (r_calB (a_cons (r_calT (a_cons (e_var 7 (r := .d (.list ((dealtM G row lot).map nD)))) a_nil) f_tuple T.b_tuple rfl) a_nil) (f_repr (d := lotD (dealtM G row lot)) (hq rfl) hr.units gs (by decide) (by decide)) T.b_repr rfl) c_neS) (by simp)) h_nil) ?_
    refine h_one (s_ifF (t_eq (rt_cmp (r_callP (f_law_safe T) (hr.mono (by decide)) (a_cons (e_var 1) (a_cons (r_ix (e_var 0) e_nat x_sp0) (a_cons (r_ix (e_var 2) e_nat x_sp1) (a_cons (e_var 7 (r := .d (nlD (dealtM G row lot)))) a_nil)))) (.mk2 h9 (by omega) dlt)) e_nilT (c_lot0n hr.units)) (by rw [hsafe]; rfl)) h_nil)
end
end SG
set_option Elab.async false
set_option linter.all false
set_option maxRecDepth 100000
set_option maxHeartbeats 4000000
/-! how small the told things stay -/
namespace SG
open PySem PySem.Spec PyProof.Rows L2
/-- a row of small data -/
structure GsA (n m : Nat) (ds : List PyData) : Prop where
  ok : okA ds = true
  dep : PyData.depthAll ds ≤ n
  wt : wtA ds ≤ m
theorem okA_app : ∀ (a b : List PyData), okA (a ++ b) = (okA a && okA b)
  | [], b => by simp only [List.nil_append, okA, Bool.true_and]
  | x :: a, b => by simp only [List.cons_append, okA, okA_app a b, Bool.and_assoc]
theorem depA_app : ∀ (a b : List PyData), PyData.depthAll (a ++ b) = max (PyData.depthAll a) (PyData.depthAll b)
  | [], b => by simp only [List.nil_append, PyData.depthAll]; omega
  | x :: a, b => by simp only [List.cons_append, PyData.depthAll, depA_app a b]; omega
theorem wtA_app : ∀ (a b : List PyData), wtA (a ++ b) = wtA a + wtA b
  | [], b => by simp only [List.nil_append, wtA]; omega
  | x :: a, b => by simp only [List.cons_append, wtA, wtA_app a b]; omega
theorem GsA.app {n m n' m' : Nat} {a b : List PyData} (h : GsA n m a) (k : GsA n' m' b) : GsA (max n n') (m + m') (a ++ b) := by
  obtain ⟨h1, h2, h3⟩ := h
  obtain ⟨k1, k2, k3⟩ := k
  exact ⟨by rw [okA_app, h1, k1]; rfl, by rw [depA_app]; omega, by rw [wtA_app]; omega⟩
theorem GsA.mono {n m n' m' : Nat} {a : List PyData} (h : GsA n m a) (hn : n ≤ n') (hm : m ≤ m') : GsA n' m' a := ⟨h.ok, Nat.le_trans h.dep hn, Nat.le_trans h.wt hm⟩
theorem GsA.split {n m : Nat} {a b : List PyData} (h : GsA n m (a ++ b)) : ∃ x y, x + y ≤ m ∧ GsA n x a ∧ GsA n y b := by
  obtain ⟨h1, h2, h3⟩ := h
  rw [okA_app, Bool.and_eq_true] at h1
  rw [depA_app] at h2
  rw [wtA_app] at h3
  exact ⟨wtA a, wtA b, h3, ⟨h1.1, by omega, Nat.le_refl _⟩, ⟨h1.2, by omega, Nat.le_refl _⟩⟩
theorem GsA.take {n m : Nat} {a : List PyData} (h : GsA n m a) (k : Nat) : GsA n m (a.take k) := by
  rw [← List.take_append_drop k a] at h
  obtain ⟨x, y, e, h1, _⟩ := h.split
  exact h1.mono (Nat.le_refl _) (by omega)
theorem GsA.drop {n m : Nat} {a : List PyData} (h : GsA n m a) (k : Nat) : GsA n m (a.drop k) := by
  rw [← List.take_append_drop k a] at h
  obtain ⟨x, y, e, _, h1⟩ := h.split
  exact h1.mono (Nat.le_refl _) (by omega)
theorem GsA.one {n m : Nat} {d : PyData} (h : Gs n m d) : GsA n (m + 2) [d] := by
  obtain ⟨h1, h2, h3⟩ := h
  exact ⟨by simp only [okA, h1]; rfl, by simp only [PyData.depthAll]; omega, by simp only [wtA]; omega⟩
theorem GsA.nil : GsA 0 0 [] := ⟨by simp only [okA], by simp only [PyData.depthAll]; omega, by simp only [wtA]; omega⟩
theorem GsA.cons {n m n' m' : Nat} {d : PyData} {ds : List PyData} (h : Gs n m d) (k : GsA n' m' ds) : GsA (max n n') (m + 2 + m') (d :: ds) := (GsA.one h).app k
theorem GsA.tup {n m : Nat} {ds : List PyData} (h : GsA n m ds) : Gs (n + 1) (m + 3) (.tuple ds) := by
  obtain ⟨h1, h2, h3⟩ := h
  exact ⟨by simp only [okD]; exact h1, by simp only [PyData.depth]; omega, by simp only [SG.wt]; omega⟩
theorem GsA.lst {n m : Nat} {ds : List PyData} (h : GsA n m ds) : Gs (n + 1) (m + 3) (.list ds) := by
  obtain ⟨h1, h2, h3⟩ := h
  exact ⟨by simp only [okD]; exact h1, by simp only [PyData.depth]; omega, by simp only [SG.wt]; omega⟩
theorem Gs.inv {n m : Nat} {ds : List PyData} (h : Gs n m (.tuple ds)) : ∃ n' m', n = n' + 1 ∧ m = m' + 3 ∧ GsA n' m' ds := by
  obtain ⟨h1, h2, h3⟩ := h
  simp only [okD] at h1
  simp only [PyData.depth] at h2
  simp only [SG.wt] at h3
  exact ⟨n - 1, m - 3, by omega, by omega, h1, by omega, by omega⟩
theorem gs_int {i : Int} (h1 : -20 ≤ i) (h2 : i ≤ 110) : Gs 0 10 (.int i) := ⟨by simp only [okD, decide_eq_true h1, decide_eq_true h2]; rfl, by simp only [PyData.depth]; omega, by simp only [SG.wt]; omega⟩
theorem gs_nat {k : Nat} (h : k ≤ 110) : Gs 0 10 (nD k) := gs_int (by omega) (by omega)
theorem gs_str {z : Str} (h : z ∈ strsK) : Gs 0 10 (.str z) := ⟨by simp only [okD, decide_eq_true h], by simp only [PyData.depth]; omega, by simp only [SG.wt]; omega⟩
theorem gs_bool {b : Bool} : Gs 0 10 (.bool b) := ⟨by simp only [okD], by simp only [PyData.depth]; omega, by simp only [SG.wt]; omega⟩
theorem gs_none : Gs 0 10 .none := ⟨by simp only [okD], by simp only [PyData.depth]; omega, by simp only [SG.wt]; omega⟩
theorem gs_dec {n m : Nat} {d : PyData} (h : (okD d && decide (d.depth ≤ n) && decide (wt d ≤ m)) = true) : Gs n m d := by
  simp only [Bool.and_eq_true, decide_eq_true_eq] at h
  exact ⟨h.1.1, h.1.2, h.2⟩
theorem bent_some : ∀ d ∈ bentSome, (okD d && decide (d.depth ≤ 2) && decide (wt d ≤ 56)) = true := by decide +kernel
theorem some_gs (s : LS) : Gs 2 56 (ofS bentSome s).1 := by
  have h : (draw s bentSome.length).1 < bentSome.length := draw_lt (by decide)
  have e : (ofS bentSome s).1 = bentSome[(draw s bentSome.length).1] := by
    show bentSome.getD _ .none = _
    rw [List.getD_eq_getElem?_getD, List.getElem?_eq_getElem h]; rfl
  rw [e]
  exact gs_dec (bent_some _ (List.getElem_mem h))
theorem steps_ok : ∀ d ∈ stepsD, -1 ≤ toI d ∧ toI d ≤ 5 := by decide +kernel
theorem steps_le (s : LS) : -1 ≤ toI (ofS stepsD s).1 ∧ toI (ofS stepsD s).1 ≤ 5 := by
  have h : (draw s stepsD.length).1 < stepsD.length := draw_lt (by decide)
  have e : (ofS stepsD s).1 = stepsD[(draw s stepsD.length).1] := by
    show stepsD.getD _ .none = _
    rw [List.getD_eq_getElem?_getD, List.getElem?_eq_getElem h]; rfl
  rw [e]
  exact steps_ok _ (List.getElem_mem h)
theorem isInt_le {i a b : Int} (h : isInt (.int i) a b = true) : a ≤ i ∧ i ≤ b := by
  simp only [isInt, Bool.and_eq_true, decide_eq_true_eq] at h
  exact h
theorem getD_split {ds : List PyData} {i : Nat} (h : i < ds.length) : ds = ds.take i ++ (ds.getD i .none :: ds.drop (i + 1)) := by
  have e : ds.getD i .none = ds[i] := by rw [List.getD_eq_getElem?_getD, List.getElem?_eq_getElem h]; rfl
  rw [e, ← List.drop_eq_getElem_cons h, List.take_append_drop]
theorem bentB_gs {rec : LS → PyData → PyData × LS} (hr : ∀ {a b : Nat} {d : PyData} (s : LS), Gs a b d → Gs (a + 2) (b + 60) (rec s d).1) {a b : Nat} {d : PyData} (s : LS) (h : Gs a b d) : Gs (a + 2) (b + 60) (bentB rec s d).1 := by
  unfold bentB
  split
  · rename_i x xs
    obtain ⟨n, m, rfl, rfl, hA⟩ := h.inv
    have hlt : (draw (draw s 7).2 (x :: xs).length).1 < (x :: xs).length := draw_lt (Nat.succ_pos _)
    generalize x :: xs = ds at hA hlt
    unfold bentT
    split
    · exact (some_gs _).mono (by omega) (by omega)
    · generalize (draw (draw s 7).2 ds.length).1 = i at hlt
      have hB := hA
      rw [getD_split hlt] at hB
      obtain ⟨m1, m2, e1, t1, t2⟩ := hB.split
      obtain ⟨m3, m4, e2, t3, t4⟩ := GsA.split (a := [ds.getD i .none]) t2
      split
      · exact ((t1.app t4).tup).mono (by omega) (by omega)
      · have hC := hA
        rw [← List.take_append_drop i ds] at hC
        obtain ⟨m5, m6, e5, t5, t6⟩ := hC.split
        exact (((t5.app (GsA.one (some_gs _))).app t6).tup).mono (by omega) (by omega)
      · refine Gs.mono (n := n + 1) (m := m + 3) ?_ (by omega) (by omega)
        refine GsA.tup ⟨?_, ?_, ?_⟩
        · rw [okA_all] at *
          exact fun d hd => okA_all.mp hA.ok d (List.mem_reverse.mp hd)
        · have : ∀ l : List PyData, PyData.depthAll l.reverse = PyData.depthAll l := fun l => by
            induction l with
            | nil => rfl
            | cons a l ih => rw [List.reverse_cons, depA_app, ih]; simp only [PyData.depthAll]; omega
          rw [this]; exact hA.dep
        · have : ∀ l : List PyData, wtA l.reverse = wtA l := fun l => by
            induction l with
            | nil => rfl
            | cons a l ih => rw [List.reverse_cons, wtA_app, ih]; simp only [wtA]; omega
          rw [this]; exact hA.wt
      · exact hA.lst.mono (by omega) (by omega)
      · have hx : Gs n (m3 - 2) (ds.getD i .none) := by
          obtain ⟨q1, q2, q3⟩ := t3
          simp only [okA, Bool.and_true] at q1
          simp only [PyData.depthAll] at q2
          simp only [wtA] at q3
          exact ⟨q1, by omega, by omega⟩
        have h2 : 2 ≤ m3 := by
          have := t3.wt
          simp only [wtA] at this
          omega
        exact (((t1.app (GsA.one (hr _ hx))).app t4).tup).mono (by omega) (by omega)
  · exact (some_gs _).mono (by omega) (by omega)
theorem bent_gs : ∀ (k : Nat) {a b : Nat} {d : PyData} (s : LS), Gs a b d → Gs (a + 2) (b + 60) (bent k s d).1
  | 0, a, b, d, s, h => h.mono (by omega) (by omega)
  | k + 1, a, b, d, s, h => by
    have hr : ∀ {a b : Nat} {d : PyData} (s : LS), Gs a b d → Gs (a + 2) (b + 60) (bent k s d).1 := fun s h => bent_gs k s h
    unfold bent
    split
    · rename_i hi
      obtain ⟨i, rfl⟩ := isInt_int hi
      obtain ⟨i1, i2⟩ := isInt_le hi
      split
      · obtain ⟨w1, w2⟩ := steps_le (draw s 3).2
        have h3 := h.wt
        simp only [SG.wt] at h3
        refine (gs_int (i := toI (.int i) + toI (ofS stepsD (draw s 3).2).1) ?_ ?_).mono (by omega) (by omega) <;> (show _ ≤ _; simp only [toI] at *; omega)
      · exact bentB_gs hr _ h
    · exact bentB_gs hr _ h
/-! papers -/
def tW : Nat → Nat
  | 0 => 20
  | n + 1 => 30 + 5 * tW n
theorem tree_gs {G : Sp2} (hG : OkSys G) : ∀ (n : Nat) (ns : List Nat), Open G n ns → Gs (2 * n + 2) (tW n) (treeD G n ns)
  | 0, ns, _ => by
    have h0 : (bare G ns).getD 0 0 ≤ 110 := by
      have := hG.le
      cases q : bare G ns with
      | nil => exact Nat.zero_le _
      | cons t r =>
        have : t ∈ bare G ns := by rw [q]; exact List.mem_cons_self
        have := (bare_iff.mp this).1
        show t ≤ 110
        omega
    exact ((GsA.cons (gs_nat h0) (GsA.one (GsA.nil.tup))).tup).mono (by omega) (by show _ ≤ 20; omega)
  | n + 1, ns, ho => by
    have hg := hG.le
    have hn := hG.n
    have hb : bare G ns ≠ [] := ho.bare
    have hp : pickT G ns ≤ 110 := by
      have := (bare_iff.mp (pickT_mem hb)).1
      omega
    have hl : (with_ G (pickT G ns)).length ≤ 5 := by
      unfold with_
      rw [List.length_map]
      refine Nat.le_trans (List.length_filter_le _ _) ?_
      rw [List.length_zipIdx]
      exact hn
    have hk : ∀ k ∈ with_ G (pickT G ns), Open G n (ns ++ [k]) := fun k hk => ho.more (mem_with.mp hk).1
    have kids : ∀ ks : List Nat, (∀ k ∈ ks, Open G n (ns ++ [k])) → GsA (2 * n + 2) ((tW n + 2) * ks.length) (ks.map fun k => treeD G n (ns ++ [k])) := by
      intro ks
      induction ks with
      | nil => intro _; exact GsA.nil.mono (by omega) (by simp)
      | cons k ks ih =>
        intro h
        have z := tree_gs hG n (ns ++ [k]) (h k List.mem_cons_self)
        refine ((GsA.cons z (ih fun k hk => h k (List.mem_cons_of_mem _ hk))) : GsA _ _ (_ :: _)).mono (by omega) ?_
        rw [List.length_cons, Nat.mul_succ]
        omega
    have kd := kids _ hk
    have e : (tW n + 2) * (with_ G (pickT G ns)).length ≤ (tW n + 2) * 5 := Nat.mul_le_mul_left _ hl
    show Gs _ (30 + 5 * tW n) (.tuple [nD (pickT G ns), .tuple ((with_ G (pickT G ns)).map fun k => treeD G n (ns ++ [k]))])
    exact ((GsA.cons (gs_nat hp) (GsA.one kd.tup)).tup).mono (by omega) (by omega)
theorem lot_gs {l : List Nat} (h : ∀ p ∈ l, p ≤ 100) (hl : l.length ≤ 60) : Gs 1 800 (lotD l) := by
  obtain ⟨h1, h2, _⟩ := gs_lot h (by omega)
  refine ⟨h1, h2, ?_⟩
  have : ∀ l : List Nat, wtA (l.map nD) = 12 * l.length := by
    intro l
    induction l with
    | nil => rw [List.map_nil]; simp only [wtA]; rfl
    | cons a l ih => rw [List.map_cons]; simp only [wtA, SG.wt, ih, List.length_cons]; omega
  unfold lotD
  simp only [SG.wt, this]
  omega
theorem paper_gs1 {S G : Sp2} (hS : OkSp S) (hG : OkSys G) (ho : Open G (numberIn S) []) : Gs 13 90000 (.tuple [.str "borne", treeD G (numberIn S) []]) := by
  have h5 := number_le hS
  have z2 : Gs 12 85930 (treeD G (numberIn S) []) := by
    have z := tree_gs hG _ _ ho
    generalize numberIn S = n at z h5
    refine z.mono (by omega) ?_
    match n, h5 with
    | 0, _ => decide
    | 1, _ => decide
    | 2, _ => decide
    | 3, _ => decide
    | 4, _ => decide
    | 5, _ => decide
  exact ((GsA.cons (gs_str (by decide)) (GsA.one z2)).tup).mono (by omega) (by omega)
theorem paper_gs2 {c t : List Nat} (h1 : ∀ p ∈ c, p ≤ 100) (h2 : c.length ≤ 60) (h3 : ∀ p ∈ t, p ≤ 100) (h4 : t.length ≤ 60) : Gs 13 90000 (.tuple [.str "open", lotD c, lotD t]) :=
  ((GsA.cons (gs_str (by decide)) (GsA.cons (lot_gs h1 h2) (GsA.one (lot_gs h3 h4)))).tup).mono (by omega) (by omega)
theorem openD_gs {c t : List Nat} (h1 : ∀ p ∈ c, p ≤ 100) (h2 : c.length ≤ 60) (h3 : ∀ p ∈ t, p ≤ 100) (h4 : t.length ≤ 60) : Gs 60 1000000 (openD c t) := (paper_gs2 h1 h2 h3 h4).mono (by omega) (by omega)
def Lot5 (l : List Nat) : Prop := (∀ p ∈ l, p ≤ 100) ∧ l.length ≤ 60
def AllG (t : ThS) : Prop := (∀ d ∈ t.ds, Gs 60 1000000 d)
theorem told_lot {n k : Nat} (h0 : 1 ≤ n) (hn : n ≤ 5) (hk : k ≤ 5) (s : LS) : Lot5 (toldS n k s).1 := by
  obtain ⟨h1, h2⟩ := toldF_lt (n := n) (by omega) (List.range k) s
  refine ⟨fun p hp => ?_, ?_⟩
  · have := h2 p hp
    omega
  · show (toldF n (List.range k) s).1.length ≤ 60
    rw [h1, List.length_range]
    omega
theorem againT_g {n k : Nat} {row : List Nat} {t : ThS} (h0 : 1 ≤ n) (hn : n ≤ 5) (hk : k ≤ 5) (hr : Lot5 row) (h : AllG t) : ∀ j, AllG (againT n k row t j)
  | 0 => h
  | j + 1 => fun d hd => by
    rcases List.mem_append.mp (show d ∈ _ ++ _ from hd) with z | z
    · exact againT_g h0 hn hk hr h j d z
    · rw [List.mem_singleton.mp z]
      have := told_lot h0 hn hk (againT n k row t j).s
      exact openD_gs hr.1 hr.2 this.1 this.2
theorem rowT_g {n k : Nat} {row : List Nat} {t : ThS} (h0 : 1 ≤ n) (hn : n ≤ 5) (hk : k ≤ 5) (hr : Lot5 row) (h : AllG t) : AllG (rowT n k t row) := fun d hd => by
  rcases List.mem_append.mp (show d ∈ _ ++ _ from hd) with z | z
  · exact againT_g h0 hn hk hr h 4 d z
  · rw [List.mem_singleton.mp z]
    have := told_lot h0 hn hk (againT n k row t 3).s
    refine openD_gs (fun p hp => hr.1 p (List.mem_of_mem_drop hp)) ?_ this.1 this.2
    rw [List.length_drop]
    have := hr.2
    omega
theorem rowsT_g {n k : Nat} (h0 : 1 ≤ n) (hn : n ≤ 5) (hk : k ≤ 5) : ∀ {rows : List (List Nat)} {t : ThS}, (∀ r ∈ rows, Lot5 r) → AllG t → AllG (rowsT n k rows t)
  | [], t, _, h => h
  | row :: rows, t, hr, h => rowsT_g h0 hn hk (rows := rows) (fun r m => hr r (List.mem_cons_of_mem _ m)) (rowT_g h0 hn hk (hr row List.mem_cons_self) h)
theorem lapT_g {ps : List PyData} {t : ThS} (hg : Gs 13 90000 (.tuple ps)) (hp : 2 ≤ ps.length) (h : AllG t) : ∀ j, AllG (lapT ps t j)
  | 0 => h
  | j + 1 => fun d hd => by
    obtain ⟨n', m', e1, e2, hA⟩ := hg.inv
    rcases List.mem_append.mp (show d ∈ (_ ++ _) ++ _ from hd) with z | z
    · rcases List.mem_append.mp z with z | z
      · exact lapT_g hg hp h j d z
      · rw [List.mem_singleton.mp z]
        exact (bent_gs 40 _ hg).mono (by omega) (by omega)
    · rw [List.mem_singleton.mp z]
      have hx : ps.getD 1 .none ∈ ps := by
        rw [List.getD_eq_getElem?_getD, List.getElem?_eq_getElem (show 1 < ps.length by omega)]
        exact List.getElem_mem _
      have gx := bent_gs 40 (bent 40 (lapT ps t j).s (.tuple ps)).2 (hg.mem hx)
      exact ((((hA.take 1).app (GsA.one gx)).app (hA.drop 2)).tup).mono (by omega) (by omega)
theorem base1_gs : ∀ d ∈ base1, (okD d && decide (d.depth ≤ 60) && decide (wt d ≤ 1000000)) = true := by decide +kernel
theorem gs_rev {n m : Nat} {ds : List PyData} (hA : GsA n m ds) : GsA n m ds.reverse := by
  refine ⟨?_, ?_, ?_⟩
  · exact okA_all.mpr fun d hd => okA_all.mp hA.ok d (List.mem_reverse.mp hd)
  · have : ∀ l : List PyData, PyData.depthAll l.reverse = PyData.depthAll l := fun l => by
      induction l with
      | nil => rfl
      | cons a l ih => rw [List.reverse_cons, depA_app, ih]; simp only [PyData.depthAll]; omega
    rw [this]; exact hA.dep
  · have : ∀ l : List PyData, wtA l.reverse = wtA l := fun l => by
      induction l with
      | nil => rfl
      | cons a l ih => rw [List.reverse_cons, wtA_app, ih]; simp only [wtA]; omega
    rw [this]; exact hA.wt
theorem base0_gs {ps : List PyData} (hg : Gs 13 90000 (.tuple ps)) : ∀ d ∈ base0 ps, Gs 60 1000000 d := fun d hd => by
  obtain ⟨n', m', e1, e2, hA⟩ := hg.inv
  unfold base0 at hd
  simp only [List.mem_cons, List.not_mem_nil, or_false] at hd
  rcases hd with rfl | rfl | rfl | rfl | rfl | rfl | rfl | rfl | rfl | rfl
  · exact hg.mono (by omega) (by omega)
  · exact hA.lst.mono (by omega) (by omega)
  · rw [List.dropLast_eq_take]
    exact (hA.take _).tup.mono (by omega) (by omega)
  · exact ((hA.app (GsA.one GsA.nil.tup)).tup).mono (by omega) (by omega)
  · exact gs_none.mono (by omega) (by omega)
  · exact (gs_int (i := 5) (by omega) (by omega)).mono (by omega) (by omega)
  · exact GsA.nil.tup.mono (by omega) (by omega)
  · exact (gs_str (by decide)).mono (by omega) (by omega)
  · exact (((GsA.one (gs_str (z := "Borne") (by decide))).app (hA.drop 1)).tup).mono (by omega) (by omega)
  · exact (gs_rev hA).tup.mono (by omega) (by omega)
theorem things_gs {n : Nat} {G : Sp2} {ps : List PyData} {s : LS} (h0 : 1 ≤ n) (hn : n ≤ 5) (hG : OkSys G) (hp : 2 ≤ ps.length) (hg : Gs 13 90000 (.tuple ps)) : ∀ d ∈ (thingsT n G ps s).ds, Gs 60 1000000 d := by
  have hgl := hG.le
  have hgn := hG.n
  refine lapT_g hg hp (rowsT_g h0 hn hgl (fun r hr => ?_) fun d hd => ?_) 12
  · obtain ⟨r1, r2, _⟩ := mem_covsL.mp (rows6_mem hr)
    have := len_lt r1 r2
    exact ⟨fun p hp => by have := r2 p hp; omega, by omega⟩
  · rcases List.mem_append.mp hd with z | z
    · exact base0_gs hg d z
    · exact gs_dec (base1_gs d z)
end SG
set_option Elab.async false
set_option linter.all false
set_option maxRecDepth 100000
set_option maxHeartbeats 4000000
/-! the program's own paper -/
namespace SG
open PySem PySem.Spec PyProof.Rows L2
theorem cov_lot {G : Sp2} {l : List Nat} (h : l ∈ covL G) : l.Pairwise (· < ·) ∧ (∀ k ∈ l, k < G.2.length) ∧ bare G l = [] := mem_covsL.mp (mem_covL.mp h).1
theorem covL_len {G : Sp2} (hG : OkSys G) : (covL G).length ≤ 512 := by
  have hn := hG.n
  unfold covL
  refine Nat.le_trans (List.length_filter_le _ _) ?_
  unfold covsL
  refine Nat.le_trans (List.length_filter_le _ _) ?_
  rw [lots_len]
  exact p2_le (by omega)
theorem lots_gsA : ∀ {ls : List (List Nat)}, (∀ l ∈ ls, Lot5 l) → GsA 1 (802 * ls.length) (ls.map lotD)
  | [], _ => GsA.nil.mono (by omega) (by omega)
  | l :: ls, h => by
    have hl := h l List.mem_cons_self
    refine ((GsA.cons (lot_gs hl.1 hl.2) (lots_gsA fun l m => h l (List.mem_cons_of_mem _ m))) : GsA _ _ (_ :: _)).mono (by omega) ?_
    rw [List.length_cons, Nat.mul_succ]
    omega
theorem lots_gs {ls : List (List Nat)} (h : ∀ l ∈ ls, Lot5 l) (hl : ls.length ≤ 512) : Gs 2 411000 (lotsD ls) := by
  have e : 802 * ls.length ≤ 802 * 512 := Nat.mul_le_mul_left _ hl
  exact (lots_gsA h).tup.mono (by omega) (by omega)
theorem sp_gs {S : Sp2} (h1 : S.1 ≤ 5) (h2 : S.2.length ≤ 32) (h3 : ∀ l ∈ S.2, l.Pairwise (· < ·)) (h4 : ∀ l ∈ S.2, ∀ p ∈ l, p < S.1) : Gs 3 30000 (spD S) := by
  have e : 802 * S.2.length ≤ 802 * 32 := Nat.mul_le_mul_left _ h2
  have k : ∀ l ∈ S.2, Lot5 l := fun l hl => by
    have := len_lt (h3 l hl) (h4 l hl)
    exact ⟨fun p hp => by have := h4 l hl p hp; omega, by omega⟩
  exact ((GsA.cons (gs_nat (by omega)) (GsA.one (lots_gsA k).tup)).tup).mono (by omega) (by omega)
theorem both_gs {S G : Sp2} (hS : OkSp S) (hG : OkSys G) : Gs 4 70000 (.list [spD S, spD G]) := by
  have hn := hG.n
  exact ((GsA.cons (sp_gs hS.le hS.n hS.asc hS.lt) (GsA.one (sp_gs hG.le (by omega) hG.asc hG.lt))).lst).mono (by omega) (by omega)
def leastD (rows : List (List Nat)) : PyData := match rows with | [] => .none | r :: _ => nD r.length
theorem least_gs {G : Sp2} (hG : OkSys G) : Gs 0 10 (leastD (covL G)) := by
  have hn := hG.n
  cases h : covL G with
  | nil => exact gs_none
  | cons r rows =>
    obtain ⟨h1, h2, _⟩ := cov_lot (G := G) (l := r) (by rw [h]; exact List.mem_cons_self)
    have := len_lt h1 h2
    exact gs_nat (by omega)
theorem told4_gs {G : Sp2} (hG : OkSys G) (b : Bool) : Gs 3 420000 (.list [leastD (covL G), lotsD (covL G), .bool b, leastD (covL G)]) := by
  have hn := hG.n
  refine ((GsA.cons (least_gs hG) (GsA.cons (lots_gs (fun l hl => ?_) (covL_len hG)) (GsA.cons gs_bool (GsA.one (least_gs hG))))).lst).mono (by omega) (by omega)
  obtain ⟨h1, h2, _⟩ := cov_lot hl
  have := len_lt h1 h2
  exact ⟨fun p hp => by have := h2 p hp; omega, by omega⟩
def paperT (S G : Sp2) : List PyData := if stays G (numberIn S) [] = true then [.str "borne", treeD G (numberIn S) []] else match covL G with
  | [] => []
  | c :: _ => match (strayIn S).filter (fun l => decide (l.length = c.length)) with
    | [] => []
    | l :: _ => [.str "open", lotD c, lotD (dealtM G c l)]
theorem paper_all {S G : Sp2} (hS : OkSp S) (hG : OkSys G) : 2 ≤ (paperT S G).length ∧ Gs 13 90000 (.tuple (paperT S G)) ∧ dueD S G (.tuple (paperT S G)) = .str (if stays G (numberIn S) [] = true then "borne" else "open") ∧ F_borne_paper [] [.d (spD S), .d (spD G)] (.d (.tuple (paperT S G))) [] := by
  have n5 := number_le hS
  have ne := strays_ne hS
  have gl := hG.le
  have gn := hG.n
  have sl := hS.le
  cases hb : stays G (numberIn S) [] with
  | true =>
    have ho := stays_open.mp hb
    have e : paperT S G = [.str "borne", treeD G (numberIn S) []] := by unfold paperT; rw [if_pos hb]
    rw [e]
    refine ⟨Nat.le_refl _, paper_gs1 hS hG ho, ?_, .mk1 hS hG ne n5 hb ho⟩
    have g : goodO S G (.tuple [.str "borne", treeD G (numberIn S) []]) = true := tree_ok ho
    unfold dueD
    rw [if_pos (by rfl), if_pos g]
    rfl
  | false =>
    have hs := stays_least hG (numberIn S)
    rw [hb] at hs
    cases hc : covL G with
    | nil => rw [hc] at hs; cases hs
    | cons c rows =>
      rw [hc] at hs
      have hcl : ¬ numberIn S < c.length := of_decide_eq_false hs.symm
      obtain ⟨c1, c2, c3⟩ := cov_lot (G := G) (l := c) (by rw [hc]; exact List.mem_cons_self)
      have cpos : 1 ≤ c.length := by
        cases c with
        | nil => exact absurd c3 (bare_nil hG.pos)
        | cons a r => exact Nat.succ_pos _
      obtain ⟨l0, hl0, hl0l⟩ := stray_size hS cpos (by omega)
      have hmem : l0 ∈ (strayIn S).filter fun l => decide (l.length = c.length) := List.mem_filter.mpr ⟨by rw [strays_eq hS]; exact hl0, decide_eq_true hl0l⟩
      cases hf : (strayIn S).filter fun l => decide (l.length = c.length) with
      | nil => rw [hf] at hmem; cases hmem
      | cons l ls =>
        have hl : l ∈ (strayIn S).filter fun l => decide (l.length = c.length) := by rw [hf]; exact List.mem_cons_self
        obtain ⟨hl1, hl2⟩ := List.mem_filter.mp hl
        rw [strays_eq hS] at hl1
        have hll : c.length = l.length := (of_decide_eq_true hl2).symm
        obtain ⟨l1, l2, _, _⟩ := mem_straysL.mp hl1
        have e : paperT S G = [.str "open", lotD c, lotD (dealtM G c l)] := by
          unfold paperT
          rw [if_neg (by rw [hb]; decide), hc]
          simp only [hf]
        have dl := dealt_lt (G := G) c3 hll l2
        have dn := dealt_len G c l
        have ccl := len_lt c1 c2
        rw [e]
        refine ⟨by simp, paper_gs2 (fun p hp => by have := c2 p hp; omega) (by omega) (fun p hp => by have := dl p hp; omega) (by omega), ?_, .mk2 hS hG ne n5 hb (rows := rows) (by rw [← hc]; exact least_ok hG) c2 c3 (by omega) hf⟩
        have en : ∀ l : List Nat, lotN (lotD l) = l := fun l => by
          unfold lotD lotN
          simp only [List.map_map]
          refine (List.map_congr_left fun a _ => ?_).trans (List.map_id l)
          simp [toI]
        have g : goodO S G (.tuple [.str "open", lotD c, lotD (dealtM G c l)]) = true := by
          show (isCov G (lotD c) && (decide ((lotN (lotD c)).length ≤ numberIn S) && isBT S G (lotD (dealtM G c l)))) = true
          have b : isBT S G (lotD (dealtM G c l)) = true := by
            show (decide (((dealtM G c l).map nD).length = G.1) && ((((dealtM G c l).map nD).all fun d => isInt d 0 ((S.1 : Int) - 1)) && (safeIn S G (lotN (lotD (dealtM G c l)))).isEmpty)) = true
            rw [en, safe_eq hS dl, dealt_safe c2 c3 hll hl1, List.length_map, dn, decide_eq_true rfl]
            have : (((dealtM G c l).map nD).all fun d => isInt d 0 ((S.1 : Int) - 1)) = true := List.all_eq_true.mpr fun d hd => by
              obtain ⟨p, hp, rfl⟩ := List.mem_map.mp hd
              exact isInt_nat (dl p hp)
            rw [this]
            rfl
          rw [isCov_lot c1 c2, c3, en, b, decide_eq_true (by omega)]
          rfl
        unfold dueD
        rw [if_pos (by rfl), if_pos g]
        rfl
theorem due_gs (S G : Sp2) (d : PyData) : Gs 1 100 (dueD S G d) := by
  have hw : formOk d = true → wordO d ∈ strsK := fun h => by
    rcases formOk_inv h with ⟨a, rfl⟩ | ⟨a, b, rfl⟩
    · exact (by decide : (Str.ofString "borne") ∈ strsK)
    · exact (by decide : (Str.ofString "open") ∈ strsK)
  unfold dueD
  split
  · rename_i h
    split
    · exact (gs_str (hw h)).mono (by omega) (by omega)
    · exact (GsA.one (gs_str (hw h))).lst.mono (by omega) (by omega)
  · exact (GsA.one (gs_str (z := "form") (by decide))).lst.mono (by omega) (by omega)
theorem least_stays {G : Sp2} (hG : OkSys G) (n : Nat) : (match leastD (covL G) with | .int i => decide ((n : Int) < i) | _ => true) = stays G n [] := by
  rw [stays_least hG n]
  cases covL G with
  | nil => rfl
  | cons r rows =>
    show decide ((n : Int) < ((r.length : Nat) : Int)) = decide (n < r.length)
    rw [decide_eq_decide]
    omega
end SG
set_option Elab.async false
set_option linter.all false
set_option maxRecDepth 100000
set_option maxHeartbeats 4000000
/-! the law's fixed spaces and systems -/
namespace SG
open PySem PySem.Spec PyProof.Rows L2
def E1 : List (List Nat) := [[], [0], [0, 1], [0, 1, 2], [1], [1, 2], [2]]
def E2 : List (List Nat) := [[], [0], [0, 1], [0, 1, 2], [0, 2], [1], [1, 2], [2]]
def S1c : Sp2 := (3, E1)
def S2c : Sp2 := (3, E2)
def G0c : Sp2 := (3, [[0, 1], [0, 2], [1, 2]])
theorem srt_dec {ls ys : List (List Nat)} (h : ((ys.isPerm ls) && decide (ys.Pairwise fun a b => ltN b a = false)) = true) : sortL ls = ys := by
  rw [Bool.and_eq_true, decide_eq_true_eq] at h
  exact (sortL_uniq (List.isPerm_iff.mp h.1) h.2).symm
theorem lots3 : lawLots 3 = E2 := srt_dec (by decide +kernel)
theorem free_eq : madeL 3 (lawLots 3) = S2c := by
  rw [lots3]
  exact congrArg (Prod.mk 3) (srt_dec (by decide +kernel))
theorem line_eq : byRules 3 (lineL 3) = S1c := by
  unfold byRules
  rw [lots3]
  exact congrArg (Prod.mk 3) (srt_dec (by decide +kernel))
theorem ok_line : OkSp S1c := by
  rw [← line_eq]
  exact made_ok (by decide) (by decide) (good_rules line_good.1 line_good.2)
theorem ok_free : OkSp S2c := by
  rw [← free_eq]
  exact made_ok (by decide) (by decide) (good_lots 3)
theorem num_line : numberIn S1c = 2 := by
  unfold numberIn strayIn
  rw [srt_dec (ys := [[0], [0, 1], [0, 2], [1], [1, 2], [2]]) (by decide +kernel)]
  decide
theorem num_free : numberIn S2c = 3 := by
  unfold numberIn strayIn
  rw [srt_dec (ys := [[0], [0, 1], [0, 1, 2], [0, 2], [1], [1, 2], [2]]) (by decide +kernel)]
  decide
def okSysB (G : Sp2) : Bool := decide (1 ≤ G.1) && decide (G.1 ≤ 5) && decide (1 ≤ G.2.length) && decide (G.2.length ≤ 5) && decide (∀ l ∈ G.2, l.Pairwise (· < ·)) && decide (∀ l ∈ G.2, ∀ p ∈ l, p < G.1) && decide (G.2.Pairwise fun a b => ltN a b = true) && decide (G.2.Pairwise fun a b => (∃ p ∈ a, p ∉ b) ∧ ∃ p ∈ b, p ∉ a)
theorem okSys_dec {G : Sp2} (h : okSysB G = true) : OkSys G := by
  unfold okSysB at h
  simp only [Bool.and_eq_true, decide_eq_true_eq] at h
  obtain ⟨⟨⟨⟨⟨⟨⟨h1, h2⟩, h3⟩, h4⟩, h5⟩, h6⟩, h7⟩, h8⟩ := h
  exact ⟨h1, h2, h3, h4, h5, h6, h7, h8⟩
theorem ok_G0 : OkSys G0c := okSys_dec (by decide +kernel)
def some5 : List (Sp2 × PyData) := [((3, [[0], [1], [2]]), nD 3), ((2, [[0], [1]]), nD 2), ((4, [[0], [1], [2], [3]]), nD 4), ((3, [[]]), .none), ((2, [[0, 1]]), nD 1)]
theorem least_dec {G : Sp2} {N : Nat} (h : (decide (bare G (List.range G.2.length) = []) && decide (1 ≤ N) && decide (N ≤ 5) && decide (∀ i ∈ List.range N, 1 ≤ i → stays G i [] = true) && !(stays G N [])) = true) : LeastOk G (coversWith G N) := by
  simp only [Bool.and_eq_true, decide_eq_true_eq, Bool.not_eq_true'] at h
  obtain ⟨⟨⟨⟨h1, h2⟩, h3⟩, h4⟩, h5⟩ := h
  exact .some h1 h2 h3 (fun i a b => h4 i (List.mem_range.mpr b) a) h5
theorem some5_ok : ∀ a ∈ some5, OkSys a.1 ∧ F_reserve [] [.d (spD a.1)] (.d a.2) [] := by
  intro a ha
  unfold some5 at ha
  simp only [List.mem_cons, List.not_mem_nil, or_false] at ha
  rcases ha with rfl | rfl | rfl | rfl | rfl
  · have h : OkSys (3, [[0], [1], [2]]) := okSys_dec (by decide +kernel)
    exact ⟨h, F_reserve.mk h (least_dec (N := 3) (by decide +kernel))⟩
  · have h : OkSys (2, [[0], [1]]) := okSys_dec (by decide +kernel)
    exact ⟨h, F_reserve.mk h (least_dec (N := 2) (by decide +kernel))⟩
  · have h : OkSys (4, [[0], [1], [2], [3]]) := okSys_dec (by decide +kernel)
    exact ⟨h, F_reserve.mk h (least_dec (N := 4) (by decide +kernel))⟩
  · have h : OkSys (3, [[]]) := okSys_dec (by decide +kernel)
    exact ⟨h, F_reserve.mk h (.none (by decide +kernel))⟩
  · have h : OkSys (2, [[0, 1]]) := okSys_dec (by decide +kernel)
    exact ⟨h, F_reserve.mk h (least_dec (N := 1) (by decide +kernel))⟩
theorem dealt_c : lotD (dealtM G0c [0, 1, 2] [0, 1, 2]) = lotD [0, 0, 1] := congrArg lotD (by decide +kernel)
theorem stray_c : strayM (spansM S2c) (mask [0, 1, 2]) = true := by decide +kernel
def sheetD (l : List Nat) : PyData := .tuple [.str "open", lotD [0, 1, 2], lotD l]
theorem lotN_c (l : List Nat) : lotN (lotD l) = l := by
  unfold lotD lotN
  simp only [List.map_map]
  refine (List.map_congr_left fun a _ => ?_).trans (List.map_id l)
  simp [toI]
theorem sheet_gs {l : List Nat} (h : ∀ p ∈ l, p ≤ 100) (h2 : l.length ≤ 60) : Gd (sheetD l) := (paper_gs2 (c := [0, 1, 2]) (by decide) (by decide) h h2).gd (by decide) (by decide)
theorem good_c : goodO S2c G0c (sheetD [0, 1, 2]) = true := by
  show (isCov G0c (lotD [0, 1, 2]) && (decide ((lotN (lotD [0, 1, 2])).length ≤ numberIn S2c) && isBT S2c G0c (lotD [0, 1, 2]))) = true
  have b : isBT S2c G0c (lotD [0, 1, 2]) = true := by
    show (decide ((([0, 1, 2] : List Nat).map nD).length = G0c.1) && (((([0, 1, 2] : List Nat).map nD).all fun d => isInt d 0 ((S2c.1 : Int) - 1)) && (safeIn S2c G0c (lotN (lotD [0, 1, 2]))).isEmpty)) = true
    rw [lotN_c, safe_eq ok_free (told := [0, 1, 2]) (by decide)]
    have : safeL S2c G0c [0, 1, 2] = [] := List.eq_nil_iff_forall_not_mem.mpr fun p hp => by
      obtain ⟨h1, h2⟩ := mem_safeL.mp hp
      have h1 : p < 3 := h1
      have r : ∀ c ∈ G0c.2, p ∈ restM [0, 1, 2] c := fun c hc => by
        have h3 := h2 c hc
        have cl : restM [0, 1, 2] c ∈ S2c.2 := by
          have : ∀ c ∈ G0c.2, restM [0, 1, 2] c ∈ S2c.2 := by
            intro c hc
            have hr : (restM [0, 1, 2] c).Pairwise (· < ·) ∧ ∀ q ∈ restM [0, 1, 2] c, q < 3 := rest_ok (by decide)
            have := lots_iff (n := 3) (l := restM [0, 1, 2] c)
            rw [lots3] at this
            exact this.mpr hr
          exact this c hc
        exact (mem_spanL.mp h3).2 _ cl fun q hq => hq
      have h3 := mem_restM.mp (r [0, 1] (by decide))
      have h4 := mem_restM.mp (r [0, 2] (by decide))
      have h5 := mem_restM.mp (r [1, 2] (by decide))
      obtain ⟨t1, e1, n1⟩ := h3
      obtain ⟨t2, e2, n2⟩ := h4
      have k : ∀ t : Nat, ([0, 1, 2] : List Nat)[t]? = some p → t = p := fun t e => by
        match t, e with
        | 0, e => exact Option.some.inj e
        | 1, e => exact Option.some.inj e
        | 2, e => exact Option.some.inj e
        | t + 3, e => simp at e
      rw [k t1 e1] at n1
      rw [k t2 e2] at n2
      simp only [List.mem_cons, List.not_mem_nil, or_false] at n1 n2
      obtain ⟨t3, e3, n3⟩ := h5
      rw [k t3 e3] at n3
      simp only [List.mem_cons, List.not_mem_nil, or_false] at n3
      omega
    rw [this]
    decide +kernel
  rw [isCov_lot (by decide) (by decide), lotN_c, num_free, b]
  decide +kernel
theorem due_c : dueD S1c G0c (sheetD [0, 0, 2]) = .list [.str "open"] := by
  have g : goodO S1c G0c (sheetD [0, 0, 2]) = false := by
    show (isCov G0c (lotD [0, 1, 2]) && (decide ((lotN (lotD [0, 1, 2])).length ≤ numberIn S1c) && isBT S1c G0c (lotD [0, 0, 2]))) = false
    rw [lotN_c, num_line, show decide (([0, 1, 2] : List Nat).length ≤ 2) = false from rfl, Bool.false_and, Bool.and_false]
  unfold dueD
  rw [if_pos (by rfl), if_neg (by rw [g]; decide)]
  rfl
def row5 (a : Sp2 × PyData) : PyData := .tuple [.bool (stays a.1 2 []), .bool (stays a.1 3 []), a.2]
theorem told5 : PyData.eqv (.list (some5.map row5)) (.list [.tuple [.bool true, .bool false, nD 3], .tuple [.bool false, .bool false, nD 2], .tuple [.bool true, .bool true, nD 4], .tuple [.bool true, .bool true, .none], .tuple [.bool false, .bool false, nD 1]]) = true := by decide +kernel
end SG
set_option Elab.async false
set_option linter.all false
set_option maxRecDepth 100000
set_option maxHeartbeats 4000000
namespace SG
open PySem PySem.Spec PyProof.Rows L2 LamX
/-! one space, one system: all is right -/
/-- a def whose code object is known -/
def DfOkC (K : PySem.W.Frag) (mg : Str → Option Value) (x : Str) (st : Stmt) (c : Addr) : Prop := ∃ (f : Addr) (fd : FuncData), FunD K x x (C8.fnArgs st) (C8.fnBody st) (C8.fnScope st) [] [] f fd ∧ mg x = some (.ref f) ∧ fd.code = .ref c
section
variable {P : Program} {w : World} {K : PySem.W.Frag} {mg : Str → Option Value} {base : Heap} {x : Str} {st : Stmt} {N ps : List Str} {k : Nat} {F : Spec}
theorem FnG.ofC {g : Bool} {CX : CXT} {x qual : Str} {params : Arguments} {body : List Stmt} {scope : Scope} {f c : Addr} {fd : FuncData} {N ps : List Str} {k : Nat} {sp : Sp} (F : FunD K x qual params body scope [] [] f fd) (hc : fd.code = .ref c) (S : FnScope N ps scope) (ln : ∀ vs H Q E, sp vs H Q E → vs.length = ps.length)
    (hb : ∀ (A : Around) (outer : List Env) (s : Shared) (H : Hp) (vs : List V) (Q : VK) (E : XK), Room k (A.deeper (envOfC qual scope s.heap.objs.size f (.ref c))) → (g = true → (A.deeper (envOfC qual scope s.heap.objs.size f (.ref c))).guards = some []) → sp vs H Q E →
      ∃ t, PSs (cxOf CX P w K mg base N qual scope f (.ref c) A outer s H E) body t ∧ t { nx := fun _ H' => Q .non H', rt := Q } (start N vs) H) : FnG P w K mg base g CX (k + 1) f fd ps sp := by
  obtain ⟨oc, od, dV, kV, doc, pm, an, cdv, ct, osl, rfl, lk, hcd, _, _⟩ := F.ex
  have hc : cdv = .ref c := hc
  subst hc
  refine ⟨ln, fun A outer s H args us vs Q E room hg e0 bt rv hsp => ?_⟩
  have kin : K.In s.heap := e0.mod.kin.keeps fun b o e => (e0.bs b o e).1
  have nl : s.heap.NoLimit := e0.mod.nolimit.keeps fun b o e => (e0.bs b o e).1
  refine codeAny_call_function room.depth (kin _ _ lk) rfl S.co S.gen rfl (PySem.W.codeRec_of kin hcd) (bt _ _ _ _ ?_)
  refine wpAny_newFunctionEnv_cells S.kind (fun y hy => ?_) fun env he s1 ic => ?_
  · rcases S.par y.1 (List.of_mem_zip (a := y.1) (b := y.2) hy).1 with q | q
    · exact .inl q
    · exact .inr ⟨q, PySem.W.cellsFrom_some _ _ _ (.inl q)⟩
  subst he
  obtain ⟨t, ht, hq⟩ := hb A outer s H vs Q E (room.deeper _) (fun z => hg z) hsp
  have J := inv_start (CX := CX) (cd := .ref c) (qual := qual) (E := E) (f := f) S room.hd e0 (ln _ _ _ _ hsp) rv ic
  refine ⟨nl.keeps ic.toInCall.keep, codeAny_func (wpAny_mono (ht.run [] s1 (start N vs) H _ J hq) (fun fl s' z => ?_) fun e s' z => z)⟩
  cases fl with
  | next =>
    obtain ⟨σ', H', I', q⟩ := z
    exact ⟨.non, H', I'.os, I'.bare, I'.base, I'.hok, rfl, q⟩
  | ret u =>
    obtain ⟨v, σ', H', I', rv', q⟩ := z
    exact ⟨v, H', I'.os, I'.bare, I'.base, I'.hok, rv', q⟩
  | brk =>
    obtain ⟨_, _, _, q⟩ := z
    cases q
  | cont =>
    obtain ⟨_, _, _, q⟩ := z
    cases q
theorem Fn.ofC {g : Bool} {c : Addr} (D : DfOkC K mg x st c) (S : FnScope N ps (C8.fnScope st)) (hb : BindsF x st ps) (hl : ∀ W rs r W', F W rs r W' → rs.length = ps.length)
    (body : ∀ (f : Addr) (A : Around) (outer : List Env) (s : Shared) (H : Hp) (E : XK), Room k (bX P w K mg base N x st f (.ref c) A outer s H E).A → (g = true → (bX P w K mg base N x st f (.ref c) A outer s H E).A.guards = some []) → ∀ W rs r W', F W rs r W' →
      PSs (bX P w K mg base N x st f (.ref c) A outer s H E) (C8.fnBody st) (oS W (st0 N rs) (.rt r W'))) : Fn P w K mg base g (k + 1) x F := by
  obtain ⟨f, fd, D, hm, hc⟩ := D
  refine ⟨f, fd, ps, FnG.ofC D hc S (fun vs H Q E h => h.1) fun A outer s H vs Q E hr hg h => ?_, hm, D.kp, D.bindsN hb, hl⟩
  obtain ⟨_, Z, W, rs, r, W', hd, hv, hF, hq⟩ := h
  exact ⟨_, PSs.nox (body f A outer s H E hr hg W rs r W' hF), Z, cf_start hd hv, hq⟩
end
section
variable {X : Cx} {a b e : Expr} {es : List Expr} {pos p : Pos} {W W1 W2 L Wc Wc' : List Ow} {ρ : Rho} {r ra rb : Sl} {rs : List Sl} {x : Str} {F : Spec} {kk : Nat}
theorem r_callPG (c : Fn X.prog X.w X.K X.mg X.base true kk x F) (hr : Room kk X.A) (hq : X.A.guards = some []) (ha : PA X (e :: es) (tA W ρ rs L)) (h : F [] rs r []) (hg : Gl X x := by rfl)
    (hdb : (x == ("__debug__" : Str)) = false := by decide) (he : starEach (e :: es) X.env = (false, eval e X.env) :: starEach es X.env := by rfl) (hpl : (backTo pos (starEach es X.env)).any (·.1) = false := by rfl) :
    PE X (.Call (.Name x p) (e :: es) [] pos) (tE W ρ r L) := by
  refine PEto (e_callG (p := p) (pos := pos) (L := L) c h hr (fun _ => hq) (by rw [List.append_nil]; exact ha) hg hdb he hpl) fun σ H Q q => ?_
  rw [List.append_nil]
  exact q
end
section
variable {P : Program} {w : World} {K : PySem.W.Frag} {mg : Str → Option Value} {base : Heap}
theorem reserve_least {G : Sp2} {rows : List (List Nat)} (hG : OkSys G) (lo : LeastOk G rows) : F_reserve [] [.d (spD G)] (.d (leastD rows)) [] := by
  cases rows with
  | nil => exact .mk hG lo
  | cons r t => exact .mk hG lo
inductive F_law_right (Pt : Addr) : Spec
  | mk {A : LAd} {s : LS} {S G : Sp2} (h : OkS 800000 s) (hS : OkSp S) (hG : OkSys G) : F_law_right Pt (.tab Pt "_law_right.<locals>.<lambda>" :: SW A s) [stV A, .d (spD S), .d (spD G)] (B_ true) (.tab Pt "_law_right.<locals>.<lambda>" :: SW A (thingsT S.1 G (paperT S G) s).s)
theorem sc_law_right : FnScope ["_law_state", "_law_space", "_law_system_here", "_law_points", "_law_spans_here", "_law_strays_here", "_law_rows", "_law_kept_so", "_law_height", "_law_least", "_law_is_right", "_law_told", "_law_paper", "_law_thing", "_law_own", "_law_judged_so", "_law_due_here", "_law_lot_here"] ["_law_state", "_law_space", "_law_system_here"] (C8.fnScope s_law_right) := ⟨rfl, rfl, rfl, by decide +kernel, rfl, by decide +kernel, by decide +kernel⟩
theorem bi_law_right : BindsF "_law_right" s_law_right ["_law_state", "_law_space", "_law_system_here"] := fun _ _ _ _ _ _ us hl => match us, hl with | [_, _, _], _ => rfl
theorem f_law_right {C fI c Pt : Addr} (T : Top K mg) (B : BpT P K mg C fI) (D : DfOkC K mg "_law_right" s_law_right c) (TB : TabB base mg c Pt) : Fn P w K mg base true 48 "_law_right" (F_law_right Pt) := by
  refine Fn.ofC (k := 47) D sc_law_right bi_law_right (by rintro _ _ _ _ ⟨⟩; rfl) fun f A outer s H E hr hq W rs r W' hF => ?_
  cases hF with | @mk B0 s0 S G h hS hG =>
  have sle := hS.le
  have spos := hS.pos
  have gle := hG.le
  have gn := hG.n
  have h9 : S.1 ≤ 9 := by omega
  have h91 : G.1 ≤ 9 := by omega
  have h92 : G.2.length ≤ 9 := by omega
  have n5 := number_le hS
  have ne := strays_ne hS
  have eq := strays_eq hS
  have lo := least_ok hG
  obtain ⟨p2, pg, pd, pf⟩ := paper_all hS hG
  have hn : maxL ((straysL S).map List.length) = numberIn S := by rw [← eq]; rfl
  have hsne : straysL S ≠ [] := by rw [← eq]; exact ne
  have hsz : (straysL S).length < sizeLine := by
    refine Nat.lt_of_le_of_lt (List.length_filter_le _ _) ?_
    rw [lots_len]
    exact Nat.lt_of_le_of_lt (p2_le h9) (by decide)
  have bg := both_gs hS hG
  have hq' : (bX P w K mg base ["_law_state", "_law_space", "_law_system_here", "_law_points", "_law_spans_here", "_law_strays_here", "_law_rows", "_law_kept_so", "_law_height", "_law_least", "_law_is_right", "_law_told", "_law_paper", "_law_thing", "_law_own", "_law_judged_so", "_law_due_here", "_law_lot_here"] "_law_right" s_law_right f (.ref c) A outer s H E).A.guards = some [] := hq rfl
  refine h_cons (s_par 3 4 (a_cons (r_ix (e_var 1) e_nat x_sp0) (a_cons (r_callP (f_law_spans T) (hr.mono (by decide)) (a_cons (e_var 1) a_nil) (.mk (by first | assumption | omega | decide))) a_nil)) sc_law_right.nd) ?_
  refine h_cons (s_par3 5 6 7 (a_cons (r_callP (f_law_strays T) (hr.mono (by decide)) (a_cons (e_var 4) (a_cons (e_var 3) a_nil)) (.mk (by first | assumption | omega | decide))) (a_cons (r_callP (f_law_covers T) (hr.mono (by decide)) (a_cons (e_var 2) a_nil) (.mk (by first | assumption | omega | decide) (by first | assumption | omega | decide))) (a_cons (r_calB (a_cons (e_lst2 (a_cons (e_var 1) (a_cons (e_var 2) a_nil))) a_nil) (f_repr hq' hr.units bg (by decide) (by decide)) T.b_repr rfl) a_nil))) sc_law_right.nd) ?_
  refine h_cons (s_set 8 (e_to (I_ (numberIn S : Nat)) (r_calB (a_cons (e_comp (comp_M [("_law_lot_here", 17)] 17 (f := fun l => nD l.length) (xs := straysL S) (i_lst (e_var 5)) sc_law_right.nd (by first | assumption | omega | decide) (fun a ha s H C cl fp => (r_calB (a_cons (e_var 17) a_nil) f_lenN T.b_len rfl)) (fun s H C cl fp => g_nm 17 sc_law_right.nd))) a_nil) (f_maxN hsne) T.b_max rfl) (by rw [hn])) sc_law_right.nd) ?_
  refine h_cons (W1 := .tab Pt "_law_right.<locals>.<lambda>" :: SW B0 s0) (s_set 9 (r := .d (leastD (covL G))) ?_ sc_law_right.nd) ?_
  · cases hc : covL G with
    | nil => exact e_ifF (t_eq (rt_cmp (e_var 6) e_nilL (c_mL0n hr.units (by first | assumption | exact sh_lot | exact sh_nl | exact sh_ll | exact sh_lots | exact sh_int | exact sh_bool | exact sh_none | exact sh_nil | exact sh_nilT | exact sh_ones _))) rfl) e_non
    | cons r rows => exact e_ifT (t_eq (rt_cmp (e_var 6) e_nilL (c_mL0n hr.units (by first | assumption | exact sh_lot | exact sh_nl | exact sh_ll | exact sh_lots | exact sh_int | exact sh_bool | exact sh_none | exact sh_nil | exact sh_nilT | exact sh_ones _))) rfl) (e_to (.d (leastD (r :: rows))) (r_calB (a_cons (r_ix (e_var 6) e_nat (x_lm (ls := r :: rows) (k := 0) (by simp))) a_nil) f_lenN T.b_len rfl) rfl)
  refine h_cons (W1 := .tab Pt "_law_right.<locals>.<lambda>" :: SW B0 s0) (s_set 10 (r := B_ (stays G (numberIn S) [])) ?_ sc_law_right.nd) ?_
  · rw [stays_least hG]
    cases hc : covL G with
    | nil => exact (v_orT (r_cmp (e_var 9) e_non c_isN))
    | cons r rows => exact v_orF (e_eq (r_cmp (e_var 9) e_non c_isN) rfl) (v_one (r_cmp (e_var 9 (r := I_ (r.length : Nat))) (e_var 8) c_gtN))
  have frs : F_reserve [] [.d (spD G)] (.d (leastD (covL G))) [] := reserve_least hG lo
  refine h_cons (s_set 11 (r := .d (.list [leastD (covL G), lotsD (covL G), .bool (stays G (numberIn S) [])])) (e_lst3 (a_cons (r_callP (f_reserve T) (hr.mono (by decide)) (a_cons (e_var 2) a_nil) frs) (a_cons (r_callP (f_least_covers T) (hr.mono (by decide)) (a_cons (e_var 2) a_nil) (.mk hG lo)) (a_cons (r_callP (f_is_borne T) (hr.mono (by decide)) (a_cons (e_var 1) (a_cons (e_var 2) a_nil)) (.mk hS hG ne n5)) a_nil)))) sc_law_right.nd) ?_
  have t4 := told4_gs hG (stays G (numberIn S) [])
  refine h_cons (s_ifF (t_eq (rt_cmp (r_calB (a_cons (e_to (.d (.list [leastD (covL G), lotsD (covL G), .bool (stays G (numberIn S) []), leastD (covL G)])) (r_bin (e_var 11) (e_lst1 (a_cons (r_callP (f_reserve T) (hr.mono (by decide)) (a_cons (e_var 2) a_nil) frs) a_nil)) (b_catL (small_le (by simp)))) rfl) a_nil) (f_repr hq' hr.units t4 (by decide) (by decide)) T.b_repr rfl)
    (r_calB (a_cons (e_lst4 (a_cons (e_var 9) (a_cons (e_to (.d (lotsD (covL G))) (r_calT (a_cons (e_var 6) a_nil) f_tuple T.b_tuple rfl) rfl) (a_cons (e_var 10) (a_cons (e_var 9) a_nil))))) a_nil) (f_repr hq' hr.units t4 (by decide) (by decide)) T.b_repr rfl) c_neS) (by simp)) h_nil) ?_
  refine h_cons (s_set 12 (r_callP (f_borne_paper T) (hr.mono (by decide)) (a_cons (e_var 1) (a_cons (e_var 2) a_nil)) pf) sc_law_right.nd) ?_
  generalize paperT S G = ps at p2 pg pd pf
  have pg60 : Gs 60 1000000 (.tuple ps) := pg.mono (by decide) (by decide)
  refine h_cons (s_ifF (t_eq (rt_cmp (e_to (.d (.str (if stays G (numberIn S) [] = true then "borne" else "open"))) (r_callPG (f_law_due T) (hr.mono (by decide)) hq' (a_cons (e_var 4) (a_cons (e_var 3) (a_cons (e_var 2) (a_cons (e_var 8) (a_cons (e_var 12) a_nil))))) (.mk hS hG pg60)) (by rw [pd]))
    (e_if (r := .d (.str (if stays G (numberIn S) [] = true then "borne" else "open"))) (t_val (e_var 10)) (fun hc => e_to _ e_str (by rw [if_pos hc])) (fun hc => e_to _ e_str (by rw [if_neg (by rw [hc]; decide)]))) c_neS) (by simp)) h_nil) ?_
  refine h_cons (s_ifF (PW.pt (w_orF (t_eq (rt_cmp (r_calB (a_cons (r_callP (f_borne_paper T) (hr.mono (by decide)) (a_cons (e_var 1) (a_cons (e_var 2) a_nil)) pf) a_nil) (f_repr hq' hr.units pg60 (by decide) (by decide)) T.b_repr rfl) (r_calB (a_cons (e_var 12) a_nil) (f_repr hq' hr.units pg60 (by decide) (by decide)) T.b_repr rfl) c_neS) (by simp))
    (w_or1 (t_notF (t_val (r_callP (f_law_told_right T) (hr.mono (by decide)) (a_cons (e_var 4) (a_cons (e_var 3) (a_cons (e_var 2) (a_cons (e_var 10) a_nil)))) (.mk hS hG))))))) h_nil) ?_
  have tg := things_gs (n := S.1) (s := s0) spos sle hG p2 pg
  refine h_cons (s_forI (fun _ => .tab Pt "_law_right.<locals>.<lambda>" :: SW B0 (thingsT S.1 G ps s0).s) (fun _ => [some (stV B0), some (.d (spD S)), some (.d (spD G)), some (I_ (S.1 : Nat)), some (.dt (spansD S)), some (.d (llD (straysL S))), some (.d (llD (covL G))), some (.d (.str (PyData.list [spD S, spD G]).shown)), some (I_ (numberIn S : Nat)), some (.d (leastD (covL G))), some (B_ (stays G (numberIn S) [])), some (.d (.list [leastD (covL G), lotsD (covL G), .bool (stays G (numberIn S) [])])), some (.d (.tuple ps)), none, none, none, none, none]) 13 (xs := (thingsT S.1 G ps s0).ds) (gg := id) (i_lst (e_to (.d (.list ((thingsT S.1 G ps s0).ds.map id))) (r_callS1 (f_law_things T) (hr.mono (by decide)) (a_cons (e_var 0) (a_cons (e_var 3) (a_cons (e_var 2) (a_cons (e_var 12) a_nil)))) (.mk h spos sle hG p2 (pg.mono (by decide) (by decide)))) (by rw [List.map_id]))) sc_law_right.nd (by repeat (first | exact trivial | refine ⟨.inr rfl, ?_⟩ | refine ⟨.inl rfl, ?_⟩)) fun j d hd => ?_) ?_
  · have dg := tg d (List.mem_of_getElem? hd)
    have gd := dg.gd (by decide) (by decide)
    have ug : Gs 60 1000000 (dueD S G d) := (due_gs S G d).mono (by decide) (by decide)
    refine hs_wk (ρ1 := [some (stV B0), some (.d (spD S)), some (.d (spD G)), some (I_ (S.1 : Nat)), some (.dt (spansD S)), some (.d (llD (straysL S))), some (.d (llD (covL G))), some (.d (.str (PyData.list [spD S, spD G]).shown)), some (I_ (numberIn S : Nat)), some (.d (leastD (covL G))), some (B_ (stays G (numberIn S) [])), some (.d (.list [leastD (covL G), lotsD (covL G), .bool (stays G (numberIn S) [])])), some (.d (.tuple ps)), some (.d d), some (.d (.str d.shown)), some (.d (dueD S G d)), some (.d (dueD S G d)), none]) ?_ (by repeat (first | exact trivial | refine ⟨.inr rfl, ?_⟩ | refine ⟨.inl rfl, ?_⟩))
    refine h_cons (s_set 14 (r_calB (a_cons (e_var 13 (r := .d d)) a_nil) (f_repr hq' hr.units dg (by decide) (by decide)) T.b_repr rfl) sc_law_right.nd) ?_
    refine h_cons (s_set 15 (r := .d (dueD S G d)) (e_heard B T.s_law_heard (f_check T B) TB rfl (hr.mono (by decide)) List.mem_cons_self hS hG gd (fun A outer s H E f c' => a_cons (e_var 1) (a_cons (e_var 2) (a_cons (e_var 13) a_nil)))) sc_law_right.nd) ?_
    refine h_cons (s_set 16 (r_callPG (f_law_due T) (hr.mono (by decide)) hq' (a_cons (e_var 4) (a_cons (e_var 3) (a_cons (e_var 2) (a_cons (e_var 8) (a_cons (e_var 13 (r := .d d)) a_nil))))) (.mk hS hG dg)) sc_law_right.nd) ?_
    exact h_one (s_ifF (PW.pt (w_orF (t_eq (rt_cmp (r_calB (a_cons (e_var 15) a_nil) (f_repr hq' hr.units ug (by decide) (by decide)) T.b_repr rfl) (r_calB (a_cons (e_var 16) a_nil) (f_repr hq' hr.units ug (by decide) (by decide)) T.b_repr rfl) c_neS) (by simp))
      (w_or1 (t_eq (rt_cmp (r_calB (a_cons (e_var 13 (r := .d d)) a_nil) (f_repr hq' hr.units dg (by decide) (by decide)) T.b_repr rfl) (e_var 14) c_neS) (by simp))))) h_nil)
  · refine h_one (s_ret (v_andT (e_eq (r_cmp (r_calB (a_cons (e_lst2 (a_cons (e_var 1) (a_cons (e_var 2) a_nil))) a_nil) (f_repr hq' hr.units bg (by decide) (by decide)) T.b_repr rfl) (e_var 7) c_eqS) (by simp)) (v_one (r_callPG (f_law_dealt_right T) (hr.mono (by decide)) hq' (a_cons (e_var 1) (a_cons (e_var 4) (a_cons (e_var 2) (a_cons (e_var 5) a_nil)))) (.mk hS hG)))))
end
end SG
set_option Elab.async false
set_option linter.all false
set_option maxRecDepth 100000
set_option maxHeartbeats 4000000
/-! the law's state is made -/
namespace SG
open PySem PySem.Spec PyProof.Rows L2
def cellsOf (xs : List Int) : List Int := if xs = [] then [0] else xs
def leftOf (c : Int) : Int := if (10 : Int) ^ (18 : Int).toNat ≤ c then c else 0
def newS (xs : List Int) : LS := ⟨cellsOf xs, (cellsOf xs).map leftOf, 0⟩
theorem newS_ok {xs : List Int} (h : xs.length ≤ 63) : OkS 0 (newS xs) := by
  have h1 : 1 ≤ (cellsOf xs).length ∧ (cellsOf xs).length ≤ 63 := by
    unfold cellsOf
    cases xs with
    | nil => exact ⟨Nat.le_refl _, by decide⟩
    | cons x r => exact ⟨Nat.succ_pos _, h⟩
  exact ⟨h1.1, h1.2, by simp [newS], Nat.le_refl _⟩
theorem sqL_same {K : PySem.W.Frag} {H H' : Hp} {a : Addr} {xs : List V} (h : SqL K H a xs) (e : Same H H') : SqL K H' a xs := by
  rcases h with (h | ⟨b, h⟩) | h
  · exact .inl (.inl (e _ _ h))
  · exact .inl (.inr ⟨b, e _ _ h⟩)
  · exact .inr h
theorem dp_ints {K : PySem.W.Frag} {H : Hp} {a : Addr} {xs : List Int} (h : SqL K H a (xs.map V.int)) : Dp K H (.ref a) (.list (xs.map .int)) := .lst h (DaL.dp (F := H) _ _ DaL.ofInts)
theorem sh_ints (xs : List Int) : Sh (.list (xs.map .int)) := by
  have : ∀ xs : List Int, PyData.canLayAll0 (xs.map .int) = true ∧ PyData.depthAll (xs.map .int) = 0 := fun xs => by
    induction xs with
    | nil => simp only [List.map_nil, PyData.canLayAll0, PyData.depthAll]; exact ⟨trivial, trivial⟩
    | cons x r ih => simp only [List.map_cons, PyData.canLayAll0, PyData.depthAll, PyData.canLay0, PyData.depth, ih.1, ih.2]; exact ⟨rfl, rfl⟩
  obtain ⟨h1, h2⟩ := this xs
  exact shaped_iff.mpr ⟨by simp only [PyData.canLay0]; exact h1, by simp only [PyData.depth]; omega⟩
theorem pick_all (l : List PyData) : pick (fun _ => true) (fun j => l.getD j .none) l.length = l := by
  unfold pick
  rw [List.filter_eq_self.mpr fun _ _ => rfl]
  apply List.ext_getElem?
  intro i
  rw [List.getElem?_map]
  by_cases h : i < l.length
  · rw [List.getElem?_range h, Option.map_some, List.getD_eq_getElem?_getD, List.getElem?_eq_getElem h]
    rfl
  · rw [List.getElem?_eq_none (by simpa using h), List.getElem?_eq_none (by omega)]
    rfl
section
variable {X : Cx} {tg iter elt : Expr} {ifs : List Expr} {pos : Pos} {W W1 : List Ow} {ρ : Rho} {ds : List PyData}
/-- a new list: that it is new is told -/
def tNw (W : List Ow) (ρ : Rho) (ds : List PyData) : TE := fun σ H Q => ∃ Z, Cf (Z ++ W) ρ σ H ∧ ∀ D H', Go (Z ++ W) (.lst D ds :: (Z ++ W)) H H' → Hd (.lst D ds :: (Z ++ W)) H' → Q (.ref D) H'
theorem lc_new {t : TG} {vs is : List Nat} {g : PyData → Rho → Rho → Prop} {σ : L2.St} {Q : VK} {f : Nat → PyData} {ρf : Nat → Rho} {J : It} {H1 : Hp} {Z : List Ow}
    (ht : TgS t X.K is g) (his : ∀ i ∈ is, i ∈ vs) (hρ : ∀ i d, ds[i]? = some d → g d (wipeR ρ vs) (ρf i)) (hz : ds.length < sizeLine)
    (c : Cf (Z ++ W) ρ σ H1) (wk : WkD J ds (off (adrs (Z ++ W)) H1)) (k : ∀ D H', Go (Z ++ W) (.lst D (pick (fun _ => true) f ds.length) :: (Z ++ W)) H1 H' → Hd (.lst D (pick (fun _ => true) f ds.length) :: (Z ++ W)) H' → Q (.ref D) H') :
    ∀ D, H1 D = none → ∃ Wi : Nat → Nat → Hp → Prop, (∃ m, Wi 0 m (upd H1 D (.lst []))) ∧ ∀ i m H, Wi i m H →
      (J.stop i H ∧ Q (.ref D) H) ∨ (J.go i H ∧ ∃ Nx : Hp → Prop, (∀ H', Nx H' → ∃ m', m' < m ∧ Wi (i + 1) m' H') ∧ ∀ x H', J.yld i H x H' → t x (L2.wipe σ vs) H' fun σ2 H2 => L2.wipe σ2 vs = L2.wipe σ vs ∧
        (∃ i, i < ds.length ∧ tT W (ρf i) true W σ2 H2 fun b H3 => if b = true then (∃ i, i < ds.length ∧ tE W (ρf i) (.d (f i)) W σ2 H3 fun y H4 => ∃ acc, H4 D = some (.lst acc) ∧ acc.length < sizeLine ∧ Nx (upd H4 D (.lst (acc ++ [y])))) else Nx H3)) := by
  intro D hD
  refine ⟨fun i m H' => m = ds.length - i ∧ i ≤ ds.length ∧ Cf (.lst D (pick (fun _ => true) f i) :: (Z ++ W)) (wipeR ρ vs) (L2.wipe σ vs) H' ∧ Go (Z ++ W) (.lst D (pick (fun _ => true) f i) :: (Z ++ W)) H1 H', ⟨ds.length, by simp, Nat.zero_le _, (c.wipe vs).newLd hD DaL.nil⟩, ?_⟩
  rintro i m H' ⟨rfl, hi, cf, go⟩
  obtain ⟨w1, w2, w3⟩ := wk _ H' cf.hd.lv go.off
  by_cases hlt : i < ds.length
  · refine .inr ⟨w1 i hlt, fun H'' => Cf (.lst D (pick (fun _ => true) f (i + 1)) :: (Z ++ W)) (wipeR ρ vs) (L2.wipe σ vs) H'' ∧ Go (Z ++ W) (.lst D (pick (fun _ => true) f (i + 1)) :: (Z ++ W)) H1 H'', fun H'' ⟨a, b⟩ => ⟨ds.length - (i + 1), by omega, rfl, hlt, a, b⟩, fun x H2 y => ?_⟩
    obtain ⟨d, hd⟩ : ∃ d, ds[i]? = some d := ⟨_, List.getElem?_eq_getElem hlt⟩
    obtain ⟨sm, dx⟩ := w3 i d x H2 hd y
    have cf2 := cf.go (Go.same sm) (cf.hd.same sm)
    have go2 := go.trans (Go.same sm)
    refine ht _ _ _ d x _ H2 _ cf2 dx (hρ i d hd) fun σ' hl hk c3 => ⟨wipe_same his (by rw [hl]) hk, i, hlt, ?_⟩
    refine ⟨.lst D (pick (fun _ => true) f i) :: Z, c3, fun H3 g3 d3 => ?_⟩
    have c4 := cf2.go g3 d3
    have go3 := go2.trans g3
    show if true = true then _ else _
    rw [if_pos rfl]
    refine ⟨i, hlt, .lst D (pick (fun _ => true) f i) :: Z, c3.go g3 d3, fun y H4 g4 d4 q4 => ?_⟩
    have c5 := c4.go g4 d4
    have go4 := go3.trans g4
    obtain ⟨acc, hv1, hv2⟩ := d4.hold (.lst D (pick (fun _ => true) f i)) List.mem_cons_self
    refine ⟨acc, hv1, ?_, ?_⟩
    · rw [hv2.length]
      have := pick_len (fun _ => true) f i
      omega
    · rw [pick_yes (p := fun _ => true) rfl]
      obtain ⟨z1, z2⟩ := Cf.put (a := D) (o := .lst D (pick (fun _ => true) f i)) (ds := pick (fun _ => true) f i ++ [f i]) (vs := acc ++ [y]) rfl c5 (hv2.append (DaL.cons q4 DaL.nil))
      exact ⟨z1, go4.trans z2⟩
  · have e : i = ds.length := by omega
    subst e
    exact .inl ⟨w2, k D H' go cf.hd⟩
/-- a comprehension without a test over own things: its list is new -/
theorem e_compNw {α : Type} {scope : Scope} {x : Str} {px : Pos} (own : List (Str × Nat)) (i : Nat) {xs : List α} {gg : α → PyData} {f : α → PyData} (hi : PI X (.Name x px) iter (tI W ρ (xs.map gg) W)) (hN : X.N.Nodup) (hz : xs.length < sizeLine)
    (helt : ∀ a ∈ xs, ∀ s H C cl fp, PE (Bk X scope s H C cl fp) elt (tE W ((wipeR ρ (own.map (·.2))).set i (some (.d (gg a)))) (.d (f a)) W))
    (hg : ∀ s H C cl fp, PG (Bk X scope s H C cl fp) (.Name x px) (gName i)) (his : i ∈ own.map (·.2) := by decide) (hc : X.calm = true := by rfl) (ok : BlkOk X.N X.env.scope scope own := by exact blkOk_by (by kernel_rfl)) (hs : ∀ x, foldedSetIterable iter X.env x = pure x := by intro _; rfl) :
    PE X (.ListComp elt [⟨.Name x px, iter, [], 0⟩] scope pos) (tNw W ρ (xs.map f)) := by
  have lx : (xs.map gg).length = xs.length := List.length_map _
  have p1 : ∀ s H C cl fp, PTs (Bk X scope s H C cl fp) [] (fun σ H Q => ∃ j, j < (xs.map gg).length ∧ tT W ((wipeR ρ (own.map (·.2))).set i (some (.d ((xs.map gg).getD j .none)))) true W σ H Q) := fun s H C cl fp => ⟨fun pins s' σ H' Q I ⟨j, h1, h2⟩ => s_nil.run pins s' σ H' Q I h2⟩
  have p2 : ∀ s H C cl fp, PE (Bk X scope s H C cl fp) elt (fun σ H Q => ∃ j, j < (xs.map gg).length ∧ tE W ((wipeR ρ (own.map (·.2))).set i (some (.d ((xs.map gg).getD j .none)))) (.d ((xs.map f).getD j .none)) W σ H Q) := fun s H C cl fp => ⟨fun pins s' σ H' Q I ⟨j, h1, h3⟩ => by
    have h1' : j < xs.length := by omega
    have e1 : (xs.map gg).getD j .none = gg xs[j] := by rw [List.getD_eq_getElem?_getD, List.getElem?_map, List.getElem?_eq_getElem h1']; rfl
    have e2 : (xs.map f).getD j .none = f xs[j] := by rw [List.getD_eq_getElem?_getD, List.getElem?_map, List.getElem?_eq_getElem h1']; rfl
    rw [e1, e2] at h3
    exact (helt _ (List.getElem_mem h1') s H C cl fp).run pins s' σ H' Q I h3⟩
  refine PEto (pe_lc hc hN hi ok hg p1 p2 hs) fun σ H Q ⟨Z, c, k⟩ => ?_
  have ep : pick (fun _ => true) (fun j => (xs.map f).getD j .none) (xs.map gg).length = xs.map f := by
    have := pick_all (xs.map f)
    rw [List.length_map] at this
    rw [lx]
    exact this
  refine ⟨Z, c, fun J H1 g1 d1 wk => lc_new (X := X) (is := [i]) (g := gN i) (ds := xs.map gg) (f := fun j => (xs.map f).getD j .none) (ρf := fun j => (wipeR ρ (own.map (·.2))).set i (some (.d ((xs.map gg).getD j .none)))) (tgs_name i) (fun j hj => by rw [List.mem_singleton.mp hj]; exact his) (fun j d e => ?_) (by rw [lx]; exact hz) (c.go g1 d1) wk fun D H' g2 d2 => k D H' (g1.trans (by rw [ep] at g2; exact g2)) (by rw [ep] at d2; exact d2)⟩
  show _ = _
  rw [List.getD_eq_getElem?_getD, e]
  rfl
end
/-- what _law_begin promises: three new objects, all else stays -/
def spB (K : PySem.W.Frag) (xs : List Int) : Sp := fun vs H Q _ => vs.length = 1 ∧ ∃ a, vs = [.ref a] ∧ SqL K H a (xs.map V.int) ∧ ∀ (A : LAd) (H' : Hp), Same H H' → H A.a = none → H A.l = none → H A.c = none → A.a ≠ A.l → A.a ≠ A.c → A.l ≠ A.c →
  H' A.a = some (.dK (stK A 0)) → H' A.l = some (.lst ((newS xs).lefts.map V.int)) → H' A.c = some (.lst ((newS xs).cells.map V.int)) → Q (.ref A.a) H'
structure FnB (P : Program) (w : World) (K : PySem.W.Frag) (mg : Str → Option Value) (base : Heap) (k : Nat) (xs : List Int) : Prop where
  ex : ∃ (f : Addr) (fd : FuncData), FnG P w K mg base false CXn k f fd ["_law_script"] (spB K xs) ∧ mg "_law_begin" = some (.ref f) ∧ PySem.W.keepIn K (.ref f) = true ∧ Binds K fd ["_law_script"] []
section
variable {P : Program} {w : World} {K : PySem.W.Frag} {mg : Str → Option Value} {base : Heap}
theorem sc_law_begin : FnScope ["_law_script", "_law_cells", "_law_cell"] ["_law_script"] (C8.fnScope s_law_begin) := ⟨rfl, rfl, rfl, by decide +kernel, rfl, by decide +kernel, by decide +kernel⟩
theorem bi_law_begin : BindsF "_law_begin" s_law_begin ["_law_script"] := fun _ _ _ _ _ _ us hl => match us, hl with | [_], _ => rfl
theorem cells_da {F : Hp} {c : Addr} {xs : List Int} (h : F c = some (.lst (xs.map V.int))) : Rp F (.d (.list (xs.map .int))) (.ref c) := by
  rw [rp_lst]
  exact ⟨c, _, rfl, h, DaL.ofInts⟩
theorem f_law_begin (T : Top K mg) (xs : List Int) (h63 : xs.length ≤ 63) : FnB P w K mg base 1 xs := by
  obtain ⟨f, fd, D, hm⟩ := T.s_law_begin
  refine ⟨f, fd, FnG.of D sc_law_begin (fun vs H Q E h => h.1) fun cdv A outer s H vs Q E hr hg h => ?_, hm, D.kp, D.bindsN bi_law_begin⟩
  obtain ⟨_, a, rfl, hs, k⟩ := h
  have hz : (cellsOf xs).length < sizeLine := Nat.lt_of_le_of_lt (newS_ok h63).le (by decide)
  -- the return
  have ret : PSs (bX P w K mg base ["_law_script", "_law_cells", "_law_cell"] "_law_begin" s_law_begin f cdv A outer s H E) ((C8.fnBody s_law_begin).drop 1) (fun D σ H1 => ∃ c, σ = [some (.ref a), some (.ref c), none] ∧ H1 c = some (.lst ((cellsOf xs).map V.int)) ∧
      ∀ (A : LAd) (H' : Hp), A.c = c → Same H1 H' → H1 A.a = none → H1 A.l = none → A.a ≠ A.l → H' A.a = some (.dK (stK A 0)) → H' A.l = some (.lst ((newS xs).lefts.map V.int)) → D.rt (.ref A.a) H') := by
    refine PSsto (pss_one (ps_ret (pe_disp (pps_cons pe_str (pe_var (i := 1) rfl (.inl rfl)) (pps_cons (tv := fun σ H Q => ∃ p : Addr, tNw [.raw p (.dK [])] [none, some (.d (.list ((cellsOf xs).map .int))), none] ((cellsOf xs).map fun c => .int (leftOf c)) σ H Q) pe_str
      ⟨fun pins s' σ' H' Q I ⟨p, q⟩ => (e_compNw [("_law_cell", 2)] 2 (xs := cellsOf xs) (gg := .int) (f := fun c => .int (leftOf c)) (i_lst (e_var 1)) sc_law_begin.nd hz (fun c hc s H C cl fp => e_if (r := .d (.int (leftOf c))) (rt_cmp (e_var 2 (r := I_ c)) (r_bin e_int e_int (b_pow ⟨by decide, by decide, by decide⟩)) c_ge) (fun h => e_to _ (e_var 2 (r := I_ c)) (by unfold leftOf; rw [if_pos (of_decide_eq_true h)])) (fun h => e_to _ e_int (by unfold leftOf; rw [if_neg (of_decide_eq_false h)])))
        (fun s H C cl fp => g_nm 2 sc_law_begin.nd)).run pins s' σ' H' Q I q⟩ (pps_cons pe_str pe_int (pps_cons pe_str pe_int pps_nil)))) rfl rfl (by simp) (by simp)))) fun D σ H1 ⟨c, e, h1, k⟩ p hp => ?_
    have cp : c ≠ p := ne_of_none h1 hp
    refine ⟨.ref c, by rw [e]; rfl, p, [], ⟨by rw [e]; rfl, ⟨List.pairwise_singleton _ _, fun o ho => ?_⟩, fun i s q => ?_⟩, fun D' H3 g d => ?_⟩
    · rw [List.mem_singleton.mp ho]
      exact ⟨upd_same, (fun xs z => nomatch z), fun ps z => nomatch z⟩
    · match i, q with
      | 1, q =>
        cases q
        refine ⟨.ref c, by rw [e]; rfl, cells_da ?_⟩
        have nm : c ∉ adrs ([] ++ [Ow.raw p (.dK [])]) := fun m => cp (List.mem_singleton.mp m)
        rw [off_out nm, upd_ne cp]
        exact h1
      | 0, q => cases q
      | 2, q => cases q
      | n + 3, q => simp at q
    · have nd : D' ≠ p := fun z => (List.nodup_cons.mp d.nd).1 (by rw [z]; exact List.mem_cons_self)
      obtain ⟨vs, v1, v2⟩ := d.hold (.lst D' _) List.mem_cons_self
      have ev : vs = (newS xs).lefts.map V.int := by
        have e0 : ((cellsOf xs).map fun c => PyData.int (leftOf c)) = (newS xs).lefts.map .int := by
          show _ = ((cellsOf xs).map leftOf).map PyData.int
          rw [List.map_map]
          rfl
        rw [e0] at v2
        exact v2.ints
      subst ev
      have hD : H1 D' = none := by
        rcases g.fr D' List.mem_cons_self with z | z
        · exact absurd (List.mem_singleton.mp z) nd
        · rwa [upd_ne nd] at z
      have hp3 : H3 p = some (.dK []) := (d.hold (.raw p (.dK [])) (List.mem_cons_of_mem _ List.mem_cons_self)).1
      refine ⟨hp3, stK ⟨p, D', c⟩ 0, rfl, (show 4 ≤ 15 by decide), k ⟨p, D', c⟩ _ rfl (fun b o q => ?_) hp hD nd.symm ?_ ?_⟩
      · have bp : b ≠ p := ne_of_none q hp
        rw [upd_ne bp]
        exact g.kp b o (fun m => bp (List.mem_singleton.mp m)) (by rw [upd_ne bp]; exact q)
      · rw [upd_same]
        rfl
      · rw [upd_ne nd]
        exact v1
  refine ⟨_, PSs.nox (X := cxOf CXn P w K mg base ["_law_script", "_law_cells", "_law_cell"] "_law_begin" (C8.fnScope s_law_begin) f cdv A outer s H E) (pss_cons (ps_set (i := 1) sc_law_begin.nd rfl (.inl rfl) (pe_ifExp (pt_cmpR (op_neD (by have := hr.units; exact this)) (pe_var (i := 0) rfl (.inl rfl)) (pe_lst pa_nil) rfl) (pe_callTy call_list_of rfl T.b_list rfl (pa_cons (pe_var (i := 0) rfl (.inl rfl)) pa_nil)) (pe_lst (pa_cons pe_int pa_nil)))) ret), ?_⟩
  refine ⟨.ref a, rfl, Nat.zero_le _, fun p0 hp0 => ⟨.list (xs.map .int), .list [], dp_ints (sqL_same hs (upd_ext hp0)), .lst (SqL.of upd_same) .nil, sh_ints xs, sh_nil, _, rfl, ?_⟩⟩
  have e1 : (!PyData.eqv (.list (xs.map .int)) (.list [])) = !(xs.map PyData.int).isEmpty := by simp only [PyData.eqv, eqvAll_nil]
  have sm0 : Same H (upd H p0 (.lst [])) := upd_ext hp0
  -- what follows, the cells made
  have fin : ∀ c, upd H p0 (.lst []) c = none → ∀ vs, vs = (cellsOf xs).map V.int → (gName 1 (.ref c) (L2.start ["_law_script", "_law_cells", "_law_cell"] [V.ref a]) (upd (upd H p0 (.lst [])) c (.lst vs)) fun σ H1 => ∃ c, σ = [some (.ref a), some (.ref c), none] ∧ H1 c = some (.lst ((cellsOf xs).map V.int)) ∧
      ∀ (A : LAd) (H' : Hp), A.c = c → Same H1 H' → H1 A.a = none → H1 A.l = none → A.a ≠ A.l → H' A.a = some (.dK (stK A 0)) → H' A.l = some (.lst ((newS xs).lefts.map V.int)) → Q (.ref A.a) H') := fun c hc vs ev => by
    subst ev
    have sm1 : Same (upd H p0 (.lst [])) (upd (upd H p0 (.lst [])) c (.lst ((cellsOf xs).map V.int))) := upd_ext hc
    have none_of : ∀ {H H' : Hp} {b : Addr}, Same H H' → H' b = none → H b = none := fun {H H' b} s e => by
      cases q : H b with
      | none => rfl
      | some o => rw [s b o q] at e; cases e
    refine ⟨c, rfl, upd_same, fun A H' ec sm ha hl n1 h1 h2 => k A H' (fun b o q => sm b o (sm1 b o (sm0 b o q))) (none_of sm0 (none_of sm1 ha)) (none_of sm0 (none_of sm1 hl)) (none_of sm0 (by rw [ec]; exact hc)) n1 ?_ ?_ h1 h2 (sm _ _ (by rw [ec]; exact upd_same))⟩
    · rw [ec]
      exact fun z => ne_of_none (upd_same (H := upd H p0 (.lst [])) (a := c) (o := .lst ((cellsOf xs).map V.int))) ha z.symm
    · rw [ec]
      exact fun z => ne_of_none (upd_same (H := upd H p0 (.lst [])) (a := c) (o := .lst ((cellsOf xs).map V.int))) hl z.symm
  cases xs with
  | nil => exact ⟨by decide, fun c hc => fin c hc _ rfl⟩
  | cons x r => exact ⟨.ref a, rfl, a, _, rfl, .inl (sqL_same hs (upd_ext hp0)), fun c hc => fin c hc _ rfl⟩
end
end SG
set_option Elab.async false
set_option linter.all false
set_option maxRecDepth 100000
set_option maxHeartbeats 4000000
namespace SG
open PySem PySem.Spec PyProof.Rows L2 LamX
/-! the law -/
/-- where the script stands -/
def ScAt (K : PySem.W.Frag) (W : List Ow) (a : Addr) (xs : List Int) : Prop := ∀ Z H, Hd (Z ++ W) H → SqL K H a (xs.map V.int)
section
variable {X : Cx} {e : Expr} {es : List Expr} {pos p px : Pos} {W W1 L : List Ow} {ρ : Rho} {r : Sl} {rs : List Sl} {x : Str} {F : Spec} {kk i : Nat} {u : Ow} {A : LAd} {s s' : LS} {a : Addr} {xs : List Int} {ds : List PyData} {sts : List Stmt} {o : Oc}
theorem r_callL (c : Fn X.prog X.w X.K X.mg X.base false kk x F) (hr : Room kk X.A) (ha : PA X (e :: es) (tA W ρ rs (L ++ u :: SW A s))) (h : F (SW A s) rs r (SW A s')) (hg : Gl X x := by rfl)
    (hdb : (x == ("__debug__" : Str)) = false := by decide) (he : starEach (e :: es) X.env = (false, eval e X.env) :: starEach es X.env := by rfl) (hpl : (backTo pos (starEach es X.env)).any (·.1) = false := by rfl) :
    PE X (.Call (.Name x p) (e :: es) [] pos) (tE W ρ r (L ++ u :: SW A s')) := by
  have e1 : ∀ s : LS, L ++ u :: SW A s = (L ++ [u]) ++ SW A s := fun s => by rw [List.append_assoc]; rfl
  rw [e1] at ha ⊢
  exact e_call (L := L ++ [u]) c h hr ha hg hdb he hpl
theorem e_lenS (hs : ScAt X.K W1 a xs) (ha : PA X [e] (tA W ρ [.v (.ref a)] W1)) (hl : X.mg "len" = none) (hg : Gl X "len" := by rfl) (he : starEach [e] X.env = (false, eval e X.env) :: starEach [] X.env := by rfl) (hpl : (backTo pos (starEach [] X.env)).any (·.1) = false := by rfl) :
    PE X (.Call (.Name "len" p) [e] [] pos) (tE W ρ (I_ (xs.length : Nat)) W1) :=
  PEto (pe_callB call_len_seq hg hl rfl ha (by decide) (by decide) he hpl) fun σ H Q ⟨Z, c, q⟩ => ⟨Z, c, fun vs H1 g1 d1 q1 => by
    obtain ⟨v, rfl, h⟩ := rpl_1 q1
    have h : v = .ref a := h
    subst h
    exact ⟨a, _, rfl, .inl (hs Z H1 d1), q _ H1 g1 d1 (by rw [rp_int, List.length_map])⟩⟩
/-- three new objects are owned -/
theorem own3 {M : List Ow} {H H' : Hp} {n : Nat} {ls cs : List Int} (d : Hd M H) (sm : Same H H') (n1 : H A.a = none) (n2 : H A.l = none) (n3 : H A.c = none) (d1 : A.a ≠ A.l) (d2 : A.a ≠ A.c) (d3 : A.l ≠ A.c)
    (h1 : H' A.a = some (.dK (stK A n))) (h2 : H' A.l = some (.lst (ls.map V.int))) (h3 : H' A.c = some (.lst (cs.map V.int))) : Go M (M ++ SW A ⟨cs, ls, n⟩) H H' ∧ Hd (M ++ SW A ⟨cs, ls, n⟩) H' := by
  have ea : adrs (M ++ SW A ⟨cs, ls, n⟩) = adrs M ++ [A.a, A.l, A.c] := by unfold adrs; rw [List.map_append]; rfl
  have nn : ∀ b ∈ [A.a, A.l, A.c], H b = none := fun b hb => by
    simp only [List.mem_cons, List.not_mem_nil, or_false] at hb
    rcases hb with z | z | z <;> (rw [z]; assumption)
  have sf : Same (off (adrs M) H) (off (adrs (M ++ SW A ⟨cs, ls, n⟩)) H') := fun b o e => by
    obtain ⟨m, h⟩ := off_some e
    rw [ea, off_out]
    · exact sm b o h
    · intro z
      rcases List.mem_append.mp z with z | z
      · exact m z
      · rw [nn b z] at h; cases h
  refine ⟨⟨fun b o _ e => sm b o e, fun b hb => ?_⟩, ⟨?_, fun o ho => ?_⟩⟩
  · rw [ea] at hb
    rcases List.mem_append.mp hb with z | z
    · exact .inl z
    · exact .inr (nn b z)
  · rw [ea]
    refine List.nodup_append.mpr ⟨d.nd, ?_, fun b hb c hc z => ?_⟩
    · simp only [List.nodup_cons, List.mem_cons, List.not_mem_nil, or_false, not_or, not_false_eq_true, List.nodup_nil, and_true]
      exact ⟨⟨d1, d2⟩, d3⟩
    · subst z
      exact d.lv b hb (nn b hc)
  · rcases List.mem_append.mp ho with z | z
    · exact Ow.holds_mono sf sm (d.hold o z)
    · simp only [List.mem_cons, List.not_mem_nil, or_false] at z
      rcases z with z | z | z <;> subst z
      · exact ⟨h1, (fun xs z => nomatch z), fun ps z => nomatch z⟩
      · exact ⟨h2, (fun xs z => nomatch z), fun ps z => nomatch z⟩
      · exact ⟨h3, (fun xs z => nomatch z), fun ps z => nomatch z⟩
theorem pe_begin {k : Nat} (c : FnB X.prog X.w X.K X.mg X.base k xs) (hr : Room k X.A) (hs : ScAt X.K W1 a xs) (ha : PA X [e] (tA W ρ [.v (.ref a)] W1)) (hg : Gl X "_law_begin" := by rfl)
    (he : starEach [e] X.env = (false, eval e X.env) :: starEach [] X.env := by rfl) (hpl : (backTo pos (starEach [] X.env)).any (·.1) = false := by rfl) :
    PE X (.Call (.Name "_law_begin" p) [e] [] pos) (fun σ H Q => ∃ Z, Cf (Z ++ W) ρ σ H ∧ ∀ (A : LAd) H', Go (Z ++ W) (Z ++ (W1 ++ SW A (newS xs))) H H' → Hd (Z ++ (W1 ++ SW A (newS xs))) H' → Q (.ref A.a) H') := by
  obtain ⟨f, fd, F', hm, hk, hb⟩ := c.ex
  refine ⟨fun pins s σ H Q I hq => ?_⟩
  obtain ⟨Z, cf, q⟩ := hq
  refine wpAny_Call_Name_kw (ld_glob I hg hm ?_ (by decide))
  refine PySem.W.callWith_K (h₀ := X.base) I.ok.mod.kin hk (thn (ha.run pos pins s σ H (fun vs H1 => spB X.K xs vs H1 Q fun _ _ _ => False) I ⟨Z, cf, fun vs H1 g1 d1 q1 => ?_⟩) fun us s1 ⟨vs, H1, I1, r1, q1⟩ => ⟨I1.kIn, run_g F' hr (fun z => nomatch z) hb passn I1 r1 q1⟩) he hpl
  obtain ⟨v, rfl, h⟩ := rpl_1 q1
  have h : v = .ref a := h
  subst h
  refine ⟨rfl, a, rfl, hs Z H1 d1, fun A H' sm n1 n2 n3 e1 e2 e3 h1 h2 h3 => ?_⟩
  obtain ⟨g2, d2⟩ := own3 d1 sm n1 n2 n3 e1 e2 e3 h1 h2 h3
  rw [List.append_assoc] at g2 d2
  exact q A H' (g1.trans g2) d2
/-- the law's end: True, whatever stands -/
def oT (W : List Ow) (ρ : Rho) : TS := fun D σ H => ∃ Z, Cf (Z ++ W) ρ σ H ∧ ∀ H', D.rt (.bl true) H'
theorem h_begin {k : Nat} {Wr : LAd → List Ow} (i : Nat) (c : FnB X.prog X.w X.K X.mg X.base k xs) (hr : Room k X.A) (hs : ScAt X.K (L ++ [u]) a xs) (ha : PA X [e] (tA (L ++ [u]) ρ [.v (.ref a)] (L ++ [u]))) (h : ∀ A, PSs X sts (oS (L ++ u :: SW A (newS xs)) (ρ.set i (some (stV A))) (.rt (B_ true) (Wr A)))) (hN : X.N.Nodup) (hg : Gl X "_law_begin" := by rfl)
    (he : starEach [e] X.env = (false, eval e X.env) :: starEach [] X.env := by rfl) (hpl : (backTo pos (starEach [] X.env)).any (·.1) = false := by rfl) {spos : Pos} (hsw : swapsWith (.Call (.Name "_law_begin" p) [e] [] pos) (some (.Name x px)) spos.line X.env = pure false := by rfl) (hi : X.N[i]? = some x := by rfl) (hx : Loc X.env.scope x := by first | exact Or.inl rfl | exact Or.inr rfl)
    (hf : X.fn x = true ∨ X.env.scope.names.lookup x = some .local := by first | exact .inl rfl | exact .inr rfl) : PSs X (.Assign [.Name x px] (.Call (.Name "_law_begin" p) [e] [] pos) spos :: sts) (oT (L ++ [u]) ρ) := by
  have h' : PSs X sts (fun D σ H => ∃ A, oS (L ++ u :: SW A (newS xs)) (ρ.set i (some (stV A))) (.rt (B_ true) (Wr A)) D σ H) := ⟨fun pins s σ H D I ⟨p, q⟩ => (h p).run pins s σ H D I q⟩
  refine PSsto (pss_cons (ps_set hN hi hx (pe_begin c hr hs ha hg he hpl) hsw hf) h') fun D σ H q => ?_
  have eW : ∀ A : LAd, (L ++ [u]) ++ SW A (newS xs) = L ++ u :: SW A (newS xs) := fun A => by rw [List.append_assoc]; rfl
  obtain ⟨Z, c, k⟩ := q
  refine ⟨Z, c, fun A H1 g1 d1 => ?_⟩
  rw [eW] at g1 d1
  exact ⟨A, Z, (c.go g1 d1).set (s := stV A) rfl i, fun v H2 g2 d2 q2 => by
    rw [rp_bl] at q2
    subst q2
    exact k H2⟩
/-- x = [e, ..]: an own list -/
theorem h_lst {lp : Pos} (i : Nat) (ha : PA X es (tA W ρ (ds.map .d) W1)) (hz : ds.length ≤ sizeLine) (h : ∀ p, PSs X sts (oS (.lst p ds :: W1) (ρ.set i (some (.v (.ref p)))) o)) (hN : X.N.Nodup) (hs : swapsWith (.List es lp) (some (.Name x px)) pos.line X.env = pure false := by rfl) (hi : X.N[i]? = some x := by rfl) (hx : Loc X.env.scope x := by first | exact Or.inl rfl | exact Or.inr rfl)
    (hf : X.fn x = true ∨ X.env.scope.names.lookup x = some .local := by first | exact .inl rfl | exact .inr rfl) : PSs X (.Assign [.Name x px] (.List es lp) pos :: sts) (oS W ρ o) := by
  have h' : PSs X sts (fun D σ H => ∃ p, oS (.lst p ds :: W1) (ρ.set i (some (.v (.ref p)))) o D σ H) := ⟨fun pins s σ H D I ⟨p, q⟩ => (h p).run pins s σ H D I q⟩
  refine PSsto (pss_cons (ps_set hN hi hx (pe_lst ha) hs hf) h') fun D σ H q => ?_
  have go : ∀ (Z : List Ow) (H1 : Hp) (vs : List V), Cf (Z ++ W) ρ σ H → Go (Z ++ W) (Z ++ W1) H H1 → Hd (Z ++ W1) H1 → RpL (off (adrs (Z ++ W1)) H1) (ds.map .d) vs → vs.length ≤ sizeLine ∧ ∀ p, H1 p = none →
      Cf (Z ++ .lst p ds :: W1) (ρ.set i (some (.v (.ref p)))) (σ.set i (some (.ref p))) (upd H1 p (.lst vs)) ∧ Go (Z ++ W) (Z ++ .lst p ds :: W1) H (upd H1 p (.lst vs)) := fun Z H1 vs c g1 d1 q1 => by
    refine ⟨by rw [q1.length, List.length_map]; exact hz, fun p hp => ?_⟩
    obtain ⟨c1, g3⟩ := (c.go g1 d1).newLd hp q1.data
    exact ⟨(c1.set (s := .v (.ref p)) rfl i).perm mid.symm, (g1.trans g3).permR mid.symm⟩
  cases o with
  | nx W3 ρ3 =>
    obtain ⟨Z, c, k⟩ := q
    refine ⟨Z, c, fun vs H1 g1 d1 q1 => ?_⟩
    obtain ⟨e5, e6⟩ := go Z H1 vs c g1 d1 q1
    refine ⟨e5, fun p hp => ?_⟩
    obtain ⟨c1, g3⟩ := e6 p hp
    exact ⟨p, Z, c1, fun σ2 H3 g4 c2 => k σ2 H3 (g3.trans g4) c2⟩
  | rt r W3 =>
    obtain ⟨Z, c, k⟩ := q
    refine ⟨Z, c, fun vs H1 g1 d1 q1 => ?_⟩
    obtain ⟨e5, e6⟩ := go Z H1 vs c g1 d1 q1
    refine ⟨e5, fun p hp => ?_⟩
    obtain ⟨c1, g3⟩ := e6 p hp
    exact ⟨p, Z, c1, fun w H3 g4 d4 q4 => k w H3 (g3.trans g4) d4 q4⟩
end
/-! the turns -/
def turn1 (s : LS) : LS := (thingsT (drawn (1 + (draw s 5).1) (draw s 5).2).1.1 (systemS (1 + (draw (drawn (1 + (draw s 5).1) (draw s 5).2).2 5).1) (draw (drawn (1 + (draw s 5).1) (draw s 5).2).2 5).2).1 (paperT (drawn (1 + (draw s 5).1) (draw s 5).2).1 (systemS (1 + (draw (drawn (1 + (draw s 5).1) (draw s 5).2).2 5).1) (draw (drawn (1 + (draw s 5).1) (draw s 5).2).2 5).2).1)
  (systemS (1 + (draw (drawn (1 + (draw s 5).1) (draw s 5).2).2 5).1) (draw (drawn (1 + (draw s 5).1) (draw s 5).2).2 5).2).2).s
def turns (s : LS) : Nat → LS
  | 0 => s
  | j + 1 => turn1 (turns s j)
theorem things_ok {n b : Nat} {G : Sp2} {ps : List PyData} {s : LS} (hG : OkSys G) (h : OkS b s) : OkS (b + 5880) (thingsT n G ps s).s := by
  have gle := hG.le
  have h1 := (rowsT_ok (n := n) (k := G.1) (rows := rows6 G) (t := ⟨base0 ps ++ base1, s, []⟩) h).1
  have h2 := (lapT_ok (ps := ps) h1 12).1
  refine h2.mono ?_
  have : G.1 * 4 * (rows6 G).length ≤ 5 * 4 * 6 := Nat.mul_le_mul (Nat.mul_le_mul_right 4 gle) (rows6_len G)
  omega
theorem turn_ok {b : Nat} {s : LS} (h : OkS b s) : OkS (b + 6000) (turn1 s) := by
  have h1 := draw_ok h 5
  have l1 := draw_lt (s := s) (m := 5) (by decide)
  have h2 := drawn_ok (n := 1 + (draw s 5).1) (by omega) h1
  have h3 := draw_ok h2 5
  have l3 := draw_lt (s := (drawn (1 + (draw s 5).1) (draw s 5).2).2) (m := 5) (by decide)
  have h4 := systemS_ok (n := 1 + (draw (drawn (1 + (draw s 5).1) (draw s 5).2).2 5).1) (by omega) h3
  exact (things_ok (system_good (by omega) (by omega) _) h4).mono (by omega)
theorem turns_ok {b : Nat} {s : LS} (h : OkS b s) : ∀ j, OkS (b + 6000 * j) (turns s j)
  | 0 => h
  | j + 1 => (turn_ok (turns_ok h j)).mono (by omega)
end SG
set_option Elab.async false
set_option linter.all false
set_option maxRecDepth 100000
set_option maxHeartbeats 4000000
namespace SG
open PySem PySem.Spec PyProof.Rows L2 LamX
/-- what the law promises; P1, P2: the tables of code objects of _law_right and of itself -/
def spLaw (K : PySem.W.Frag) (P1 P2 : Addr) : Sp := fun vs H Q _ => vs.length = 1 ∧ ∃ (a : Addr) (xs : List Int), vs = [.ref a] ∧ xs.length ≤ 63 ∧ SqL K H a (xs.map V.int) ∧ H P1 = some (.tbl #[]) ∧ H P2 = some (.tbl #[]) ∧ P1 ≠ P2 ∧ ∀ H', Q (.bl true) H'
theorem sc_own {K : PySem.W.Frag} {H : Hp} {a P1 P2 : Addr} {q1 q2 : Str} {xs : List Int} (hs : SqL K H a (xs.map V.int)) (h1 : H P1 = some (.tbl #[])) (h2 : H P2 = some (.tbl #[])) (hne : P1 ≠ P2) :
    ∃ L0 : List Ow, Hd ((.tab P2 q2 :: L0) ++ [.tab P1 q1]) H ∧ ∀ W H', (∀ o ∈ L0, o ∈ W) → Hd W H' → SqL K H' a (xs.map V.int) := by
  have tb : ∀ {P : Addr} {q : Str} {F : Hp}, H P = some (.tbl #[]) → (Ow.tab P q).holds F H := fun {P q F} h => ⟨#[], h, True.intro, fun pos cv hc => by
    have z : codeAmong pos [] = some cv := hc
    simp [codeAmong] at z⟩
  have one : ∀ u : HO, H a = some u → RawOk u → (∀ H' : Hp, H' a = some u → SqL K H' a (xs.map V.int)) → ∃ L0 : List Ow, Hd ((.tab P2 q2 :: L0) ++ [.tab P1 q1]) H ∧ ∀ W H', (∀ o ∈ L0, o ∈ W) → Hd W H' → SqL K H' a (xs.map V.int) := fun u hu ok k => by
    have n1 : a ≠ P1 := fun z => by rw [z, h1] at hu; cases hu; exact ok.2 _ rfl
    have n2 : a ≠ P2 := fun z => by rw [z, h2] at hu; cases hu; exact ok.2 _ rfl
    refine ⟨[.raw a u], ⟨?_, fun o ho => ?_⟩, fun W H' hm hd => k H' (hd.hold _ (hm _ List.mem_cons_self)).1⟩
    · show [P2, a, P1].Nodup
      simp only [List.nodup_cons, List.mem_cons, List.not_mem_nil, or_false, not_or, not_false_eq_true, List.nodup_nil, and_true]
      exact ⟨⟨n2.symm, hne.symm⟩, n1⟩
    · simp only [List.cons_append, List.nil_append, List.mem_cons, List.not_mem_nil, or_false] at ho
      rcases ho with rfl | rfl | rfl
      · exact tb h2
      · exact ⟨hu, ok⟩
      · exact tb h1
  rcases hs with (h | ⟨b, h⟩) | h
  · exact one _ h ⟨(fun xs z => nomatch z), fun ps z => nomatch z⟩ fun H' e => .inl (.inl e)
  · exact one _ h ⟨(fun xs z => nomatch z), fun ps z => nomatch z⟩ fun H' e => .inl (.inr ⟨b, e⟩)
  · refine ⟨[], ⟨?_, fun o ho => ?_⟩, fun W H' hm hd => .inr h⟩
    · show [P2, P1].Nodup
      simp only [List.nodup_cons, List.mem_cons, List.not_mem_nil, or_false, not_or, not_false_eq_true, List.nodup_nil, and_true]
      exact hne.symm
    · simp only [List.cons_append, List.nil_append, List.mem_cons, List.not_mem_nil, or_false] at ho
      rcases ho with rfl | rfl
      · exact tb h2
      · exact tb h1
section
variable {P : Program} {w : World} {K : PySem.W.Frag} {mg : Str → Option Value} {base : Heap}
theorem sc_law : FnScope ["_law_script", "_law_state", "_law_turn", "_law_space", "_law_line_here", "_law_free", "_law_some", "_law_all_pairs", "_law_sheet", "_law_told", "_law_one"] ["_law_script"] (C8.fnScope s_law) := ⟨rfl, rfl, rfl, by decide +kernel, rfl, by decide +kernel, by decide +kernel⟩
theorem bi_law : BindsF "law" s_law ["_law_script"] := fun _ _ _ _ _ _ us hl => match us, hl with | [_], _ => rfl
theorem f_law {C fI c1 c2 P1 P2 f : Addr} {fd : FuncData} (T : Top K mg) (B : BpT P K mg C fI) (D1 : DfOkC K mg "_law_right" s_law_right c1) (TB1 : TabB base mg c1 P1) (D : FunD K "law" "law" (C8.fnArgs s_law) (C8.fnBody s_law) (C8.fnScope s_law) [] [] f fd) (hc : fd.code = .ref c2) (TB2 : TabB base mg c2 P2) :
    FnG P w K mg base true CXn 49 f fd ["_law_script"] (spLaw K P1 P2) := by
  refine FnG.ofC (k := 48) D hc sc_law (fun vs H Q E h => h.1) fun A0 outer s H vs Q E hr hg h => ?_
  obtain ⟨_, a, xs, rfl, h63, hs, t1, t2, hne, k⟩ := h
  obtain ⟨L0, d0, hL0⟩ := sc_own (q1 := "_law_right.<locals>.<lambda>") (q2 := "law.<locals>.<lambda>") hs t1 t2 hne
  generalize hL : Ow.tab P2 "law.<locals>.<lambda>" :: L0 = L at d0
  generalize hu : Ow.tab P1 "_law_right.<locals>.<lambda>" = u at d0
  have sc : ∀ R : List Ow, ScAt K (L ++ R) a xs := fun R Z H' hd => hL0 _ H' (fun o ho => List.mem_append_right _ (List.mem_append_left _ (by rw [← hL]; exact List.mem_cons_of_mem _ ho))) hd
  have memL : ∀ R : List Ow, Ow.tab P2 "law.<locals>.<lambda>" ∈ L ++ R := fun R => List.mem_append_left _ (by rw [← hL]; exact List.mem_cons_self)
  have hq : (bX P w K mg base ["_law_script", "_law_state", "_law_turn", "_law_space", "_law_line_here", "_law_free", "_law_some", "_law_all_pairs", "_law_sheet", "_law_told", "_law_one"] "law" s_law f (.ref c2) A0 outer s H E).A.guards = some [] := hg rfl
  have ok0 := newS_ok h63
  suffices body : ∃ Wr : LAd → List Ow, ∀ A : LAd, PSs (bX P w K mg base ["_law_script", "_law_state", "_law_turn", "_law_space", "_law_line_here", "_law_free", "_law_some", "_law_all_pairs", "_law_sheet", "_law_told", "_law_one"] "law" s_law f (.ref c2) A0 outer s H E) ((C8.fnBody s_law).drop 1) (oS (L ++ u :: SW A (newS xs)) ((st0 ["_law_script", "_law_state", "_law_turn", "_law_space", "_law_line_here", "_law_free", "_law_some", "_law_all_pairs", "_law_sheet", "_law_told", "_law_one"] [.v (.ref a)]).set 1 (some (stV A))) (.rt (B_ true) (Wr A))) by
    obtain ⟨Wr, body⟩ := body
    refine ⟨_, PSs.nox (h_begin (X := bX P w K mg base ["_law_script", "_law_state", "_law_turn", "_law_space", "_law_line_here", "_law_free", "_law_some", "_law_all_pairs", "_law_sheet", "_law_told", "_law_one"] "law" s_law f (.ref c2) A0 outer s H E) (Wr := Wr) 1 (f_law_begin T xs h63) (hr.mono (by decide)) (sc [u]) (a_cons (e_var 0) a_nil) body sc_law.nd), ?_⟩
    exact ⟨[], cf_start (rs := [.v (.ref a)]) d0 ⟨_, _, rfl, rfl, rfl⟩, k⟩
  have hlen : xs.length < sizeLine := Nat.lt_of_le_of_lt h63 (by decide)
  have hm7 : ∀ n : Nat, (if (7 : Int) < (n : Int) then (7 : Int) else (n : Int)) = ((min n 7 : Nat) : Int) := fun n => by
    split <;> omega
  generalize hn : 3 + min xs.length 7 = n
  have n10 : n ≤ 10 := by omega
  refine ⟨fun A => L ++ u :: SW A (turns (newS xs) n), fun A => ?_⟩
  have hr48 : Room 48 (bX P w K mg base ["_law_script", "_law_state", "_law_turn", "_law_space", "_law_line_here", "_law_free", "_law_some", "_law_all_pairs", "_law_sheet", "_law_told", "_law_one"] "law" s_law f (.ref c2) A0 outer s H E).A := hr
  refine h_cons (s_forI (fun j => L ++ u :: SW A (turns (newS xs) j)) (fun _ => [some (.v (.ref a)), some (stV A), none, none, none, none, none, none, none, none, none]) 2 (xs := List.range n) (gg := nD) (i_rgN T.b_range (a_cons (e_to (I_ (n : Nat)) (r_bin e_nat (e_to (I_ ((min xs.length 7 : Nat) : Int)) (r_calB (a_cons (e_lenS (sc _) (a_cons (e_var 0) a_nil) T.b_len) (a_cons e_nat a_nil)) (f_min2 rfl) T.b_min rfl) (congrArg (fun i => I_ i) (hm7 xs.length))) b_addN) (by rw [hn])) a_nil) (by omega)) sc_law.nd (by repeat (first | exact trivial | refine ⟨.inr rfl, ?_⟩ | refine ⟨.inl rfl, ?_⟩)) fun j d hd => ?_) ?_
  · have hj : j < n := by
      have := (List.getElem?_eq_some_iff.mp hd).1
      rwa [List.length_range] at this
    have ok1 : OkS 700000 (turns (newS xs) j) := (turns_ok ok0 j).mono (by omega)
    show PSs _ _ (oS _ _ (.nx (L ++ u :: SW A (turn1 (turns (newS xs) j))) _))
    generalize turns (newS xs) j = s1 at ok1
    have o1 := draw_ok ok1 5
    have l1 := draw_lt (s := s1) (m := 5) (by decide)
    have o2 := drawn_ok (n := 1 + (draw s1 5).1) (by omega) o1
    have hS := drawn_good (n := 1 + (draw s1 5).1) (by omega) (by omega) (draw s1 5).2
    have o3 := draw_ok o2 5
    have l3 := draw_lt (s := (drawn (1 + (draw s1 5).1) (draw s1 5).2).2) (m := 5) (by decide)
    have o4 := systemS_ok (n := 1 + (draw (drawn (1 + (draw s1 5).1) (draw s1 5).2).2 5).1) (by omega) o3
    have hG := system_good (n := 1 + (draw (drawn (1 + (draw s1 5).1) (draw s1 5).2).2 5).1) (by omega) (by omega) (draw (drawn (1 + (draw s1 5).1) (draw s1 5).2).2 5).2
    refine hs_wk (ρ1 := [some (.v (.ref a)), some (stV A), some (.d (nD d)), some (.d (spD (drawn (1 + (draw s1 5).1) (draw s1 5).2).1)), none, none, none, none, none, none, none]) ?_ (by repeat (first | exact trivial | refine ⟨.inr rfl, ?_⟩ | refine ⟨.inl rfl, ?_⟩))
    refine h_cons (s_set 3 (r_callL (f_law_drawn T) (hr48.mono (by decide)) (a_cons (e_var 1) (a_cons (r_bin e_nat (r_callL (f_law_draw T) (hr48.mono (by decide)) (a_cons (e_var 1) (a_cons e_nat a_nil)) (.mk (m := 5) (ok1.mono (by decide)) (by decide) (by decide))) b_addN) a_nil)) (.mk (n := 1 + (draw s1 5).1) (o1.mono (by decide)) (by omega) (by omega))) sc_law.nd) ?_
    refine h_one (s_ifF (t_notF (t_val (e_callG (L := L) (f_law_right T B D1 TB1) (by rw [← hu]; exact .mk (o4.mono (by decide)) hS hG) hr48 (fun _ => hq) (a_cons (e_var 1) (a_cons (e_var 3) (a_cons (r_callL (f_law_system T) (hr48.mono (by decide)) (a_cons (e_var 1) (a_cons (r_bin e_nat (r_callL (f_law_draw T) (hr48.mono (by decide)) (a_cons (e_var 1) (a_cons e_nat a_nil)) (.mk (m := 5) (o2.mono (by decide)) (by decide) (by decide))) b_addN) a_nil)) (.mk (n := 1 + (draw (drawn (1 + (draw s1 5).1) (draw s1 5).2).2 5).1) (o3.mono (by decide)) (by omega) (by omega))) a_nil)))))) h_nil)
  rw [List.length_range]
  have mW := memL (u :: SW A (turns (newS xs) n))
  show PSs _ _ (oS (L ++ u :: SW A (turns (newS xs) n)) _ (.rt (B_ true) (L ++ u :: SW A (turns (newS xs) n))))
  generalize L ++ u :: SW A (turns (newS xs) n) = W at mW
  have hS1 := ok_line
  have hS2 := ok_free
  have hG0 := ok_G0
  refine h_cons (s_unpack 4 5 (e_tup2 (a_cons (e_to (.d (spD S1c)) (r_callP (f_law_by_rules T) (hr48.mono (by decide)) (a_cons e_nat (a_cons (r_callP (f_law_line T) (hr48.mono (by decide)) (a_cons e_nat a_nil) (.mk (n := 3) (by decide))) a_nil)) (.mk (n := 3) (given := lineL 3) (by decide) (by decide) (by decide))) (by rw [line_eq]))
    (a_cons (e_to (.d (spD S2c)) (r_callP (f_law_made T) (hr48.mono (by decide)) (a_cons e_nat (a_cons (r_callP (f_law_lots T) (hr48.mono (by decide)) (a_cons e_nat a_nil) (.mk (n := 3) (by decide))) a_nil)) (.mk (n := 3) (ls := lawLots 3) (by rw [lots3]; decide))) (by rw [free_eq])) a_nil))) (g_pr 4 5 sc_law.nd)) ?_
  refine h_cons (s_set 6 (e_to (.d (.list (some5.map fun a => spD a.1))) (e_lst (a_cons (e_tup2 (a_cons e_nat (a_cons (e_tup3 (a_cons (e_tup1 (a_cons e_nat a_nil)) (a_cons (e_tup1 (a_cons e_nat a_nil)) (a_cons (e_tup1 (a_cons e_nat a_nil)) a_nil)))) a_nil))) (a_cons (e_tup2 (a_cons e_nat (a_cons (e_tup2 (a_cons (e_tup1 (a_cons e_nat a_nil)) (a_cons (e_tup1 (a_cons e_nat a_nil)) a_nil))) a_nil))) (a_cons (e_tup2 (a_cons e_nat (a_cons (e_tup4 (a_cons (e_tup1 (a_cons e_nat a_nil)) (a_cons (e_tup1 (a_cons e_nat a_nil)) (a_cons (e_tup1 (a_cons e_nat a_nil)) (a_cons (e_tup1 (a_cons e_nat a_nil)) a_nil))))) a_nil))) (a_cons (e_tup2 (a_cons e_nat (a_cons (e_tup1 (a_cons e_nilT a_nil)) a_nil))) (a_cons (e_tup2 (a_cons e_nat (a_cons (e_tup1 (a_cons (e_tup2 (a_cons e_nat (a_cons e_nat a_nil))) a_nil)) a_nil))) a_nil)))))) rfl) sc_law.nd) ?_
  refine h_cons (s_unpack 7 8 (d1 := spD G0c) (d2 := sheetD [0, 1, 2]) (e_to (.d (.tuple [spD G0c, sheetD [0, 1, 2]])) (e_tup2 (a_cons (e_tup2 (a_cons e_nat (a_cons (e_tup3 (a_cons (e_tup2 (a_cons e_nat (a_cons e_nat a_nil))) (a_cons (e_tup2 (a_cons e_nat (a_cons e_nat a_nil))) (a_cons (e_tup2 (a_cons e_nat (a_cons e_nat a_nil))) a_nil)))) a_nil))) (a_cons (e_tup3 (a_cons e_str (a_cons (e_tup3 (a_cons e_nat (a_cons e_nat (a_cons e_nat a_nil)))) (a_cons (e_tup3 (a_cons e_nat (a_cons e_nat (a_cons e_nat a_nil)))) a_nil)))) a_nil))) rfl) (g_pr 7 8 sc_law.nd)) ?_
  refine h_lst 9 (ds := [lotD [0, 0, 1], .str "open"]) (a_cons (e_to (.d (lotD [0, 0, 1])) (r_callP (f_dealt T) (hr48.mono (by decide)) (a_cons (e_var 5) (a_cons (e_var 7) (a_cons (e_to (.d (lotD [0, 1, 2])) (e_tup3 (a_cons e_nat (a_cons e_nat (a_cons e_nat a_nil)))) rfl) (a_cons (e_to (.d (lotD [0, 1, 2])) (e_tup3 (a_cons e_nat (a_cons e_nat (a_cons e_nat a_nil)))) rfl) a_nil)))) (.mk (S := S2c) (G := G0c) hS2 hG0 (by decide) (by decide) (by decide +kernel) (by decide) (by decide) (by decide) stray_c)) (by rw [dealt_c]))
    (a_cons (x_callOk (Wx := fun _ _ _ _ => False) (x_call (f_check T B) (hr48.mono (by decide)) L2.takes0 (a_cons (e_var 5) (a_cons (e_var 7) (a_cons (e_var 8) a_nil)))) (.mk (d := sheetD [0, 1, 2]) hS2 hG0 (strays_ne hS2) (number_le hS2) (sheet_gs (by decide) (by decide)) rfl good_c)) a_nil)) (by decide) (fun p => ?_) sc_law.nd
  refine h_cons (s_append 9 (e_to (.d (.list [.str "open"])) (e_heard B T.s_law_heard (f_check T B) TB2 rfl (hr48.mono (by decide)) (List.mem_cons_of_mem _ mW) hS1 hG0 (sheet_gs (l := [0, 0, 2]) (by decide) (by decide)) (fun A outer s H E f c' => a_cons (e_var 4) (a_cons (e_var 7) (a_cons (e_to (.d (sheetD [0, 0, 2])) (e_tup3 (a_cons e_str (a_cons (e_tup3 (a_cons e_nat (a_cons e_nat (a_cons e_nat a_nil)))) (a_cons (e_tup3 (a_cons e_nat (a_cons e_nat (a_cons e_nat a_nil)))) a_nil)))) rfl) a_nil)))) (by rw [due_c])) (by decide)) ?_
  refine h_frz 9 ?_
  refine h_cons (s_ifF (t_eq (rt_cmp (e_var 9 (r := .d (.list [lotD [0, 0, 1], .str "open", .list [.str "open"]]))) (e_to (.d (.list [lotD [0, 0, 1], .str "open", .list [.str "open"]])) (e_lst3 (a_cons (e_tup3 (a_cons e_nat (a_cons e_nat (a_cons e_nat a_nil)))) (a_cons e_str (a_cons (e_lst1 (a_cons e_str a_nil)) a_nil)))) rfl) (c_neD hr.units (by decide +kernel) (by decide +kernel))) (by decide +kernel)) h_nil) ?_
  have n1 := number_le hS1
  have n2 := number_le hS2
  refine h_cons (s_setC 9 (comp_M [("_law_one", 10)] 10 (f := row5) (xs := some5) (gg := fun a => spD a.1) (i_lst (e_var 6)) sc_law.nd (by decide) (fun a ha s H C cl fp => e_to (.d (row5 a)) (e_tup3 (a_cons (e_to (B_ (stays a.1 2 [])) (r_callP (f_is_borne T) (hr48.mono (by decide)) (a_cons (e_var 4) (a_cons (e_var 10 (r := .d (spD a.1))) a_nil)) (.mk hS1 (some5_ok a ha).1 (strays_ne hS1) n1)) (by rw [num_line]))
    (a_cons (e_to (B_ (stays a.1 3 [])) (r_callP (f_is_borne T) (hr48.mono (by decide)) (a_cons (e_var 5) (a_cons (e_var 10 (r := .d (spD a.1))) a_nil)) (.mk hS2 (some5_ok a ha).1 (strays_ne hS2) n2)) (by rw [num_free])) (a_cons (r_callP (f_reserve T) (hr48.mono (by decide)) (a_cons (e_var 10 (r := .d (spD a.1))) a_nil) (some5_ok a ha).2) a_nil)))) rfl) (fun s H C cl fp => g_nm 10 sc_law.nd))) ?_
  exact h_one (s_ret (e_to (B_ true) (r_cmp (e_var 9 (r := .d (.list (some5.map row5)))) (e_to (.d (.list [.tuple [.bool true, .bool false, nD 3], .tuple [.bool false, .bool false, nD 2], .tuple [.bool true, .bool true, nD 4], .tuple [.bool true, .bool true, .none], .tuple [.bool false, .bool false, nD 1]])) (e_lst (a_cons (e_tup3 (a_cons e_bl (a_cons e_bl (a_cons e_nat a_nil)))) (a_cons (e_tup3 (a_cons e_bl (a_cons e_bl (a_cons e_nat a_nil)))) (a_cons (e_tup3 (a_cons e_bl (a_cons e_bl (a_cons e_nat a_nil)))) (a_cons (e_tup3 (a_cons e_bl (a_cons e_bl (a_cons e_non a_nil)))) (a_cons (e_tup3 (a_cons e_bl (a_cons e_bl (a_cons e_nat a_nil)))) a_nil)))))) rfl) (c_eqD hr.units (by decide +kernel) (by decide +kernel))) (by rw [told5])))
end
end SG
set_option Elab.async false
set_option linter.all false
set_option maxRecDepth 100000
set_option maxHeartbeats 4000000
/-! the end: nothing is being told around the law, two tables may grow -/
namespace SG
open PySem PySem.Spec PyProof.Rows L2 LamX
open Hd
theorem bpT_of {K : PySem.W.Frag} {mg : Str → Option Value} (gC : mg "BadPaper" = some (.ref (bpC K))) (ex : exB0 K = true) (e : fnV K (bpF K) = fnVal) : BpT PySem.Challenge.pw_safeground_k15_whole_covers K mg (bpC K) (bpF K) := by
  unfold exB0 at ex
  simp only [Bool.and_eq_true, decide_eq_true_eq] at ex
  obtain ⟨⟨⟨⟨⟨⟨⟨⟨⟨⟨⟨⟨⟨⟨⟨⟨⟨h1, h2⟩, h3⟩, h4⟩, h5⟩, h6⟩, h7⟩, h8⟩, h9⟩, h10⟩, h11⟩, h12⟩, h13⟩, h14⟩, h15⟩, h16⟩, h17⟩, h18⟩ := ex
  exact ⟨gC, clsB_ok h1, He.eqO_ok h2, He.eqO_ok h3, He.eqO_ok h4, He.eqO_ok h5, He.eqO_ok h6, h7, h8, h9, h10, h11, h12, h13, He.eqO_ok h14, He.eqO_ok h15, He.eqO_ok h16, h17, by kernel_rfl, fnB_ok h18 e⟩
def scrO (vs : List Value) : Obj := { cls := .type "list", data := .seq vs.toArray }
def tabO : Obj := { cls := .none, data := .fields #[] }
/-- what is tracked at the start: the two tables; the script, where the frag does not hold it -/
def endH (K : PySem.W.Frag) (a P1 P2 : Addr) (vs : List Value) (ns : List Int) : Hp := fun b =>
  if b = P1 ∨ b = P2 then some (.tbl #[]) else if b = a ∧ (K.lookup a).isNone = true then some (.frz (scrO vs) (.lst (ns.map V.int))) else none
section
variable {P : Program} {w : World} {K : PySem.W.Frag} {mg mb : Str → Option Value} {k : Nat} {fa a P1 P2 c1 c2 : Addr} {fd : FuncData} {x : Str} {sp : Sp} {s₁ : Shared} {vs : List Value} {ns : List Int}
theorem endH_cases {b : Addr} {u : HO} (h : endH K a P1 P2 vs ns b = some u) : ((b = P1 ∨ b = P2) ∧ u = .tbl #[]) ∨ (b = a ∧ (K.lookup a).isNone = true ∧ u = .frz (scrO vs) (.lst (ns.map V.int))) := by
  unfold endH at h
  split at h
  · rename_i q
    cases h
    exact .inl ⟨q, rfl⟩
  · split at h
    · rename_i q
      cases h
      exact .inr ⟨q.1, q.2, rfl⟩
    · cases h
theorem law_end (KX : K.In s₁.heap) (hns : s₁.heap.Ns mainGlobals mg) (hb : s₁.heap.Ns builtinsNs mb) (hbb : ∀ x : Str, x ≠ "__name__" → mb x = bootBuiltins x) (hlim : s₁.heap.NoLimit) (hg : s₁.gens = #[])
    (t1 : s₁.heap.get? P1 = some tabO) (t2 : s₁.heap.get? P2 = some tabO) (n1 : K.lookup P1 = none) (n2 : K.lookup P2 = none) (e1 : PySem.W.codeHdIn K c1 P1 = true) (e2 : PySem.W.codeHdIn K c2 P2 = true)
    (hbm : ∃ (bm : Addr) (ob : Obj), mg "__builtins__" = some (.ref bm) ∧ bm ≠ builtinsNs ∧ s₁.heap.get? bm = some ob ∧ ob.cls = .type "module" ∧ ob.dict = some builtinsNs ∧ ob.data = .plain)
    (ha : s₁.heap.get? a = some (scrO vs)) (hi : IntsAre vs ns) (hl : ns.length ≤ sizeLine) (hr : Room k callerA)
    (F : ∀ base : Heap, K.In base → base.Ns mainGlobals mg → TabB base mg c1 P1 → TabB base mg c2 P2 → FnG P w K mg base true CXn k fa fd [x] sp) (hbind : ∀ (s : Shared) (u : Value), BindsTo s fd ⟨[u], []⟩ [(x, u)])
    (hsp : ∀ H : Hp, H P1 = some (.tbl #[]) → H P2 = some (.tbl #[]) → SqL K H a (ns.map V.int) → sp [.ref a] H (fun v _ => v = .bl true) fun _ _ _ => False) :
    codeAny (model P w) callerA (.call (.ref fa) ⟨[.ref a], []⟩) (fun r s' => r = .ok (.ret (.bool true)) ∧ OldK s₁.heap s'.heap ∧ s'.os = s₁.os ∧ AllBare s'.gens) s₁ := by
  have rv := vals_ints hi
  have lenV := hi.length
  have tT : ∀ b, (b = P1 ∨ b = P2) → s₁.heap.get? b = some tabO := fun b q => by
    rcases q with q | q <;> (rw [q]; assumption)
  have nT : ∀ b, (b = P1 ∨ b = P2) → K.lookup b = none := fun b q => by
    rcases q with q | q <;> (rw [q]; assumption)
  have aT : ¬ (a = P1 ∨ a = P2) := fun q => by
    have z := (tT a q).symm.trans ha
    have z' : Data.fields #[] = Data.seq vs.toArray _ := congrArg Obj.data (Option.some.inj z)
    cases z'
  generalize hH : endH K a P1 P2 vs ns = H
  have cs : ∀ {b : Addr} {u : HO}, H b = some u → ((b = P1 ∨ b = P2) ∧ u = .tbl #[]) ∨ (b = a ∧ (K.lookup a).isNone = true ∧ u = .frz (scrO vs) (.lst (ns.map V.int))) := fun {b u} q => endH_cases (by rw [hH]; exact q)
  have H1 : H P1 = some (.tbl #[]) := by rw [← hH]; exact if_pos (.inl rfl)
  have H2 : H P2 = some (.tbl #[]) := by rw [← hH]; exact if_pos (.inr rfl)
  -- what is tracked is a table or the script
  have notT : ∀ {b : Addr} {o : Obj}, s₁.heap.get? b = some o → (∀ vs n, o.data ≠ .seq vs n) → o.data ≠ .fields #[] → H b = none := fun {b o} e h1 h2 => by
    cases q : H b with
    | none => rfl
    | some u =>
      rcases cs q with ⟨z, _⟩ | ⟨z, _, _⟩
      · rw [tT b z] at e
        cases e
        exact (h2 rfl).elim
      · rw [z, ha] at e
        cases e
        exact (h1 _ _ rfl).elim
  have dict : ∀ {b : Addr} {o : Obj} {es : Array DictEntry} {ep : Nat}, s₁.heap.get? b = some o → o.data = .dict es ep → H b = none := fun {b o es ep} e d => notT e (fun vs n z => by rw [d] at z; cases z) (fun z => by rw [d] at z; cases z)
  have nsK : ∀ {b : Addr} {m : Str → Option Value}, s₁.heap.Ns b m → (hidT s₁.heap H).Ns b m := fun {b m} ⟨o, es, ep, e, d, r⟩ => ⟨o, es, ep, hidT_get e (dict e d), d, r⟩
  have KB : K.In (hidT s₁.heap H) := fun b o e => hidT_get (KX b o e) (by
    cases q : H b with
    | none => rfl
    | some u =>
      rcases cs q with ⟨z, _⟩ | ⟨z, y, _⟩
      · rw [nT b z] at e; cases e
      · rw [z] at e
        rw [e] at y
        cases y)
  have hM : L2.Mod K mg (hidT s₁.heap H) := ⟨KB, nsK hns, ⟨mb, nsK hb, hbb⟩, let ⟨mc, h1, h2⟩ := hlim; ⟨mc, nsK h1, h2⟩⟩
  have notG : ∀ b, (b = P1 ∨ b = P2) → mainGlobals ≠ b := fun b q z => by
    obtain ⟨o, es, ep, e, hd, _⟩ := hns
    rw [z, tT b q] at e
    cases e
    cases hd
  have tb : ∀ {c p : Addr}, (p = P1 ∨ p = P2) → PySem.W.codeHdIn K c p = true → TabB (hidT s₁.heap H) mg c p := fun {c p} hp he => by
    refine ⟨PySem.W.codeHd_of_K KB he, ?_, notG p hp⟩
    obtain ⟨bm, ob, b1, b2, b3, b4, b5, b6⟩ := hbm
    have nG : bm ≠ mainGlobals := fun q => by
      obtain ⟨o, es, ep, e, hd, _⟩ := hns
      rw [q, e] at b3
      cases b3
      rw [hd] at b6
      cases b6
    have nP : bm ≠ p := fun q => by
      rw [q, tT p hp] at b3
      cases b3
      cases b6
    exact ⟨bm, ob, b1, b2, nG, nP, hidT_get b3 (notT b3 (fun vs n z => by rw [b6] at z; cases z) (fun z => by rw [b6] at z; cases z)), b4, b5, b6⟩
  have hok : HOk P w H s₁.heap := fun b u q => by
    rcases cs q with ⟨z, y⟩ | ⟨z, _, y⟩
    · rw [y]
      exact tT b z
    · rw [y, z]
      exact ⟨ha, by rw [List.length_map]; exact hl, vs, _, rv, ha⟩
  have hS : SqL K H a (ns.map V.int) := by
    cases q : K.lookup a with
    | none => exact .inl (.inr ⟨scrO vs, by rw [← hH]; unfold endH; rw [if_neg aT, if_pos ⟨rfl, by rw [q]; rfl⟩]⟩)
    | some o =>
      have e := KX a o q
      rw [ha] at e
      cases e
      exact .inr ⟨_, vs.toArray, _, q, rfl, rfl, rfl, by rw [List.size_toArray, lenV]; exact hl, by simpa using rv⟩
  have e0 : Env0 P w K mg (hidT s₁.heap H) callerA [] s₁ H := ⟨rfl, hM, fun b o e => of_hidT e, Nat.le_of_eq (hidT_size _ _), trivial, fun b hb => absurd (show b ∈ ([] : List Addr) from hb) (by simp), hok, .of_eq hg⟩
  refine codeAny_mono ((F _ KB (nsK hns) (tb (.inl rfl) e1) (tb (.inr rfl) e2)).go callerA [] s₁ H ⟨[.ref a], []⟩ [.ref a] [.ref a] _ _ hr (fun _ => rfl) e0 (hbind s₁ (.ref a)) (.cons rfl .nil) (hsp H H1 H2 hS)) fun r s' h => ?_
  match r, h with
  | .error e, h => exact False.elim h
  | .ok .next, h => exact False.elim h
  | .ok .brk, h => exact False.elim h
  | .ok .cont, h => exact False.elim h
  | .ok (.ret u), h =>
    obtain ⟨v, H', os, bare, un, hok', r', q⟩ := h
    have q' : v = .bl true := q
    subst q'
    obtain rfl : u = Value.bool true := r'
    have grown : ∀ b, (b = P1 ∨ b = P2) → ∃ more : Array Value, s'.heap.get? b = some { cls := .none, data := .fields more } := fun b hb => by
      have hHb : H b = some (.tbl #[]) := by rcases hb with z | z <;> (rw [z]; assumption)
      obtain ⟨more, z⟩ := un.tbls b #[] hHb
      exact ⟨_, hok' b _ z⟩
    have stay : ∀ b o, ¬ (b = P1 ∨ b = P2) → s₁.heap.get? b = some o → s'.heap.get? b = some o := fun b o nb e => by
      cases q : H b with
      | none => exact un.keep b o e q (by intro z; exact absurd (show b ∈ ([] : List Addr) from z) (by simp)) (by simp)
      | some u =>
        rcases cs q with ⟨z, _⟩ | ⟨z, _, y⟩
        · exact absurd z nb
        · rw [y] at q
          have z2 := un.frzs b _ _ q
          obtain ⟨f1, _⟩ := hok' b _ z2
          rw [z, ha] at e
          cases e
          exact f1
    have isC : ∀ b, (b = P1 ∨ b = P2) → isCodeTable s₁.heap b := fun b hb => by
      rcases hb with z | z
      · rw [z]; exact ((PySem.W.codeHd_of_K KX e1).tab t1).isCodeTable
      · rw [z]; exact ((PySem.W.codeHd_of_K KX e2).tab t2).isCodeTable
    refine ⟨rfl, ⟨fun b o e => ?_, fun b o e => ?_⟩, os, bare⟩
    · by_cases hb : b = P1 ∨ b = P2
      · obtain ⟨more, hm⟩ := grown b hb
        rw [tT b hb] at e
        cases e
        exact .inr (.inl ⟨isC b hb, rfl, #[], more, rfl, by rw [Array.empty_append]; exact hm⟩)
      · exact .inl (stay b o hb e)
    · by_cases hb : b = P1 ∨ b = P2
      · obtain ⟨more, hm⟩ := grown b hb
        exact ⟨_, hm⟩
      · exact ⟨o, stay b o hb e⟩
end
end SG
set_option Elab.async false
set_option linter.all false
set_option maxRecDepth 100000
set_option maxHeartbeats 0
/-! the names, as the head tells them; the law holds -/
namespace SG
open PySem PySem.Spec PyProof.Rows L2 LamX Hd
theorem top_of {K : PySem.W.Frag} {h : Heap} {mg : Str → Option Value} (X : K.In h) (G : h.Ns mainGlobals mg) (c : He.SaysD faL fnL K) : Top K mg := by
  have df : ∀ (i : Nat) (x : Str) (s : Stmt), fnL[i]? = some (mkD x s) → faL[i]? = some (.glo x) → DfOk K mg x s := fun i x s h1 h2 => by
    obtain ⟨fd, F⟩ := c.def_ i h1
    exact ⟨_, fd, F, He.glo_ok X G (c.fact i h2)⟩
  exact ⟨df 0 "is_integer" s_is_integer rfl rfl,
    df 1 "is_lot" s_is_lot rfl rfl,
    df 2 "mask_of" s_mask_of rfl rfl,
    df 3 "lot_by" s_lot_by rfl rfl,
    df 4 "masks_of" s_masks_of rfl rfl,
    df 5 "span_by" s_span_by rfl rfl,
    df 6 "spans_of" s_spans_of rfl rfl,
    df 7 "need_space" s_need_space rfl rfl,
    df 8 "need_form" s_need_form rfl rfl,
    df 9 "core_by" s_core_by rfl rfl,
    df 10 "is_stray_by" s_is_stray_by rfl rfl,
    df 11 "stray_in" s_stray_in rfl rfl,
    df 12 "number_in" s_number_in rfl rfl,
    df 13 "has_all" s_has_all rfl rfl,
    df 14 "need_system" s_need_system rfl rfl,
    df 15 "rest_of" s_rest_of rfl rfl,
    df 16 "rests_of" s_rests_of rfl rfl,
    df 17 "safe_by" s_safe_by rfl rfl,
    df 18 "safe_in" s_safe_in rfl rfl,
    df 19 "bare_tellers" s_bare_tellers rfl rfl,
    df 20 "covers_with" s_covers_with rfl rfl,
    df 21 "least_in" s_least_in rfl rfl,
    df 22 "does_stay_bare" s_does_stay_bare rfl rfl,
    df 23 "reserve" s_reserve rfl rfl,
    df 24 "least_covers" s_least_covers rfl rfl,
    df 25 "is_borne" s_is_borne rfl rfl,
    df 26 "tree_of" s_tree_of rfl rfl,
    df 27 "dealt_by" s_dealt_by rfl rfl,
    df 28 "borne_paper" s_borne_paper rfl rfl,
    df 29 "is_tree" s_is_tree rfl rfl,
    df 30 "is_cover" s_is_cover rfl rfl,
    df 31 "is_bare_told" s_is_bare_told rfl rfl,
    df 32 "check_borne" s_check_borne rfl rfl,
    df 33 "dealt" s_dealt rfl rfl,
    df 34 "_law_mixed" s_law_mixed rfl rfl,
    df 35 "_law_begin" s_law_begin rfl rfl,
    df 36 "_law_draw" s_law_draw rfl rfl,
    df 37 "_law_of" s_law_of rfl rfl,
    df 38 "_law_lots" s_law_lots rfl rfl,
    df 39 "_law_common" s_law_common rfl rfl,
    df 40 "_law_has" s_law_has rfl rfl,
    df 41 "_law_span" s_law_span rfl rfl,
    df 42 "_law_made" s_law_made rfl rfl,
    df 43 "_law_met" s_law_met rfl rfl,
    df 44 "_law_by_rules" s_law_by_rules rfl rfl,
    df 45 "_law_lot" s_law_lot rfl rfl,
    df 46 "_law_line" s_law_line rfl rfl,
    df 47 "_law_drawn" s_law_drawn rfl rfl,
    df 48 "_law_spans" s_law_spans rfl rfl,
    df 49 "_law_without" s_law_without rfl rfl,
    df 50 "_law_core" s_law_core rfl rfl,
    df 51 "_law_strays" s_law_strays rfl rfl,
    df 52 "_law_heard" s_law_heard rfl rfl,
    df 53 "_law_is_int" s_law_is_int rfl rfl,
    df 54 "_law_is_lot" s_law_is_lot rfl rfl,
    df 55 "_law_bent" s_law_bent rfl rfl,
    df 56 "_law_system" s_law_system rfl rfl,
    df 57 "_law_rest" s_law_rest rfl rfl,
    df 58 "_law_safe" s_law_safe rfl rfl,
    df 59 "_law_all_told" s_law_all_told rfl rfl,
    df 60 "_law_is_cover" s_law_is_cover rfl rfl,
    df 61 "_law_all_covers" s_law_all_covers rfl rfl,
    df 62 "_law_covers" s_law_covers rfl rfl,
    df 63 "_law_is_tree" s_law_is_tree rfl rfl,
    df 64 "_law_are_told" s_law_are_told rfl rfl,
    df 65 "_law_due" s_law_due rfl rfl,
    df 66 "_law_things" s_law_things rfl rfl,
    df 67 "_law_dealt_right" s_law_dealt_right rfl rfl,
    df 68 "_law_told_right" s_law_told_right rfl rfl,
    df 69 "_law_right" s_law_right rfl rfl,
    df 70 "law" s_law rfl rfl,
    He.free_ok X G (c.fact 77 (f := .free "ValueError") rfl),
    He.free_ok X G (c.fact 78 (f := .free "all") rfl),
    He.free_ok X G (c.fact 79 (f := .free "any") rfl),
    He.free_ok X G (c.fact 80 (f := .free "bool") rfl),
    He.free_ok X G (c.fact 81 (f := .free "dict") rfl),
    He.free_ok X G (c.fact 82 (f := .free "enumerate") rfl),
    He.free_ok X G (c.fact 83 (f := .free "int") rfl),
    He.free_ok X G (c.fact 84 (f := .free "isinstance") rfl),
    He.free_ok X G (c.fact 85 (f := .free "len") rfl),
    He.free_ok X G (c.fact 86 (f := .free "list") rfl),
    He.free_ok X G (c.fact 87 (f := .free "max") rfl),
    He.free_ok X G (c.fact 88 (f := .free "min") rfl),
    He.free_ok X G (c.fact 89 (f := .free "range") rfl),
    He.free_ok X G (c.fact 90 (f := .free "repr") rfl),
    He.free_ok X G (c.fact 91 (f := .free "set") rfl),
    He.free_ok X G (c.fact 92 (f := .free "sorted") rfl),
    He.free_ok X G (c.fact 93 (f := .free "str") rfl),
    He.free_ok X G (c.fact 94 (f := .free "sum") rfl),
    He.free_ok X G (c.fact 95 (f := .free "super") rfl),
    He.free_ok X G (c.fact 96 (f := .free "tuple") rfl),
    He.free_ok X G (c.fact 97 (f := .free "zip") rfl),
    He.int_ok X G (c.fact 98 (f := .int "MOST_POINTS" 9) rfl),
    He.int_ok X G (c.fact 99 (f := .int "MOST_TELLERS" 8) rfl),
    He.int_ok X G (c.fact 100 (f := .int "MOST_GANGS" 70) rfl),
    He.str_ok X G (c.fact 101 (f := .str "BORNE" "borne") rfl),
    He.str_ok X G (c.fact 102 (f := .str "OPEN" "open") rfl)⟩
/-- a def's code object stands where the head tells it -/
theorem code_at {K : PySem.W.Frag} {x : Str} {s : Stmt} {fd : FuncData} (F : FunD K x x (C8.fnArgs s) (C8.fnBody s) (C8.fnScope s) [] [] (He.ga K x) fd) : fd.code = .ref (He.cT K (x, none)).1 := by
  obtain ⟨oc, od, dV, kV, doc, pm, an, cdv, ct, osl, rfl, lk, hcd, _, _⟩ := F.ex
  obtain ⟨c, rfl⟩ := He.codeIn_ref hcd
  show Value.ref c = .ref (He.codeOf K (x, none))
  rw [He.codeOf_eq (p := (x, none)) lk rfl]
theorem law_walk {q : Program} {loose : List Str} {XP : (Str → Option Value) → Heap → Prop} {d : DefRec} (hdf : d.params.defaults = []) (hn : d.name = "law") :
    PySem.W.WalkO q loose XP hk.says (PySem.W.OpenLaw.row PySem.Challenge.rw_safeground_k15_whole_covers).toRowW d [] (fun f vs => PySem.call f vs) := by
  refine Att.attach_callB (l := PySem.Challenge.rw_safeground_k15_whole_covers) (n := 63) rfl hdf fun w s₀ s₁ mg mb fa o pm cd doc a vs ns G Y ho hd hcd hmg hobj hints hlen hbits hg => ?_
  obtain ⟨K, KX, c⟩ := Y
  have gg := G.T.g
  have T : Top K mg := top_of KX gg c.x.t.d
  obtain ⟨fd, F⟩ := c.x.t.d.def_ 70 (d := mkD "law" s_law) rfl
  obtain ⟨fr, Fr⟩ := c.x.t.d.def_ 69 (d := mkD "_law_right" s_law_right) rfl
  replace F : FunD K "law" "law" (C8.fnArgs s_law) (C8.fnBody s_law) (C8.fnScope s_law) [] [] (He.ga K "law") fd := F
  replace Fr : FunD K "_law_right" "_law_right" (C8.fnArgs s_law_right) (C8.fnBody s_law_right) (C8.fnScope s_law_right) [] [] (He.ga K "_law_right") fr := Fr
  have gl := He.glo_ok KX gg (c.x.t.d.fact 70 (f := .glo "law") rfl)
  have gr := He.glo_ok KX gg (c.x.t.d.fact 69 (f := .glo "_law_right") rfl)
  have gb := He.glo_ok KX gg (c.x.t.d.fact 73 (f := .glo "BadPaper") rfl)
  rw [hn] at hmg
  have e := hmg.symm.trans gl
  cases e
  obtain ⟨x1, x2⟩ := He.ba c.x.more
  have B : BpT PySem.Challenge.pw_safeground_k15_whole_covers K mg (bpC K) (bpF K) := bpT_of gb x1 c.f
  have hne := of_decide_eq_true x2
  have p1 : (("_law_right", none) : He.Defn) ∈ tfL := List.mem_cons_self
  have p2 : (("law", none) : He.Defn) ∈ tfL := List.mem_cons_of_mem _ List.mem_cons_self
  have b := FunD.bindsA (ps := ["_law_script"]) F bi_law
  exact law_end (sp := spLaw K (He.cT K ("_law_right", none)).2 (He.cT K ("law", none)).2) (k := 49) KX gg G.T.b G.T.builtins G.T.nolimit hg (c.x.empty _ p1) (c.x.empty _ p2) (c.x.out _ p1) (c.x.out _ p2) (c.x.hd _ p1) (c.x.hd _ p2) G.T.bmain hobj hints (Nat.le_trans hlen (by decide)) ⟨rfl, by decide, by decide⟩
    (fun base X2 G2 TB1 TB2 => f_law (P := PySem.Challenge.pw_safeground_k15_whole_covers) (w := w) T B ⟨_, fr, Fr, gr, code_at Fr⟩ TB1 F (code_at F) TB2) (fun s v => b s [v] rfl) (fun H h1 h2 hs => ⟨rfl, a, ns, rfl, hlen, hs, h1, h2, hne, fun _ => rfl⟩)
end SG
open PySem PySem.W PySem.Calls PyProof.Rows
theorem PySem.Challenge.cw_safeground_k15_whole_covers_holds : PySem.Challenge.rw_safeground_k15_whole_covers.Holds := by
  w_on; o_law
  refine HandSHeadRun.head_any (r := OpenLaw.row PySem.Challenge.rw_safeground_k15_whole_covers) (q := view (OpenLaw.row PySem.Challenge.rw_safeground_k15_whole_covers).prog [87]) (H := SG.Hd.hk) (ob := SG.Hd.ob) (M := 20000) (loose := SG.Hd.names) (d := HandSHeadRun.topDef (OpenLaw.row PySem.Challenge.rw_safeground_k15_whole_covers).prog 87) (kwd := []) SG.Hd.ob_eq
    (by kernel_rfl) (fun s => by kernel_rfl) SG.Hd.run (by kernel_rfl) (by kernel_rfl) (by kernel_rfl) (by rfl) (by first | assumption | decide +kernel) (by decide +kernel) ⟨rfl, rfl, rfl, rfl, rfl, by decide +kernel⟩ ?hw ?hc
  case hw => w_witness2
  case hc => exact SG.law_walk (by kernel_rfl) (by kernel_rfl)
