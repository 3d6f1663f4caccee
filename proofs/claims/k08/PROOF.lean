import PyProof.Rows.All
import Wide.All
import OpenK.AllK
import Wide.FinOn
import KE.KStateDown
import HandS.ForMost
import HandS.Flow
import HandS.Style
import HandS.Conv
import HandS.Deep
import HandS.TupAny
import HandS.Star
import HandS.Walk
import HandS.Defaults
import KE.KDictKeyed
import KE.KeyNested
import KE.GoesMore
import KE.GoesEnum
import HandS.SortInts
import HandS.SortRule
import HandS.WordsDict
import PyProof.ListStr
import KE.KDictSum
import HandS.More
import KE.KDictCopyH
import KE.KSortTupG
import PyProof.TupleOfSeq
import HandS.Words
import HandS.Dict
import HandS.WordsExc
import HandS.Head0
import HandS.Head1
import HandS.Head2
import HandS.HeadEnd
import HandS.HeadHook1
import HandS.HeadHook2
import PySem.Challenge.RW_walksbeside_k08_partners_and_modes_witho
set_option Elab.async false
set_option linter.all false
set_option maxRecDepth 100000
set_option maxHeartbeats 8000000
set_option autoImplicit false
/-! The pure layer, part 0: data, what stands for what, the frame's relation. -/
namespace R
open PySem PySem.Spec PyProof.Rows L2

/-- a value of the pure layer: data; the i-th drawing source; the script -/
inductive PV where
  | d (x : PyData) | src (i : Nat) | scr
inductive Slot where
  | emp | val (v : PV) | own (d : PyData)
abbrev Ev := List Slot
structure Rng where
  a : Addr
  l : Addr
def Zad (Z : List Rng) (a : Addr) : Prop := ∃ z ∈ Z, a = z.a ∨ a = z.l
/-- what may be changed, or is kept for the callers -/
def UU (P : Addr → Prop) (O : List Addr) (Z : List Rng) (a : Addr) : Prop := P a ∨ a ∈ O ∨ Zad Z a

structure Ct where
  K : PySem.W.Frag
  P : Program
  w : World
def KTup (K : Ct) (a : Addr) (xs : List V) : Prop :=
  ∃ (o : Obj) (its : Array Value) (n : Nat), K.K.lookup a = some o ∧ o.cls = .type "tuple" ∧ o.data = .seq its n ∧ its.size ≤ sizeLine ∧ Vals xs its.toList
/-- a key of a plain dict as data -/
def kD : Key → PyData
  | .inl i => .int i
  | .inr x => .str x
mutual
/-- the key of a nested dict: none, numbers, texts, tuples of these -/
def nk : PyData → Option NestedKey
  | .none => some .none
  | .int i => some (.num i)
  | .str x => some (.text x)
  | .tuple ds => (nkAll ds).map .tup
  | _ => none
def nkAll : List PyData → Option (List NestedKey)
  | [] => some []
  | d :: ds => match nk d, nkAll ds with
    | some k, some ks => some (k :: ks)
    | _, _ => none
end
/-- a dict whose keys are nested tuples, as its object has it -/
def ndFact (K : Ct) (a : Addr) (xs : List (NestedKey × Addr × V)) (h : Heap) : Prop :=
  ∃ vs : List (NestedKey × Addr × Value), Paired (fun x y => x.1 = y.1 ∧ x.2.1 = y.2.1 ∧ RelV x.2.2 y.2.2) xs vs ∧ (a == sysModules) = false ∧
    ∃ o es ep, h.get? a = some o ∧ o.ExactDict ∧ o.data = .dict es ep ∧ es.toList = vs.map (entryOfKey (nestedKind K.P K.w)) ∧ (vs.map (·.1)).Nodup
def ndHO (K : Ct) (a : Addr) (xs : List (NestedKey × Addr × V)) : HO := .ext (ndFact K a xs)
mutual
inductive Rp (K : Ct) (U : Addr → Prop) (H : Hp) : V → PyData → Prop
  | non : Rp K U H .non .none
  | bl (b : Bool) : Rp K U H (.bl b) (.bool b)
  | int (i : Int) : Rp K U H (.int i) (.int i)
  | str (x : Str) : Rp K U H (.str x) (.str x)
  | lst {a : Addr} {xs : List V} {ds : List PyData} : ¬ U a → H a = some (.lst xs) → xs.length ≤ sizeLine → RpAll K U H xs ds → Rp K U H (.ref a) (.list ds)
  | tup {a : Addr} {xs : List V} {ds : List PyData} : (¬ U a ∧ Rd H a (.tup xs)) ∨ KTup K a xs → xs.length ≤ sizeLine → RpAll K U H xs ds → Rp K U H (.ref a) (.tuple ds)
  | dct {a : Addr} {kvs : List (Key × V)} {ds : List (PyData × PyData)} : ¬ U a → H a = some (.dK kvs) → kvs.length ≤ sizeLine → RpKv K U H kvs ds → Rp K U H (.ref a) (.dict ds)
  | dcn {a : Addr} {xs : List (NestedKey × Addr × V)} {ds : List (PyData × PyData)} : xs ≠ [] → ¬ U a → H a = some (ndHO K a xs) → xs.length ≤ sizeLine → RpNk K U H xs ds → Rp K U H (.ref a) (.dict ds)
inductive RpAll (K : Ct) (U : Addr → Prop) (H : Hp) : List V → List PyData → Prop
  | nil : RpAll K U H [] []
  | cons {v : V} {vs : List V} {d : PyData} {ds : List PyData} : Rp K U H v d → RpAll K U H vs ds → RpAll K U H (v :: vs) (d :: ds)
inductive RpKv (K : Ct) (U : Addr → Prop) (H : Hp) : List (Key × V) → List (PyData × PyData) → Prop
  | nil : RpKv K U H [] []
  | cons {k : Key} {v : V} {kvs : List (Key × V)} {d : PyData} {ds : List (PyData × PyData)} : Rp K U H v d → RpKv K U H kvs ds → RpKv K U H ((k, v) :: kvs) ((kD k, d) :: ds)
inductive RpNk (K : Ct) (U : Addr → Prop) (H : Hp) : List (NestedKey × Addr × V) → List (PyData × PyData) → Prop
  | nil : RpNk K U H [] []
  | cons {k : NestedKey} {b : Addr} {v : V} {xs : List (NestedKey × Addr × V)} {e d : PyData} {ds : List (PyData × PyData)} : Rp K U H (.ref b) e → nk e = some k → k.depth ≤ 8 → Rp K U H v d → RpNk K U H xs ds → RpNk K U H ((k, b, v) :: xs) ((e, d) :: ds)
end
section
variable {K : Ct} {U U' : Addr → Prop} {H H' : Hp}
mutual
theorem Rp.mono (e : ∀ a o, ¬ U a → H a = some o → H' a = some o) (u : ∀ a, H a ≠ none → U' a → U a) : ∀ (d : PyData) (v : V), Rp K U H v d → Rp K U' H' v d
  | .none, _, h => by cases h; exact .non
  | .bool b, _, h => by cases h; exact .bl b
  | .int i, _, h => by cases h; exact .int i
  | .str x, _, h => by cases h; exact .str x
  | .list ds, _, h => by
    cases h with
    | lst n h l r => exact .lst (fun q => n (u _ (by rw [h]; simp) q)) (e _ _ n h) l (RpAll.mono e u ds _ r)
  | .tuple ds, _, h => by
    cases h with
    | tup h l r =>
      refine .tup ?_ l (RpAll.mono e u ds _ r)
      rcases h with ⟨n, h | ⟨o, h⟩⟩ | h
      · exact .inl ⟨fun q => n (u _ (by rw [h]; simp) q), .inl (e _ _ n h)⟩
      · exact .inl ⟨fun q => n (u _ (by rw [h]; simp) q), .inr ⟨o, e _ _ n h⟩⟩
      · exact .inr h
  | .dict ds, _, h => by
    cases h with
    | dct n h l r => exact .dct (fun q => n (u _ (by rw [h]; simp) q)) (e _ _ n h) l (RpKv.mono e u ds _ r)
    | dcn ne n h l r => exact .dcn ne (fun q => n (u _ (by rw [h]; simp) q)) (e _ _ n h) l (RpNk.mono e u ds _ r)
theorem RpAll.mono (e : ∀ a o, ¬ U a → H a = some o → H' a = some o) (u : ∀ a, H a ≠ none → U' a → U a) : ∀ (ds : List PyData) (vs : List V), RpAll K U H vs ds → RpAll K U' H' vs ds
  | [], _, h => by cases h; exact .nil
  | d :: ds, _, h => by
    cases h with
    | cons r t => exact .cons (Rp.mono e u d _ r) (RpAll.mono e u ds _ t)
theorem RpKv.mono (e : ∀ a o, ¬ U a → H a = some o → H' a = some o) (u : ∀ a, H a ≠ none → U' a → U a) : ∀ (ds : List (PyData × PyData)) (vs : List (Key × V)), RpKv K U H vs ds → RpKv K U' H' vs ds
  | [], _, h => by cases h; exact .nil
  | (_, d) :: ds, _, h => by
    cases h with
    | cons r t => exact .cons (Rp.mono e u d _ r) (RpKv.mono e u ds _ t)
theorem RpNk.mono (e : ∀ a o, ¬ U a → H a = some o → H' a = some o) (u : ∀ a, H a ≠ none → U' a → U a) : ∀ (ds : List (PyData × PyData)) (vs : List (NestedKey × Addr × V)), RpNk K U H vs ds → RpNk K U' H' vs ds
  | [], _, h => by cases h; exact .nil
  | (c, d) :: ds, _, h => by
    cases h with
    | cons q n l r t => exact .cons (Rp.mono e u c _ q) n l (Rp.mono e u d _ r) (RpNk.mono e u ds _ t)
end
mutual
theorem Rp.dp : ∀ (d : PyData) (v : V), Rp K U H v d → d.canLay0 = true → Dp K.K H v d
  | .none, _, h, _ => by cases h; exact .non
  | .bool b, _, h, _ => by cases h; exact .bl b
  | .int i, _, h, _ => by cases h; exact .int i
  | .str x, _, h, _ => by cases h; exact .str x
  | .list ds, _, h, c => by
    cases h with
    | lst n h l r => exact .lst (.inl (.inl h)) (RpAll.dp ds _ r (by simpa [PyData.canLay0] using c))
  | .tuple ds, _, h, c => by
    cases h with
    | tup h l r => exact .tup (h.elim (fun x => .inl x.2) .inr) (RpAll.dp ds _ r (by simpa [PyData.canLay0] using c))
  | .dict ds, _, h, c => by simp [PyData.canLay0] at c
theorem RpAll.dp : ∀ (ds : List PyData) (vs : List V), RpAll K U H vs ds → PyData.canLayAll0 ds = true → DpAll K.K H vs ds
  | [], _, h, _ => by cases h; exact .nil
  | d :: ds, _, h, c => by
    have c' : d.canLay0 = true ∧ PyData.canLayAll0 ds = true := by simpa [PyData.canLayAll0] using c
    cases h with
    | cons r t => exact .cons (Rp.dp d _ r c'.1) (RpAll.dp ds _ t c'.2)
end
theorem RpAll.length : ∀ {ds : List PyData} {vs : List V}, RpAll K U H vs ds → vs.length = ds.length
  | [], _, h => by cases h; rfl
  | d :: ds, _, h => by
    cases h with
    | cons r t => simp [RpAll.length t]
theorem RpAll.get : ∀ {ds : List PyData} {vs : List V} {i : Nat} {d : PyData}, RpAll K U H vs ds → ds[i]? = some d → ∃ v, vs[i]? = some v ∧ Rp K U H v d
  | [], _, _, _, h, e => by simp at e
  | c :: ds, _, 0, d, h, e => by
    cases h with
    | cons r t =>
      simp at e
      subst e
      exact ⟨_, rfl, r⟩
  | c :: ds, _, i + 1, d, h, e => by
    cases h with
    | cons r t =>
      obtain ⟨v, h1, h2⟩ := RpAll.get (i := i) t (by simpa using e)
      exact ⟨v, by simpa using h1, h2⟩
theorem RpAll.getV : ∀ {ds : List PyData} {vs : List V} {i : Nat} {v : V}, RpAll K U H vs ds → vs[i]? = some v → ∃ d, ds[i]? = some d ∧ Rp K U H v d := fun {ds vs i v} h e => by
  have hl := h.length
  have hi : i < vs.length := (List.getElem?_eq_some_iff.mp e).1
  obtain ⟨v', h1, h2⟩ := h.get (i := i) (d := ds[i]'(by omega)) (by simp)
  rw [e] at h1
  cases h1
  exact ⟨_, by simp, h2⟩
theorem RpAll.app : ∀ {ds es : List PyData} {vs us : List V}, RpAll K U H vs ds → RpAll K U H us es → RpAll K U H (vs ++ us) (ds ++ es)
  | [], _, _, _, h, t => by cases h; exact t
  | d :: ds, _, _, _, h, t => by
    cases h with
    | cons r q => exact .cons r (RpAll.app q t)
theorem RpAll.take : ∀ {ds : List PyData} {vs : List V} (n : Nat), RpAll K U H vs ds → RpAll K U H (vs.take n) (ds.take n)
  | _, _, 0, h => by simp; exact .nil
  | [], _, n + 1, h => by cases h; exact .nil
  | d :: ds, _, n + 1, h => by
    cases h with
    | cons r t => simpa using RpAll.cons r (RpAll.take n t)
theorem RpAll.drop : ∀ {ds : List PyData} {vs : List V} (n : Nat), RpAll K U H vs ds → RpAll K U H (vs.drop n) (ds.drop n)
  | _, _, 0, h => by simpa using h
  | [], _, n + 1, h => by cases h; exact .nil
  | d :: ds, _, n + 1, h => by
    cases h with
    | cons r t => simpa using RpAll.drop n t
theorem RpAll.rev : ∀ {ds : List PyData} {vs : List V}, RpAll K U H vs ds → RpAll K U H vs.reverse ds.reverse
  | [], _, h => by cases h; exact .nil
  | d :: ds, _, h => by
    cases h with
    | cons r t => simpa using (RpAll.rev t).app (RpAll.cons r .nil)
theorem RpAll.one {v : V} {d : PyData} (h : Rp K U H v d) : RpAll K U H [v] [d] := .cons h .nil
end

/-- a value of the layer -/
def RpV (K : Ct) (U : Addr → Prop) (Z : List Rng) (H : Hp) (x : V) : PV → Prop
  | .d d => Rp K U H x d
  | .src i => ∃ z, Z[i]? = some z ∧ x = .ref z.a
  | .scr => ∃ (a : Addr) (ns : List Int), x = .ref a ∧ ((¬ U a ∧ Rd H a (.lst (ns.map V.int))) ∨ ∀ H', SqL K.K H' a (ns.map V.int)) ∧ ns.length ≤ 63
abbrev RpVs (K : Ct) (U : Addr → Prop) (Z : List Rng) (H : Hp) : List V → List PV → Prop := Paired (RpV K U Z H)
/-- a container that is owned: at a, its elements known -/
def RpOwn (K : Ct) (U : Addr → Prop) (H : Hp) (a : Addr) : PyData → Prop
  | .list ds => ∃ xs, H a = some (.lst xs) ∧ xs.length ≤ sizeLine ∧ RpAll K U H xs ds
  | .dict ds => (∃ kvs, H a = some (.dK kvs) ∧ kvs.length ≤ sizeLine ∧ RpKv K U H kvs ds) ∨ ∃ xs, xs ≠ [] ∧ H a = some (ndHO K a xs) ∧ xs.length ≤ sizeLine ∧ RpNk K U H xs ds
  | _ => False
/-- the drawing source's object -/
def RngOk (H : Hp) (z : Rng) : Prop := z.a ≠ z.l ∧ ∃ (cs : List Int) (lf mx tn : Int),
  H z.a = some (.dK [(.inr "cells", .ref z.l), (.inr "left", .int lf), (.inr "mixed", .int mx), (.inr "turn", .int tn)]) ∧ H z.l = some (.lst (cs.map V.int)) ∧ 0 ≤ lf ∧ (∀ c ∈ cs, 0 ≤ c) ∧ 0 ≤ mx ∧ mx < 2147483647 ∧ 0 ≤ tn
def RngAll (P : Addr → Prop) (Z : List Rng) (H : Hp) : Prop := (∀ z ∈ Z, RngOk H z ∧ ¬ P z.a ∧ ¬ P z.l) ∧ Z.Pairwise (fun y z => y.a ≠ z.a ∧ y.a ≠ z.l ∧ y.l ≠ z.a ∧ y.l ≠ z.l)

structure Rl (K : Ct) (P : Addr → Prop) (O : List Addr) (Z : List Rng) (env : Ev) (σ : L2.St) (H : Hp) : Prop where
  len : env.length = σ.length
  slot : ∀ (i : Nat) (v : PV), env[i]? = some (.val v) → ∃ x, σ[i]? = some (some x) ∧ RpV K (UU P O Z) Z H x v
  own : ∀ (i : Nat) (d : PyData), env[i]? = some (.own d) → ∃ a, σ[i]? = some (some (.ref a)) ∧ a ∈ O ∧ RpOwn K (UU P O Z) H a d
  inj : ∀ (i j : Nat) (d e : PyData) (a : Addr), env[i]? = some (.own d) → env[j]? = some (.own e) → σ[i]? = some (some (.ref a)) → σ[j]? = some (some (.ref a)) → i = j
  dis : ∀ a ∈ O, ¬ P a ∧ ¬ Zad Z a ∧ H a ≠ none
  prot : ∀ a, P a → H a ≠ none
  rng : RngAll P Z H

/-- what an expression does to the heap: O may be changed, sources may be drawn from, new ones may come -/
structure Stp (O : List Addr) (Z : List Rng) (H : Hp) (Z' : List Rng) (H' : Hp) : Prop where
  keep : ∀ a o, H a = some o → a ∉ O → ¬ Zad Z a → H' a = some o
  more : ∃ m, Z' = Z ++ m ∧ ∀ z ∈ m, H z.a = none ∧ H z.l = none
  there : ∀ a, H a ≠ none → H' a ≠ none

section
variable {K : Ct} {P : Addr → Prop} {O O' O₂ : List Addr} {Z Z' Z₂ : List Rng} {H H' H₂ : Hp} {env : Ev} {σ : L2.St}
theorem Stp.refl : Stp O Z H Z H := ⟨fun _ _ h _ _ => h, ⟨[], by simp, by simp⟩, fun _ h => h⟩
theorem Zad.app {Y : List Rng} {a : Addr} (h : Zad (Z ++ Y) a) : Zad Z a ∨ Zad Y a := by
  obtain ⟨z, hz, e⟩ := h
  rcases List.mem_append.mp hz with q | q
  · exact .inl ⟨z, q, e⟩
  · exact .inr ⟨z, q, e⟩
theorem Zad.left {Y : List Rng} {a : Addr} (h : Zad Z a) : Zad (Z ++ Y) a := by
  obtain ⟨z, hz, e⟩ := h
  exact ⟨z, List.mem_append_left _ hz, e⟩
theorem Stp.zad (s : Stp O Z H Z' H') {a : Addr} (h : Zad Z' a) (n : H a ≠ none) : Zad Z a := by
  obtain ⟨m, rfl, hm⟩ := s.more
  rcases h.app with q | ⟨z, hz, e⟩
  · exact q
  · rcases e with rfl | rfl
    · exact absurd (hm z hz).1 n
    · exact absurd (hm z hz).2 n
theorem Stp.zadR (s : Stp O Z H Z' H') {a : Addr} (h : Zad Z a) : Zad Z' a := by
  obtain ⟨m, rfl, hm⟩ := s.more
  exact h.left
theorem Stp.ix (s : Stp O Z H Z' H') {i : Nat} {z : Rng} (h : Z[i]? = some z) : Z'[i]? = some z := by
  obtain ⟨m, rfl, hm⟩ := s.more
  rw [List.getElem?_append_left (List.getElem?_eq_some_iff.mp h).1]
  exact h
theorem Stp.trans (s : Stp O Z H Z' H') (t : Stp O Z' H' Z₂ H₂) : Stp O Z H Z₂ H₂ := by
  refine ⟨fun a o h n z => ?_, ?_, fun a h => t.there a (s.there a h)⟩
  · exact t.keep a o (s.keep a o h n z) n fun q => z (s.zad q (by rw [h]; simp))
  · obtain ⟨m, e1, h1⟩ := s.more
    obtain ⟨m2, e2, h2⟩ := t.more
    refine ⟨m ++ m2, by rw [e2, e1, List.append_assoc], fun z hz => ?_⟩
    rcases List.mem_append.mp hz with q | q
    · exact h1 z q
    · have n := h2 z q
      refine ⟨Classical.byContradiction fun w => ?_, Classical.byContradiction fun w => ?_⟩
      · exact s.there _ w n.1
      · exact s.there _ w n.2
/-- .. of fewer owned -/
theorem Stp.wide (s : Stp O Z H Z' H') (h : ∀ a ∈ O, a ∈ O' ∨ H a = none) : Stp O' Z H Z' H' :=
  ⟨fun a o e n z => s.keep a o e (fun q => by rcases h a q with w | w; exact n w; rw [e] at w; cases w) z, s.more, s.there⟩
theorem RpV.mono {U U' : Addr → Prop} {x : V} {v : PV} (h : RpV K U Z H x v) (e : ∀ a o, ¬ U a → H a = some o → H' a = some o) (u : ∀ a, H a ≠ none → U' a → U a) (z : ∀ (i : Nat) (y : Rng), Z[i]? = some y → Z'[i]? = some y) : RpV K U' Z' H' x v := by
  cases v with
  | d d => exact Rp.mono e u d x h
  | src i =>
    obtain ⟨y, h1, h2⟩ := h
    exact ⟨y, z i y h1, h2⟩
  | scr =>
    obtain ⟨a, ns, e1, h, l⟩ := h
    refine ⟨a, ns, e1, ?_, l⟩
    rcases h with ⟨n, h | ⟨o, h⟩⟩ | h
    · exact .inl ⟨fun q => n (u _ (by rw [h]; simp) q), .inl (e _ _ n h)⟩
    · exact .inl ⟨fun q => n (u _ (by rw [h]; simp) q), .inr ⟨o, e _ _ n h⟩⟩
    · exact .inr h
theorem RpVs.mono {U U' : Addr → Prop} (e : ∀ a o, ¬ U a → H a = some o → H' a = some o) (u : ∀ a, H a ≠ none → U' a → U a) (z : ∀ (i : Nat) (y : Rng), Z[i]? = some y → Z'[i]? = some y) : ∀ {xs : List V} {vs : List PV}, RpVs K U Z H xs vs → RpVs K U' Z' H' xs vs
  | _, _, .nil => .nil
  | _, _, .cons r t => .cons (RpV.mono r e u z) (RpVs.mono e u z t)
theorem Stp.ext (s : Stp O Z H Z' H') : ∀ a o, ¬ UU P O Z a → H a = some o → H' a = some o := fun a o n h => s.keep a o h (fun q => n (.inr (.inl q))) fun q => n (.inr (.inr q))
theorem Stp.uu (s : Stp O Z H Z' H') : ∀ a, H a ≠ none → UU P O Z' a → UU P O Z a := fun a n h => by
  rcases h with q | q | q
  · exact .inl q
  · exact .inr (.inl q)
  · exact .inr (.inr (s.zad q n))
theorem Stp.rp (s : Stp O Z H Z' H') {x : V} {d : PyData} (h : Rp K (UU P O Z) H x d) : Rp K (UU P O Z') H' x d := Rp.mono s.ext s.uu d x h
theorem Stp.rpA (s : Stp O Z H Z' H') {xs : List V} {ds : List PyData} (h : RpAll K (UU P O Z) H xs ds) : RpAll K (UU P O Z') H' xs ds := RpAll.mono s.ext s.uu ds xs h
theorem Stp.rpV (s : Stp O Z H Z' H') {x : V} {v : PV} (h : RpV K (UU P O Z) Z H x v) : RpV K (UU P O Z') Z' H' x v := h.mono s.ext s.uu fun _ _ => s.ix
theorem Stp.rpVs (s : Stp O Z H Z' H') {xs : List V} {vs : List PV} (h : RpVs K (UU P O Z) Z H xs vs) : RpVs K (UU P O Z') Z' H' xs vs := RpVs.mono s.ext s.uu (fun _ _ => s.ix) h
theorem RpOwn.mono {U U' : Addr → Prop} {a : Addr} {d : PyData} (h : RpOwn K U H a d) (ha : ∀ o, H a = some o → H' a = some o) (e : ∀ a o, ¬ U a → H a = some o → H' a = some o) (u : ∀ a, H a ≠ none → U' a → U a) : RpOwn K U' H' a d := by
  cases d with
  | list ds =>
    obtain ⟨xs, h1, h2, h3⟩ := h
    exact ⟨xs, ha _ h1, h2, RpAll.mono e u ds xs h3⟩
  | dict ds =>
    rcases h with ⟨xs, h1, h2, h3⟩ | ⟨xs, h0, h1, h2, h3⟩
    · exact .inl ⟨xs, ha _ h1, h2, RpKv.mono e u ds xs h3⟩
    · exact .inr ⟨xs, h0, ha _ h1, h2, RpNk.mono e u ds xs h3⟩
  | _ => exact h
/-- a new object -/
theorem Rl.fresh (r : Rl K P O Z env σ H) {p : Addr} (h : H p = none) : ¬ UU P O Z p := fun q => by
  rcases q with q | q | ⟨z, hz, e⟩
  · exact r.prot p q h
  · exact (r.dis p q).2.2 h
  · obtain ⟨⟨_, cs, lf, mx, tn, h1, h2, _⟩, _⟩ := r.rng.1 z hz
    rcases e with rfl | rfl
    · rw [h] at h1; cases h1
    · rw [h] at h2; cases h2
theorem stp_new {p : Addr} {o : HO} (h : H p = none) : Stp O Z H Z (upd H p o) := by
  refine ⟨fun a u e _ _ => ?_, ⟨[], by simp, by simp⟩, fun a n => ?_⟩
  · rw [upd_ne (ne_of_none e h)]; exact e
  · by_cases q : a = p
    · subst q; exact absurd h n
    · rw [upd_ne q]; exact n
/-- the relation over a step that leaves the owned ones as they are -/
theorem RngOk.keep {z : Rng} (h : RngOk H z) (k : ∀ a o, H a = some o → a = z.a ∨ a = z.l → H' a = some o) : RngOk H' z := by
  obtain ⟨n, cs, lf, mx, tn, h1, h2, r⟩ := h
  exact ⟨n, cs, lf, mx, tn, k _ _ h1 (.inl rfl), k _ _ h2 (.inr rfl), r⟩
theorem Rl.grow (r : Rl K P O Z env σ H) (k : ∀ a o, H a = some o → H' a = some o) : Rl K P O Z env σ H' := by
  have n : ∀ a, H a ≠ none → H' a ≠ none := fun a h => by
    cases e : H a with
    | none => exact absurd e h
    | some o => rw [k a o e]; simp
  refine ⟨r.len, fun i v h => ?_, fun i d h => ?_, r.inj, fun a h => ⟨(r.dis a h).1, (r.dis a h).2.1, n a (r.dis a h).2.2⟩, fun a h => n a (r.prot a h), ⟨fun z h => ?_, r.rng.2⟩⟩
  · obtain ⟨x, h1, h2⟩ := r.slot i v h
    exact ⟨x, h1, h2.mono (fun a o _ => k a o) (fun _ _ q => q) fun _ _ q => q⟩
  · obtain ⟨a, h1, h2, h3⟩ := r.own i d h
    exact ⟨a, h1, h2, h3.mono (fun o => k a o) (fun a o _ => k a o) fun _ _ q => q⟩
  · exact ⟨(r.rng.1 z h).1.keep fun a o e _ => k a o e, (r.rng.1 z h).2⟩
theorem Rl.new (r : Rl K P O Z env σ H) {p : Addr} {o : HO} (h : H p = none) : Rl K P O Z env σ (upd H p o) :=
  r.grow fun a u e => by rw [upd_ne (ne_of_none e h)]; exact e
/-- fewer owned -/
theorem Rl.less (r : Rl K P O Z env σ H) (h : ∀ a, a ∈ O' → a ∈ O) (ho : ∀ (i : Nat) (d : PyData) (a : Addr), env[i]? = some (.own d) → σ[i]? = some (some (.ref a)) → a ∈ O') : Rl K P O' Z env σ H := by
  have u : ∀ a, UU P O' Z a → UU P O Z a := fun a q => by
    rcases q with q | q | q
    · exact .inl q
    · exact .inr (.inl (h a q))
    · exact .inr (.inr q)
  refine ⟨r.len, fun i v e => ?_, fun i d e => ?_, r.inj, fun a q => r.dis a (h a q), r.prot, r.rng⟩
  · obtain ⟨x, h1, h2⟩ := r.slot i v e
    exact ⟨x, h1, h2.mono (fun _ _ _ q => q) (fun a _ => u a) fun _ _ q => q⟩
  · obtain ⟨a, h1, h2, h3⟩ := r.own i d e
    exact ⟨a, h1, ho i d a e h1, h3.mono (fun _ q => q) (fun _ _ _ q => q) fun a _ => u a⟩
/-- one more owned: a new one -/
theorem Rl.more (r : Rl K P O Z env σ H) {p : Addr} (hn : H p ≠ none) (hu : ¬ UU P O Z p)
    (hs : ∀ (i : Nat) (v : PV) (x : V), env[i]? = some (.val v) → σ[i]? = some (some x) → RpV K (UU P (p :: O) Z) Z H x v) (ho : ∀ (i : Nat) (d : PyData) (a : Addr), env[i]? = some (.own d) → σ[i]? = some (some (.ref a)) → RpOwn K (UU P (p :: O) Z) H a d) : Rl K P (p :: O) Z env σ H := by
  refine ⟨r.len, fun i v e => ?_, fun i d e => ?_, r.inj, fun a q => ?_, r.prot, r.rng⟩
  · obtain ⟨x, h1, h2⟩ := r.slot i v e
    exact ⟨x, h1, hs i v x e h1⟩
  · obtain ⟨a, h1, h2, h3⟩ := r.own i d e
    exact ⟨a, h1, List.mem_cons_of_mem _ h2, ho i d a e h1⟩
  · rcases List.mem_cons.mp q with rfl | q
    · exact ⟨fun w => hu (.inl w), fun w => hu (.inr (.inr w)), hn⟩
    · exact r.dis a q
/-- a new object, owned at once -/
theorem Rl.newOwn (r : Rl K P O Z env σ H) {p : Addr} {o : HO} (h : H p = none) : Rl K P (p :: O) Z env σ (upd H p o) := by
  have k : ∀ a u, H a = some u → upd H p o a = some u := fun a u e => by rw [upd_ne (ne_of_none e h)]; exact e
  have u : ∀ a, H a ≠ none → UU P (p :: O) Z a → UU P O Z a := fun a n q => by
    rcases q with q | q | q
    · exact .inl q
    · rcases List.mem_cons.mp q with rfl | q
      · exact absurd h n
      · exact .inr (.inl q)
    · exact .inr (.inr q)
  refine (r.new (o := o) h).more (by rw [upd_same]; simp) (r.fresh h) (fun i v x e es => ?_) fun i d a e es => ?_
  · obtain ⟨x', h1, h2⟩ := r.slot i v e
    rw [es] at h1; cases h1
    exact h2.mono (fun a o _ => k a o) u fun _ _ q => q
  · obtain ⟨a', h1, h2, h3⟩ := r.own i d e
    rw [es] at h1; cases h1
    exact h3.mono (fun o => k a o) (fun a o _ => k a o) u
end
end R
/-! The pure layer, part 1: judgements; names, constants, operators, displays, calls. -/
namespace R
open PySem PySem.Spec PyProof.Rows L2

abbrev _root_.L2.Cx.ct (X : Cx) : Ct := ⟨X.K, X.prog, X.w⟩
/-- what may stand at an operand: a value, or an owned container -/
def RpB (K : Ct) (U : Addr → Prop) (Z : List Rng) (env : Ev) (σ : L2.St) (H : Hp) (x : V) (v : PV) : Prop :=
  RpV K U Z H x v ∨ ∃ (i : Nat) (a : Addr) (d : PyData), x = .ref a ∧ v = .d d ∧ σ[i]? = some (some (.ref a)) ∧ env[i]? = some (.own d)
abbrev RE1 := Ev → (PV → Ev → Prop) → Prop
abbrev RT1 := Ev → (Bool → Ev → Prop) → Prop
abbrev RA1 := Ev → (List PV → Ev → Prop) → Prop
def tR (K : Ct) (r : RE1) : TE := fun σ H Q => ∃ P O Z env q, Rl K P O Z env σ H ∧ r env q ∧ ∀ v env', q v env' → ∀ Z' H' x, Stp O Z H Z' H' → Rl K P O Z' env' σ H' → RpV K (UU P O Z') Z' H' x v → Q x H'
def tRB (K : Ct) (r : RE1) : TE := fun σ H Q => ∃ P O Z env q, Rl K P O Z env σ H ∧ r env q ∧ ∀ v env', q v env' → ∀ Z' H' x, Stp O Z H Z' H' → Rl K P O Z' env' σ H' → RpB K (UU P O Z') Z' env' σ H' x v → Q x H'
def tRT (K : Ct) (r : RT1) : TT := fun σ H Q => ∃ P O Z env q, Rl K P O Z env σ H ∧ r env q ∧ ∀ b env', q b env' → ∀ Z' H', Stp O Z H Z' H' → Rl K P O Z' env' σ H' → Q b H'
def tRA (K : Ct) (r : RA1) : TA := fun σ H Q => ∃ P O Z env q, Rl K P O Z env σ H ∧ r env q ∧ ∀ vs env', q vs env' → ∀ Z' H' xs, Stp O Z H Z' H' → Rl K P O Z' env' σ H' → RpVs K (UU P O Z') Z' H' xs vs → Q xs H'
structure RE (X : Cx) (e : Expr) (r : RE1) : Prop where
  h : PE X e (tR X.ct r)
structure RB (X : Cx) (e : Expr) (r : RE1) : Prop where
  h : PE X e (tRB X.ct r)
structure RT (X : Cx) (e : Expr) (r : RT1) : Prop where
  h : PT X e (tRT X.ct r)
structure RW (X : Cx) (e : Expr) (r : RT1) : Prop where
  h : PW X e (tRT X.ct r)
structure RA (X : Cx) (es : List Expr) (r : RA1) : Prop where
  h : PA X es (tRA X.ct r)
section
variable {X : Cx} {e a b c : Expr} {es rest : List Expr} {r ra rb rc : RE1} {rt ru : RT1} {rs : RA1} {pos : Pos}
theorem pe_imp {t u : TE} (h : PE X e t) (i : ∀ σ H Q, u σ H Q → t σ H Q) : PE X e u := ⟨fun pins s σ H Q I w => h.run pins s σ H Q I (i σ H Q w)⟩
theorem pt_imp {t u : TT} (h : PT X e t) (i : ∀ σ H Q, u σ H Q → t σ H Q) : PT X e u := ⟨fun pins s σ H Q I w => h.run pins s σ H Q I (i σ H Q w)⟩
theorem pw_imp {t u : TT} (h : PW X e t) (i : ∀ σ H Q, u σ H Q → t σ H Q) : PW X e u := ⟨fun wh pins s σ H Q I w => h.run wh pins s σ H Q I (i σ H Q w)⟩
theorem pa_imp {t u : TA} (h : PA X es t) (i : ∀ σ H Q, u σ H Q → t σ H Q) : PA X es u := ⟨fun p pins s σ H Q I w => h.run p pins s σ H Q I (i σ H Q w)⟩
theorem RE.of {t : TE} (h : PE X e t) (i : ∀ σ H Q, tR X.ct r σ H Q → t σ H Q) : RE X e r := ⟨pe_imp h i⟩
theorem RB.of {t : TE} (h : PE X e t) (i : ∀ σ H Q, tRB X.ct r σ H Q → t σ H Q) : RB X e r := ⟨pe_imp h i⟩
theorem RE.bb (h : RE X e r) : RB X e r := .of h.h fun σ H Q ⟨P, O, Z, env, q, l, w, k⟩ => ⟨P, O, Z, env, q, l, w, fun v env' m Z' H' x s l' p => k v env' m Z' H' x s l' (.inl p)⟩
/-- ends without a change -/
theorem RpB.later {K : Ct} {P : Addr → Prop} {O : List Addr} {Z Z' : List Rng} {env : Ev} {σ : L2.St} {H H' : Hp} {x : V} {v : PV} (h : RpB K (UU P O Z) Z env σ H x v) (s : Stp O Z H Z' H') : RpB K (UU P O Z') Z' env σ H' x v := by
  rcases h with h | h
  · exact .inl (s.rpV h)
  · exact .inr h

/-! ### names, constants -/
def rVar (i : Nat) : RE1 := fun env q => ∃ v, env[i]? = some (.val v) ∧ q v env
def rOwn (i : Nat) : RE1 := fun env q => ∃ d, env[i]? = some (.own d) ∧ q (.d d) env
def rC (d : PyData) : RE1 := fun env q => q (.d d) env
theorem re_var {i : Nat} {x : Str} (hN : X.N[i]? = some x) (hv : Vis X.env.scope x) (hd : (x == ("__debug__" : Str)) = false := by decide) (hcd : (x == ("__classdict__" : Str)) = false := by decide) : RE X (.Name x pos) (rVar i) :=
  .of (pe_var hN hv hd hcd) fun σ H Q ⟨P, O, Z, env, q, l, ⟨v, e, w⟩, k⟩ => by
    obtain ⟨y, h1, h2⟩ := l.slot i v e
    exact ⟨y, h1, k v env w Z H y .refl l h2⟩
theorem rb_own {i : Nat} {x : Str} (hN : X.N[i]? = some x) (hv : Vis X.env.scope x) (hd : (x == ("__debug__" : Str)) = false := by decide) (hcd : (x == ("__classdict__" : Str)) = false := by decide) : RB X (.Name x pos) (rOwn i) :=
  .of (pe_var hN hv hd hcd) fun σ H Q ⟨P, O, Z, env, q, l, ⟨v, e, w⟩, k⟩ => by
    obtain ⟨a, h1, h2, h3⟩ := l.own i v e
    exact ⟨.ref a, h1, k (.d v) env w Z H _ .refl l (.inr ⟨i, a, v, rfl, rfl, h1, e⟩)⟩
theorem re_int {i : Int} {j : Nat} : RE X (.Constant (.int i) j pos) (rC (.int i)) := .of pe_int fun σ H Q ⟨P, O, Z, env, q, l, w, k⟩ => k _ env w Z H _ .refl l (.int i)
theorem re_str {x : Str} {j : Nat} : RE X (.Constant (.str x) j pos) (rC (.str x)) := .of pe_str fun σ H Q ⟨P, O, Z, env, q, l, w, k⟩ => k _ env w Z H _ .refl l (.str x)
theorem re_bl {b : Bool} {j : Nat} : RE X (.Constant (.bool b) j pos) (rC (.bool b)) := .of pe_bl fun σ H Q ⟨P, O, Z, env, q, l, w, k⟩ => k _ env w Z H _ .refl l (.bl b)
theorem re_non {j : Nat} : RE X (.Constant .none j pos) (rC .none) := .of pe_non fun σ H Q ⟨P, O, Z, env, q, l, w, k⟩ => k _ env w Z H _ .refl l .non
/-- a module's constant: an int, a text -/
theorem re_gInt {x : Str} {i : Int} (hg : Gl X x) (hm : ∃ t, X.mg x = some (.int i t)) (hd : (x == ("__debug__" : Str)) = false := by decide) : RE X (.Name x pos) (rC (.int i)) := by
  obtain ⟨t, hm⟩ := hm
  exact .of (pe_glob (v := .int i) hg hm ⟨t, rfl⟩ hd) fun σ H Q ⟨P, O, Z, env, q, l, w, k⟩ => k _ env w Z H _ .refl l (.int i)
theorem re_gStr {x z : Str} (hg : Gl X x) (hm : ∃ t, X.mg x = some (.str z t)) (hd : (x == ("__debug__" : Str)) = false := by decide) : RE X (.Name x pos) (rC (.str z)) := by
  obtain ⟨t, hm⟩ := hm
  exact .of (pe_glob (v := .str z) hg hm ⟨t, rfl⟩ hd) fun σ H Q ⟨P, O, Z, env, q, l, w, k⟩ => k _ env w Z H _ .refl l (.str z)
/-- a module's constant that is data of tuples -/
def Cst (K : Ct) (v : V) (d : PyData) : Prop := ∀ U H, Rp K U H v d
theorem re_gTup {x : Str} {a : Addr} {d : PyData} (hg : Gl X x) (hm : X.mg x = some (.ref a)) (hc : Cst X.ct (.ref a) d) (hd : (x == ("__debug__" : Str)) = false := by decide) : RE X (.Name x pos) (rC d) :=
  .of (pe_glob (v := .ref a) hg hm rfl hd) fun σ H Q ⟨P, O, Z, env, q, l, w, k⟩ => k _ env w Z H _ .refl l (hc _ _)

/-! ### two operands -/
abbrev S1 := PV → (PV → Prop) → Prop
abbrev S2 := PV → PV → (PV → Prop) → Prop
abbrev SA := List PV → (PV → Prop) → Prop
def rBin (s : S2) (ra rb : RE1) : RE1 := fun env q => ra env fun v e1 => rb e1 fun w e2 => e2 = e1 ∧ s v w fun z => q z e2
def rUn (s : S1) (ra : RE1) : RE1 := fun env q => ra env fun v e1 => s v fun z => q z e1
/-- a reading of two values is met by what the layer asks -/
def Br2 (X : Cx) (rr : R2) (s : S2) : Prop := ∀ {P O Z env σ H x y v w} {qz : PV → Prop} {Q : VK}, Rl X.ct P O Z env σ H → RpB X.ct (UU P O Z) Z env σ H x v → RpB X.ct (UU P O Z) Z env σ H y w → s v w qz →
  (∀ z, qz z → ∀ Z' H' xz, Stp O Z H Z' H' → Rl X.ct P O Z' env σ H' → RpV X.ct (UU P O Z') Z' H' xz z → Q xz H') → rr x y H Q
def Br1 (X : Cx) (rr : V → Hp → VK → Prop) (s : S1) : Prop := ∀ {P O Z env σ H x v} {qz : PV → Prop} {Q : VK}, Rl X.ct P O Z env σ H → RpB X.ct (UU P O Z) Z env σ H x v → s v qz →
  (∀ z, qz z → ∀ Z' H' xz, Stp O Z H Z' H' → Rl X.ct P O Z' env σ H' → RpV X.ct (UU P O Z') Z' H' xz z → Q xz H') → rr x H Q
theorem re_bin {rr : R2} {s : S2} (h : PE X e (tOp rr (tRB X.ct ra) (tRB X.ct rb))) (br : Br2 X rr s) : RE X e (rBin s ra rb) :=
  .of h fun σ H Q ⟨P, O, Z, env, q, l, w, k⟩ => by
    refine ⟨P, O, Z, env, _, l, w, fun v e1 w1 Z1 H1 x s1 l1 p1 => ?_⟩
    refine ⟨P, O, Z1, e1, _, l1, w1, fun u e2 w2 Z2 H2 y s2 l2 p2 => ?_⟩
    obtain ⟨rfl, w2⟩ := w2
    exact br l2 (p1.later s2) p2 w2 fun z hz Z' H' xz s3 l3 p3 => k z _ hz Z' H' xz ((s1.trans s2).trans s3) l3 p3
theorem re_un1 {rr : V → Hp → VK → Prop} {s : S1} (h : PE X e (tUn rr (tRB X.ct ra))) (br : Br1 X rr s) : RE X e (rUn s ra) :=
  .of h fun σ H Q ⟨P, O, Z, env, q, l, w, k⟩ => by
    refine ⟨P, O, Z, env, _, l, w, fun v e1 w1 Z1 H1 x s1 l1 p1 => ?_⟩
    exact br l1 p1 w1 fun z hz Z' H' xz s3 l3 p3 => k z _ hz Z' H' xz (s1.trans s3) l3 p3

/-! ### what stands there -/
section
variable {K : Ct} {P : Addr → Prop} {O : List Addr} {Z : List Rng} {env : Ev} {σ : L2.St} {H : Hp} {x : V}
theorem RpB.int {i : Int} (h : RpB K (UU P O Z) Z env σ H x (.d (.int i))) (l : Rl K P O Z env σ H) : x = .int i := by
  rcases h with h | ⟨j, a, d, rfl, e, h1, h2⟩
  · cases h; rfl
  · cases e
    obtain ⟨_, _, _, w⟩ := l.own j _ h2
    cases w
theorem RpB.str {i : Str} (h : RpB K (UU P O Z) Z env σ H x (.d (.str i))) (l : Rl K P O Z env σ H) : x = .str i := by
  rcases h with h | ⟨j, a, d, rfl, e, h1, h2⟩
  · cases h; rfl
  · cases e
    obtain ⟨_, _, _, w⟩ := l.own j _ h2
    cases w
theorem RpB.bl {i : Bool} (h : RpB K (UU P O Z) Z env σ H x (.d (.bool i))) (l : Rl K P O Z env σ H) : x = .bl i := by
  rcases h with h | ⟨j, a, d, rfl, e, h1, h2⟩
  · cases h; rfl
  · cases e
    obtain ⟨_, _, _, w⟩ := l.own j _ h2
    cases w
theorem RpB.non (h : RpB K (UU P O Z) Z env σ H x (.d .none)) (l : Rl K P O Z env σ H) : x = .non := by
  rcases h with h | ⟨j, a, d, rfl, e, h1, h2⟩
  · cases h; rfl
  · cases e
    obtain ⟨_, _, _, w⟩ := l.own j _ h2
    cases w
theorem RpB.tup {ds : List PyData} (h : RpB K (UU P O Z) Z env σ H x (.d (.tuple ds))) (l : Rl K P O Z env σ H) : ∃ a xs, x = .ref a ∧ SqT K.K H a xs ∧ xs.length ≤ sizeLine ∧ RpAll K (UU P O Z) H xs ds ∧ Rp K (UU P O Z) H x (.tuple ds) := by
  rcases h with h | ⟨j, a, d, rfl, e, h1, h2⟩
  · have h' := h
    cases h with
    | tup w z r => exact ⟨_, _, rfl, w.elim (fun q => .inl q.2) .inr, z, r, h'⟩
  · cases e
    obtain ⟨_, _, _, w⟩ := l.own j _ h2
    cases w
theorem RpB.lst {ds : List PyData} (h : RpB K (UU P O Z) Z env σ H x (.d (.list ds))) (l : Rl K P O Z env σ H) : ∃ a xs, x = .ref a ∧ H a = some (.lst xs) ∧ xs.length ≤ sizeLine ∧ RpAll K (UU P O Z) H xs ds := by
  rcases h with h | ⟨j, a, d, rfl, e, h1, h2⟩
  · cases h with
    | lst w q z r => exact ⟨_, _, rfl, q, z, r⟩
  · cases e
    obtain ⟨b, w1, w2, xs, w3, w4, w5⟩ := l.own j _ h2
    rw [h1] at w1; cases w1
    exact ⟨_, _, rfl, w3, w4, w5⟩
theorem RpB.dct {ds : List (PyData × PyData)} (h : RpB K (UU P O Z) Z env σ H x (.d (.dict ds))) (l : Rl K P O Z env σ H) : ∃ a, x = .ref a ∧ ((∃ kvs, H a = some (.dK kvs) ∧ kvs.length ≤ sizeLine ∧ RpKv K (UU P O Z) H kvs ds) ∨ ∃ xs, xs ≠ [] ∧ H a = some (ndHO K a xs) ∧ xs.length ≤ sizeLine ∧ RpNk K (UU P O Z) H xs ds) := by
  rcases h with h | ⟨j, a, d, rfl, e, h1, h2⟩
  · cases h with
    | dct w q z r => exact ⟨_, rfl, .inl ⟨_, q, z, r⟩⟩
    | dcn ne w q z r => exact ⟨_, rfl, .inr ⟨_, ne, q, z, r⟩⟩
  · cases e
    obtain ⟨b, w1, w2, w3⟩ := l.own j _ h2
    rw [h1] at w1; cases w1
    exact ⟨_, rfl, w3⟩
/-- .. as data -/
theorem RpB.dp {d : PyData} (h : RpB K (UU P O Z) Z env σ H x (.d d)) (l : Rl K P O Z env σ H) (c : d.canLay0 = true) : Dp K.K H x d := by
  rcases h with h | ⟨j, a, d', rfl, e, h1, h2⟩
  · exact Rp.dp d x h c
  · cases e
    obtain ⟨b, w1, w2, w3⟩ := l.own j _ h2
    rw [h1] at w1; cases w1
    cases d with
    | list ds =>
      obtain ⟨xs, w3, w4, w5⟩ := w3
      exact .lst (.inl (.inl w3)) (RpAll.dp ds xs w5 (by simpa [PyData.canLay0] using c))
    | dict ds => simp [PyData.canLay0] at c
    | _ => cases w3
/-- a new list, a new tuple -/
theorem mk_lst {p : Addr} {xs : List V} {ds : List PyData} (l : Rl K P O Z env σ H) (h : RpAll K (UU P O Z) H xs ds) (z : xs.length ≤ sizeLine) (n : H p = none) : Rp K (UU P O Z) (upd H p (.lst xs)) (.ref p) (.list ds) :=
  .lst (l.fresh n) upd_same z ((stp_new n).rpA h)
theorem mk_tup {p : Addr} {xs : List V} {ds : List PyData} (l : Rl K P O Z env σ H) (h : RpAll K (UU P O Z) H xs ds) (z : xs.length ≤ sizeLine) (n : H p = none) : Rp K (UU P O Z) (upd H p (.tup xs)) (.ref p) (.tuple ds) :=
  .tup (.inl ⟨l.fresh n, .inl upd_same⟩) z ((stp_new n).rpA h)
theorem RpAll.lenE {U : Addr → Prop} {xs : List V} {ds : List PyData} (h : RpAll K U H xs ds) : ds.length = xs.length := h.length.symm
end

/-! ### operators -/
def sAdd : S2
  | .d (.int i), .d (.int j), q => q (.d (.int (i + j)))
  | .d (.str x), .d (.str y), q => x.length + y.length ≤ sizeLine ∧ q (.d (.str (x ++ y)))
  | .d (.list xs), .d (.list ys), q => xs.length + ys.length ≤ sizeLine ∧ q (.d (.list (xs ++ ys)))
  | .d (.tuple xs), .d (.tuple ys), q => xs.length + ys.length ≤ sizeLine ∧ q (.d (.tuple (xs ++ ys)))
  | _, _, _ => False
def rrAdd (K : PySem.W.Frag) : R2 := fun x y H Q => rI0 (fun i j => .int (i + j)) x y H Q ∨ (∃ i j, x = .str i ∧ y = .str j ∧ i.length + j.length ≤ sizeLine ∧ Q (.str (i ++ j)) H) ∨ rCat x y H Q ∨ rCatA K x y H Q
theorem br_add : Br2 X (rrAdd X.K) sAdd := by
  intro P O Z env σ H x y v w qz Q l px py hs k
  unfold sAdd at hs
  split at hs
  · rename_i i j
    exact .inl ⟨i, j, px.int l, py.int l, k _ hs Z H _ .refl l (.int _)⟩
  · rename_i i j
    exact .inr (.inl ⟨i, j, px.str l, py.str l, hs.1, k _ hs.2 Z H _ .refl l (.str _)⟩)
  · rename_i xs ys
    obtain ⟨a, us, rfl, h1, z1, r1⟩ := px.lst l
    obtain ⟨b, ws, rfl, h2, z2, r2⟩ := py.lst l
    have hz : us.length + ws.length ≤ sizeLine := by rw [r1.length, r2.length]; exact hs.1
    refine .inr (.inr (.inl ⟨a, b, us, ws, rfl, rfl, h1, h2, hz, fun p hp => ?_⟩))
    exact k _ hs.2 Z _ _ (stp_new hp) (l.new hp) (mk_lst l (r1.app r2) (by rw [List.length_append]; exact hz) hp)
  · rename_i xs ys
    obtain ⟨a, us, rfl, h1, z1, r1, f1⟩ := px.tup l
    obtain ⟨b, ws, rfl, h2, z2, r2, f2⟩ := py.tup l
    have hz : us.length + ws.length ≤ sizeLine := by rw [r1.length, r2.length]; exact hs.1
    refine .inr (.inr (.inr ⟨a, b, us, ws, rfl, rfl, h1, h2, hz, ?_⟩))
    have nl : ∀ {zs : List PyData} {vs : List V}, RpAll X.ct (UU P O Z) H vs zs → vs = [] → zs = [] := fun {zs vs} r e => by
      subst e
      cases r
      rfl
    refine ⟨fun e => ?_, fun _ e => ?_, fun _ _ p hp => k _ hs.2 Z _ _ (stp_new hp) (l.new hp) (mk_tup l (r1.app r2) (by rw [List.length_append]; exact hz) hp)⟩
    · have e2 := nl r1 e
      subst e2
      exact k _ hs.2 Z H _ .refl l f2
    · have e2 := nl r2 e
      subst e2
      exact k _ hs.2 Z H _ .refl l (by rw [List.append_nil]; exact f1)
  · exact hs.elim
theorem op_addR : OpR X (binaryOp .Add) (rrAdd X.K) := op_add.or (op_add_str.or (op_cat.or op_catA))
theorem re_add (ha : RB X a ra) (hb : RB X b rb) : RE X (.BinOp a .Add b pos) (rBin sAdd ra rb) := re_bin (pe_op op_addR ha.h hb.h) br_add
def sInt2 (C : Int → Int → Prop) (f : Int → Int → Int) : S2
  | .d (.int i), .d (.int j), q => C i j ∧ q (.d (.int (f i j)))
  | _, _, _ => False
def sInt2' (f : Int → Int → Int) : S2
  | .d (.int i), .d (.int j), q => q (.d (.int (f i j)))
  | _, _, _ => False
def sIntB (f : Int → Int → Bool) : S2
  | .d (.int i), .d (.int j), q => q (.d (.bool (f i j)))
  | _, _, _ => False
theorem br_int2 {C : Int → Int → Prop} {f : Int → Int → Int} : Br2 X (rI C fun i j => .int (f i j)) (sInt2 C f) := by
  intro P O Z env σ H x y v w qz Q l px py hs k
  unfold sInt2 at hs
  split at hs
  · exact ⟨_, _, px.int l, py.int l, hs.1, k _ hs.2 Z H _ .refl l (.int _)⟩
  · exact hs.elim
theorem br_int2' {f : Int → Int → Int} : Br2 X (rI0 fun i j => .int (f i j)) (sInt2' f) := by
  intro P O Z env σ H x y v w qz Q l px py hs k
  unfold sInt2' at hs
  split at hs
  · exact ⟨_, _, px.int l, py.int l, k _ hs Z H _ .refl l (.int _)⟩
  · exact hs.elim
theorem br_intB {f : Int → Int → Bool} : Br2 X (rI0 fun i j => .bl (f i j)) (sIntB f) := by
  intro P O Z env σ H x y v w qz Q l px py hs k
  unfold sIntB at hs
  split at hs
  · exact ⟨_, _, px.int l, py.int l, k _ hs Z H _ .refl l (.bl _)⟩
  · exact hs.elim
def sSub : S2 := sInt2' fun i j => i - j
def sFdiv : S2 := sInt2 CDiv fun i j => i / j
def sMod : S2 := sInt2 (fun _ j => 0 < j) fun i j => i % j
def sMul : S2
  | .d (.int i), .d (.int j), q => CMul i j ∧ q (.d (.int (i * j)))
  | .d (.list xs), .d (.int k), q => (-(2 ^ 63) ≤ k ∧ k < 2 ^ 63 ∧ xs.length * k.toNat ≤ sizeLine) ∧ q (.d (.list (List.replicate k.toNat xs).flatten))
  | _, _, _ => False
def rrMul : R2 := fun x y H Q => rI CMul (fun i j => .int (i * j)) x y H Q ∨ rRep x y H Q
theorem RpAll.rep {K : Ct} {U : Addr → Prop} {H : Hp} {xs : List V} {ds : List PyData} (h : RpAll K U H xs ds) : ∀ n : Nat, RpAll K U H (List.replicate n xs).flatten (List.replicate n ds).flatten
  | 0 => by simpa using RpAll.nil
  | n + 1 => by simpa [List.replicate_succ] using h.app (RpAll.rep h n)
theorem len_rep {α : Type} (xs : List α) : ∀ n : Nat, (List.replicate n xs).flatten.length = xs.length * n
  | 0 => by simp
  | n + 1 => by rw [List.replicate_succ, List.flatten_cons, List.length_append, len_rep xs n, Nat.mul_succ, Nat.add_comm]
theorem br_mul : Br2 X rrMul sMul := by
  intro P O Z env σ H x y v w qz Q l px py hs k
  unfold sMul at hs
  split at hs
  · exact .inl ⟨_, _, px.int l, py.int l, hs.1, k _ hs.2 Z H _ .refl l (.int _)⟩
  · rename_i xs j
    obtain ⟨a, us, rfl, h1, z1, r1⟩ := px.lst l
    have hz : us.length * j.toNat ≤ sizeLine := by rw [r1.length]; exact hs.1.2.2
    exact .inr ⟨a, j, us, rfl, py.int l, h1, hs.1.1, hs.1.2.1, hz, fun p hp => k _ hs.2 Z _ _ (stp_new hp) (l.new hp) (mk_lst l (r1.rep _) (by rw [len_rep]; exact hz) hp)⟩
  · exact hs.elim
theorem re_sub (ha : RB X a ra) (hb : RB X b rb) : RE X (.BinOp a .Sub b pos) (rBin sSub ra rb) := re_bin (pe_op op_sub ha.h hb.h) br_int2'
theorem re_mul (ha : RB X a ra) (hb : RB X b rb) : RE X (.BinOp a .Mult b pos) (rBin sMul ra rb) := re_bin (pe_op (op_mul.or op_rep) ha.h hb.h) br_mul
theorem re_fdiv (ha : RB X a ra) (hb : RB X b rb) : RE X (.BinOp a .FloorDiv b pos) (rBin sFdiv ra rb) := re_bin (pe_op op_fdiv ha.h hb.h) br_int2
theorem re_mod (ha : RB X a ra) (hb : RB X b rb) : RE X (.BinOp a .Mod b pos) (rBin sMod ra rb) := re_bin (pe_op op_mod ha.h hb.h) br_int2
def sNeg : S1
  | .d (.int i), q => q (.d (.int (-i)))
  | _, _ => False
theorem re_neg (ha : RB X a ra) : RE X (.UnaryOp .USub a pos) (rUn sNeg ra) := re_un1 (pe_un un_neg ha.h) (by
  intro P O Z env σ H x v qz Q l px hs k
  unfold sNeg at hs
  split at hs
  · exact ⟨_, px.int l, k _ hs Z H _ .refl l (.int _)⟩
  · exact hs.elim)

/-! ### comparisons -/
def sLt : S2
  | .d (.int i), .d (.int j), q => q (.d (.bool (decide (i < j))))
  | .d (.str x), .d (.str y), q => q (.d (.bool (decide (x.cps.toList < y.cps.toList))))
  | _, _, _ => False
def rrLt : R2 := fun x y H Q => rI0 (fun i j => .bl (decide (i < j))) x y H Q ∨ ∃ i j, x = .str i ∧ y = .str j ∧ Q (.bl (decide (i.cps.toList < j.cps.toList))) H
theorem br_lt : Br2 X rrLt sLt := by
  intro P O Z env σ H x y v w qz Q l px py hs k
  unfold sLt at hs
  split at hs
  · exact .inl ⟨_, _, px.int l, py.int l, k _ hs Z H _ .refl l (.bl _)⟩
  · exact .inr ⟨_, _, px.str l, py.str l, k _ hs Z H _ .refl l (.bl _)⟩
  · exact hs.elim
def sLe : S2 := sIntB fun i j => decide (i ≤ j)
def sGt : S2 := sIntB fun i j => decide (j < i)
def sGe : S2 := sIntB fun i j => decide (j ≤ i)
/-- == : scalars of one kind at once, else data within the model's depth -/
def scalD : PyData → PyData → Bool
  | .int _, .int _ => true
  | .str _, .str _ => true
  | .bool _, .bool _ => true
  | .none, .none => true
  | _, _ => false
def EqOk (d e : PyData) : Prop := scalD d e = true ∨ (SeqAt.shaped d = true ∧ SeqAt.shaped e = true)
def sEq : S2
  | .d d, .d e, q => EqOk d e ∧ q (.d (.bool (PyData.eqv d e)))
  | _, _, _ => False
def sNe : S2
  | .d d, .d e, q => EqOk d e ∧ q (.d (.bool (!PyData.eqv d e)))
  | _, _, _ => False
def rrEq (K : PySem.W.Frag) : R2 := fun x y H Q => rEq x y H Q ∨ rEqD K x y H Q
def rrNe (K : PySem.W.Frag) : R2 := fun x y H Q => rNe x y H Q ∨ rNeD K x y H Q
theorem scal_eq {K : Ct} {P : Addr → Prop} {O : List Addr} {Z : List Rng} {env : Ev} {σ : L2.St} {H : Hp} {x y : V} {d e : PyData} (l : Rl K P O Z env σ H) (px : RpB K (UU P O Z) Z env σ H x (.d d)) (py : RpB K (UU P O Z) Z env σ H y (.d e)) (h : scalD d e = true) :
    scal x y = true ∧ decide (x = y) = PyData.eqv d e := by
  unfold scalD at h
  split at h
  · rw [px.int l, py.int l]; exact ⟨rfl, by rw [dec_int]; simp [PyData.eqv]⟩
  · rw [px.str l, py.str l]; exact ⟨rfl, by rw [dec_str]; simp [PyData.eqv]⟩
  · rw [px.bl l, py.bl l]; exact ⟨rfl, by rw [dec_bl]; simp [PyData.eqv]⟩
  · rw [px.non l, py.non l]; exact ⟨rfl, by simp [PyData.eqv]⟩
  · cases h
theorem br_eq : Br2 X (rrEq X.K) sEq := by
  intro P O Z env σ H x y v w qz Q l px py hs k
  unfold sEq at hs
  split at hs
  · obtain ⟨h | ⟨h1, h2⟩, hs⟩ := hs
    · obtain ⟨s, e⟩ := scal_eq l px py h
      exact .inl ⟨s, by rw [e]; exact k _ hs Z H _ .refl l (.bl _)⟩
    · exact .inr ⟨_, _, px.dp l (SeqAt.canLay_of_shaped h1), py.dp l (SeqAt.canLay_of_shaped h2), h1, h2, k _ hs Z H _ .refl l (.bl _)⟩
  · exact hs.elim
theorem br_ne : Br2 X (rrNe X.K) sNe := by
  intro P O Z env σ H x y v w qz Q l px py hs k
  unfold sNe at hs
  split at hs
  · obtain ⟨h | ⟨h1, h2⟩, hs⟩ := hs
    · obtain ⟨s, e⟩ := scal_eq l px py h
      exact .inl ⟨s, by rw [e]; exact k _ hs Z H _ .refl l (.bl _)⟩
    · exact .inr ⟨_, _, px.dp l (SeqAt.canLay_of_shaped h1), py.dp l (SeqAt.canLay_of_shaped h2), h1, h2, k _ hs Z H _ .refl l (.bl _)⟩
  · exact hs.elim
/-- is None, is not None -/
def isN : PyData → Bool
  | .none => true
  | _ => false
def sIsN : S1
  | .d d, q => q (.d (.bool (isN d)))
  | _, _ => False
def sNotN : S1
  | .d d, q => q (.d (.bool (!isN d)))
  | _, _ => False
theorem RpB.isN {K : Ct} {P : Addr → Prop} {O : List Addr} {Z : List Rng} {env : Ev} {σ : L2.St} {H : Hp} {x : V} {d : PyData} (l : Rl K P O Z env σ H) (px : RpB K (UU P O Z) Z env σ H x (.d d)) : decide (x = .non) = isN d := by
  cases d with
  | none => rw [px.non l]; rfl
  | bool _ => rw [px.bl l]; rfl
  | int _ => rw [px.int l]; rfl
  | str _ => rw [px.str l]; rfl
  | list _ => obtain ⟨a, _, rfl, _⟩ := px.lst l; rfl
  | tuple _ => obtain ⟨a, _, rfl, _⟩ := px.tup l; rfl
  | dict _ => obtain ⟨a, rfl, _⟩ := px.dct l; rfl
/-- a comparison's two forms -/
structure Cmp2 (X : Cx) (op : CmpOp) (s : S2) where
  rr : R2
  ho : OpR X (compareOp op) rr
  br : Br2 X rr s
def cLt : Cmp2 X .Lt sLt := ⟨rrLt, op_lt.or op_lt_str, br_lt⟩
def cLe : Cmp2 X .LtE sLe := ⟨_, op_le, br_intB⟩
def cGt : Cmp2 X .Gt sGt := ⟨_, op_gt, br_intB⟩
def cGe : Cmp2 X .GtE sGe := ⟨_, op_ge, br_intB⟩
def cEq (hu : X.A.units + 64 < cLine) : Cmp2 X .Eq sEq := ⟨rrEq X.K, op_eq.or (op_eqD hu), br_eq⟩
def cNe (hu : X.A.units + 64 < cLine) : Cmp2 X .NotEq sNe := ⟨rrNe X.K, op_ne.or (op_neD hu), br_ne⟩
theorem re_cmp {op : CmpOp} {s : S2} (C : Cmp2 X op s) (ha : RB X a ra) (hb : RB X b rb) (hm : behindInMarks op b = false) : RE X (.Compare a [op] [b] pos) (rBin s ra rb) := re_bin (pe_cmpR C.ho ha.h hb.h hm) C.br
/-- what tells a truth value, as a test -/
def rTest (r : RE1) : RT1 := fun env q => r env fun v e => ∃ k, v = .d (.bool k) ∧ q k e
theorem RT.of {t : TT} (h : PT X e t) (i : ∀ σ H Q, tRT X.ct rt σ H Q → t σ H Q) : RT X e rt := ⟨pt_imp h i⟩
theorem rt_cmp {op : CmpOp} {s : S2} (C : Cmp2 X op s) (ha : RB X a ra) (hb : RB X b rb) (hm : behindInMarks op b = false) : RT X (.Compare a [op] [b] pos) (rTest (rBin s ra rb)) :=
  .of (pt_cmpR C.ho ha.h hb.h hm) fun σ H Q ⟨P, O, Z, env, q, l, w, k⟩ => by
    refine ⟨P, O, Z, env, _, l, w, fun v e1 w1 Z1 H1 x s1 l1 p1 => ?_⟩
    refine ⟨P, O, Z1, e1, _, l1, w1, fun u e2 w2 Z2 H2 y s2 l2 p2 => ?_⟩
    obtain ⟨rfl, w2⟩ := w2
    refine C.br l2 (p1.later s2) p2 w2 fun z hz Z' H' xz s3 l3 p3 => ?_
    obtain ⟨b', rfl, hz⟩ := hz
    cases p3
    exact ⟨b', rfl, k b' _ hz Z' H' ((s1.trans s2).trans s3) l3⟩
theorem re_isN {j : Nat} {p2 : Pos} (ha : RB X a ra) : RE X (.Compare a [.Is] [.Constant .none j p2] pos) (rUn sIsN ra) :=
  .of (pe_cmp (pc_isN ha.h)) fun σ H Q ⟨P, O, Z, env, q, l, w, k⟩ => by
    refine ⟨P, O, Z, env, _, l, w, fun v e1 w1 Z1 H1 x s1 l1 p1 => ?_⟩
    cases v with
    | d d => rw [p1.isN l1]; exact k _ _ w1 Z1 H1 _ s1 l1 (.bl _)
    | _ => exact w1.elim
theorem re_notN {j : Nat} {p2 : Pos} (ha : RB X a ra) : RE X (.Compare a [.IsNot] [.Constant .none j p2] pos) (rUn sNotN ra) :=
  .of (pe_cmp (pc_notN ha.h)) fun σ H Q ⟨P, O, Z, env, q, l, w, k⟩ => by
    refine ⟨P, O, Z, env, _, l, w, fun v e1 w1 Z1 H1 x s1 l1 p1 => ?_⟩
    cases v with
    | d d => rw [p1.isN l1]; exact k _ _ w1 Z1 H1 _ s1 l1 (.bl _)
    | _ => exact w1.elim
theorem rt_isN {j : Nat} {p2 : Pos} (ha : RB X a ra) : RT X (.Compare a [.Is] [.Constant .none j p2] pos) (rTest (rUn sIsN ra)) :=
  .of (pt_cmp (pc_isN ha.h)) fun σ H Q ⟨P, O, Z, env, q, l, w, k⟩ => by
    refine ⟨P, O, Z, env, _, l, w, fun v e1 w1 Z1 H1 x s1 l1 p1 => ?_⟩
    cases v with
    | d d =>
      obtain ⟨b', e, hz⟩ := w1
      cases e
      exact ⟨_, rfl, by rw [p1.isN l1]; exact k _ _ hz Z1 H1 s1 l1⟩
    | _ => exact w1.elim
theorem rt_notN {j : Nat} {p2 : Pos} (ha : RB X a ra) : RT X (.Compare a [.IsNot] [.Constant .none j p2] pos) (rTest (rUn sNotN ra)) :=
  .of (pt_cmp (pc_notN ha.h)) fun σ H Q ⟨P, O, Z, env, q, l, w, k⟩ => by
    refine ⟨P, O, Z, env, _, l, w, fun v e1 w1 Z1 H1 x s1 l1 p1 => ?_⟩
    cases v with
    | d d =>
      obtain ⟨b', e, hz⟩ := w1
      cases e
      exact ⟨_, rfl, by rw [p1.isN l1]; exact k _ _ hz Z1 H1 s1 l1⟩
    | _ => exact w1.elim
/-- a < b < c -/
def rChain (s s' : S2) (ra rb rc : RE1) : RE1 := fun env q => ra env fun v e1 => rb e1 fun w e2 => e2 = e1 ∧ s v w fun z => ∃ k, z = .d (.bool k) ∧ if k = true then rc e2 fun u e3 => e3 = e2 ∧ s' w u fun z => q z e3 else q (.d (.bool false)) e2

/-! ### truth -/
def truD : PyData → Bool
  | .none => false
  | .bool b => b
  | .int i => i != 0
  | .str x => (x.length : Int) != 0
  | .list xs => !xs.isEmpty
  | .tuple xs => !xs.isEmpty
  | .dict xs => !xs.isEmpty
def TruOk : PyData → Prop
  | .str x => x.length ≤ sizeLine
  | .dict xs => ∀ p ∈ xs, ∃ k, p.1 = kD k
  | _ => True
def rTru (r : RE1) : RT1 := fun env q => r env fun v e => ∃ d, v = .d d ∧ TruOk d ∧ q (truD d) e
theorem emp_eq {K : Ct} {U : Addr → Prop} {H : Hp} {xs : List V} {ds : List PyData} (h : RpAll K U H xs ds) : (!ds.isEmpty) = !xs.isEmpty := by cases h <;> rfl
theorem emp_kv {K : Ct} {U : Addr → Prop} {H : Hp} {xs : List (Key × V)} {ds : List (PyData × PyData)} (h : RpKv K U H xs ds) : (!ds.isEmpty) = !xs.isEmpty := by cases h <;> rfl
end
end R
/-! The pure layer, part 2: tests, and | or | not, displays, calls, subscripts, slices. -/
namespace R
open PySem PySem.Spec PyProof.Rows L2
section
variable {X : Cx} {e a b c : Expr} {es rest : List Expr} {r ra rb rc : RE1} {rt ru : RT1} {rs : RA1} {pos : Pos}
theorem rt_tru (ha : RB X a ra) (he : ∀ whole, isTrue a X.env whole = (do let v ← whole; standAt a.pos; holding [v] (truthy v)) := by intro _; rfl) : RT X a (rTru ra) :=
  .of (pt_truth ha.h he) fun σ H Q ⟨P, O, Z, env, q, l, w, k⟩ => by
    refine ⟨P, O, Z, env, _, l, w, fun v e1 w1 Z1 H1 x s1 l1 p1 => ?_⟩
    obtain ⟨d, rfl, ok, w1⟩ := w1
    refine ⟨truD d, ?_, k _ _ w1 Z1 H1 s1 l1⟩
    cases d with
    | none => rw [p1.non l1]; rfl
    | bool b => rw [p1.bl l1]; rfl
    | int b => rw [p1.int l1]; rfl
    | str b => rw [p1.str l1]; exact ⟨ok, rfl⟩
    | list ds =>
      obtain ⟨a, xs, rfl, h1, h2, h3⟩ := p1.lst l1
      exact .inl ⟨xs, .of h1, emp_eq h3⟩
    | tuple ds =>
      obtain ⟨a, xs, rfl, h1, h2, h3, _⟩ := p1.tup l1
      exact .inr (.inl ⟨xs, h1, emp_eq h3⟩)
    | dict ds =>
      obtain ⟨a, rfl, h⟩ := p1.dct l1
      rcases h with ⟨kvs, h1, h2, h3⟩ | ⟨xs, h0, h1, h2, h3⟩
      · exact .inr (.inr ⟨kvs, h1, emp_kv h3⟩)
      · cases h3 with
        | nil => exact absurd rfl h0
        | cons q1 q2 q3 q4 q5 =>
          obtain ⟨k', e'⟩ := ok _ List.mem_cons_self
          cases k' <;> (cases q1 <;> cases e')
/-- a call whose value is a bool, as a test -/
theorem rt_val (ha : RE X a ra) (he : ∀ whole, isTrue a X.env whole = (do let v ← whole; standAt a.pos; holding [v] (truthy v)) := by intro _; rfl) : RT X a (rTest ra) :=
  .of (pt_val ha.h he) fun σ H Q ⟨P, O, Z, env, q, l, w, k⟩ => by
    refine ⟨P, O, Z, env, _, l, w, fun v e1 w1 Z1 H1 x s1 l1 p1 => ?_⟩
    obtain ⟨b', rfl, hz⟩ := w1
    cases p1
    exact ⟨b', rfl, k _ _ hz Z1 H1 s1 l1⟩
theorem RW.t (h : RW X e rt) : RT X e rt := ⟨h.h.pt⟩
def rAnd (rt ru : RT1) : RT1 := fun env q => rt env fun b e1 => if b = true then ru e1 q else q false e1
def rOr (rt ru : RT1) : RT1 := fun env q => rt env fun b e1 => if b = true then q true e1 else ru e1 q
def rNot (rt : RT1) : RT1 := fun env q => rt env fun b e1 => q (!b) e1
theorem rw_and1 (ha : RT X a rt) : RW X (.BoolOp .And [a] pos) rt := ⟨pw_and1 ha.h⟩
theorem rw_or1 (ha : RT X a rt) : RW X (.BoolOp .Or [a] pos) rt := ⟨pw_or1 ha.h⟩
theorem rw_and (ha : RT X a rt) (hb : RW X (.BoolOp .And (b :: rest) pos) ru) : RW X (.BoolOp .And (a :: b :: rest) pos) (rAnd rt ru) :=
  ⟨pw_imp (pw_and ha.h hb.h) fun σ H Q ⟨P, O, Z, env, q, l, w, k⟩ => by
    refine ⟨P, O, Z, env, _, l, w, fun d e1 w1 Z1 H1 s1 l1 => ?_⟩
    cases d with
    | true => exact ⟨P, O, Z1, e1, _, l1, w1, fun d e2 w2 Z2 H2 s2 l2 => k d e2 w2 Z2 H2 (s1.trans s2) l2⟩
    | false => exact k false e1 w1 Z1 H1 s1 l1⟩
theorem rw_or (ha : RT X a rt) (hb : RW X (.BoolOp .Or (b :: rest) pos) ru) : RW X (.BoolOp .Or (a :: b :: rest) pos) (rOr rt ru) :=
  ⟨pw_imp (pw_or ha.h hb.h) fun σ H Q ⟨P, O, Z, env, q, l, w, k⟩ => by
    refine ⟨P, O, Z, env, _, l, w, fun d e1 w1 Z1 H1 s1 l1 => ?_⟩
    cases d with
    | false => exact ⟨P, O, Z1, e1, _, l1, w1, fun d e2 w2 Z2 H2 s2 l2 => k d e2 w2 Z2 H2 (s1.trans s2) l2⟩
    | true => exact k true e1 w1 Z1 H1 s1 l1⟩
theorem rt_not (ha : RT X a rt) : RT X (.UnaryOp .Not a pos) (rNot rt) :=
  .of (pt_not ha.h) fun σ H Q ⟨P, O, Z, env, q, l, w, k⟩ => ⟨P, O, Z, env, _, l, w, fun d e1 w1 Z1 H1 s1 l1 => k _ e1 w1 Z1 H1 s1 l1⟩
/-- the same as values, all of them bools -/
def rAndV (ra rb : RE1) : RE1 := fun env q => ra env fun v e1 => ∃ b, v = .d (.bool b) ∧ if b = true then rb e1 q else q (.d (.bool false)) e1
def rOrV (ra rb : RE1) : RE1 := fun env q => ra env fun v e1 => ∃ b, v = .d (.bool b) ∧ if b = true then q (.d (.bool true)) e1 else rb e1 q
def rNotV (ra : RE1) : RE1 := fun env q => ra env fun v e1 => ∃ b, v = .d (.bool b) ∧ q (.d (.bool !b)) e1
theorem re_one {op : PySem.BoolOp} (ha : RE X a ra) : RE X (.BoolOp op [a] pos) ra := ⟨pe_one ha.h⟩
theorem re_and (ha : RE X a ra) (hb : RE X (.BoolOp .And (b :: rest) pos) rb) : RE X (.BoolOp .And (a :: b :: rest) pos) (rAndV ra rb) :=
  .of (pe_and ha.h hb.h) fun σ H Q ⟨P, O, Z, env, q, l, w, k⟩ => by
    refine ⟨P, O, Z, env, _, l, w, fun v e1 w1 Z1 H1 x s1 l1 p1 => ?_⟩
    obtain ⟨d, rfl, w1⟩ := w1
    cases p1
    refine ⟨d, rfl, ?_⟩
    cases d with
    | true => exact ⟨P, O, Z1, e1, _, l1, w1, fun d e2 w2 Z2 H2 x s2 l2 p2 => k d e2 w2 Z2 H2 x (s1.trans s2) l2 p2⟩
    | false => exact k _ e1 w1 Z1 H1 _ s1 l1 (.bl _)
theorem re_or (ha : RE X a ra) (hb : RE X (.BoolOp .Or (b :: rest) pos) rb) : RE X (.BoolOp .Or (a :: b :: rest) pos) (rOrV ra rb) :=
  .of (pe_or ha.h hb.h) fun σ H Q ⟨P, O, Z, env, q, l, w, k⟩ => by
    refine ⟨P, O, Z, env, _, l, w, fun v e1 w1 Z1 H1 x s1 l1 p1 => ?_⟩
    obtain ⟨d, rfl, w1⟩ := w1
    cases p1
    refine ⟨d, rfl, ?_⟩
    cases d with
    | false => exact ⟨P, O, Z1, e1, _, l1, w1, fun d e2 w2 Z2 H2 x s2 l2 p2 => k d e2 w2 Z2 H2 x (s1.trans s2) l2 p2⟩
    | true => exact k _ e1 w1 Z1 H1 _ s1 l1 (.bl _)
theorem re_not (ha : RE X a ra) : RE X (.UnaryOp .Not a pos) (rNotV ra) :=
  .of (pe_not ha.h) fun σ H Q ⟨P, O, Z, env, q, l, w, k⟩ => by
    refine ⟨P, O, Z, env, _, l, w, fun v e1 w1 Z1 H1 x s1 l1 p1 => ?_⟩
    obtain ⟨d, rfl, w1⟩ := w1
    cases p1
    exact ⟨d, rfl, k _ e1 w1 Z1 H1 _ s1 l1 (.bl _)⟩
def rIte (rt : RT1) (ra rb : RE1) : RE1 := fun env q => rt env fun b e1 => if b = true then ra e1 q else rb e1 q
theorem re_ite (hc : RT X c rt) (ha : RE X a ra) (hb : RE X b rb) : RE X (.IfExp c a b pos) (rIte rt ra rb) :=
  .of (pe_ifExp hc.h ha.h hb.h) fun σ H Q ⟨P, O, Z, env, q, l, w, k⟩ => by
    refine ⟨P, O, Z, env, _, l, w, fun d e1 w1 Z1 H1 s1 l1 => ?_⟩
    cases d with
    | true => exact ⟨P, O, Z1, e1, _, l1, w1, fun d e2 w2 Z2 H2 x s2 l2 p2 => k d e2 w2 Z2 H2 x (s1.trans s2) l2 p2⟩
    | false => exact ⟨P, O, Z1, e1, _, l1, w1, fun d e2 w2 Z2 H2 x s2 l2 p2 => k d e2 w2 Z2 H2 x (s1.trans s2) l2 p2⟩
/-- a < b < c as a value, as a test -/
theorem re_chain {op op' : CmpOp} {s s' : S2} (C : Cmp2 X op s) (C' : Cmp2 X op' s') (ha : RB X a ra) (hb : RB X b rb) (hc : RB X c rc) (h : PE X e (tChain C.rr C'.rr (tRB X.ct ra) (tRB X.ct rb) (tRB X.ct rc))) : RE X e (rChain s s' ra rb rc) :=
  .of h fun σ H Q ⟨P, O, Z, env, q, l, w, k⟩ => by
    refine ⟨P, O, Z, env, _, l, w, fun v e1 w1 Z1 H1 x s1 l1 p1 => ?_⟩
    refine ⟨P, O, Z1, e1, _, l1, w1, fun u e2 w2 Z2 H2 y s2 l2 p2 => ?_⟩
    obtain ⟨rfl, w2⟩ := w2
    refine C.br l2 (p1.later s2) p2 w2 fun z hz Z3 H3 xz s3 l3 p3 => ?_
    obtain ⟨b', rfl, hz⟩ := hz
    cases p3
    refine ⟨b', rfl, ?_⟩
    cases b' with
    | false => exact k _ _ hz Z3 H3 _ ((s1.trans s2).trans s3) l3 (.bl _)
    | true =>
      refine ⟨P, O, Z3, _, _, l3, hz, fun u3 e3 w3 Z4 H4 y3 s4 l4 p4 => ?_⟩
      obtain ⟨rfl, w3⟩ := w3
      exact C'.br l4 ((p2.later s3).later s4) p4 w3 fun z hz Z5 H5 xz s5 l5 p5 => k _ _ hz Z5 H5 _ (((s1.trans s2).trans s3).trans (s4.trans s5)) l5 p5

/-! ### argument lists, displays -/
theorem RpVs.nil {K : Ct} {U : Addr → Prop} {Z : List Rng} {H : Hp} : RpVs K U Z H [] [] := Paired.nil
def rNil : RA1 := fun env q => q [] env
def rCons (ra : RE1) (rs : RA1) : RA1 := fun env q => ra env fun v e1 => rs e1 fun vs e2 => q (v :: vs) e2
theorem ra_nil : RA X [] rNil := ⟨pa_imp pa_nil fun σ H Q ⟨P, O, Z, env, q, l, w, k⟩ => k [] env w Z H [] .refl l .nil⟩
theorem ra_cons (ha : RE X e ra) (hr : RA X es rs) (hs : starEach (e :: es) X.env = (false, eval e X.env) :: starEach es X.env := by rfl) : RA X (e :: es) (rCons ra rs) :=
  ⟨pa_imp (pa_cons ha.h hr.h hs) fun σ H Q ⟨P, O, Z, env, q, l, w, k⟩ => by
    refine ⟨P, O, Z, env, _, l, w, fun v e1 w1 Z1 H1 x s1 l1 p1 => ?_⟩
    exact ⟨P, O, Z1, e1, _, l1, w1, fun vs e2 w2 Z2 H2 xs s2 l2 p2 => k (v :: vs) e2 w2 Z2 H2 (x :: xs) (s1.trans s2) l2 (.cons (s2.rpV p1) p2)⟩⟩
/-- *e -/
def seqD : PV → Option (List PyData)
  | .d (.list ds) => some ds
  | .d (.tuple ds) => some ds
  | _ => none
def rStar (ra : RE1) (rs : RA1) : RA1 := fun env q => ra env fun v e1 => ∃ ds, seqD v = some ds ∧ rs e1 fun vs e2 => e2 = e1 ∧ q (ds.map .d ++ vs) e2
theorem RpVs.of {K : Ct} {U : Addr → Prop} {Z : List Rng} {H : Hp} : ∀ {xs : List V} {ds : List PyData}, RpAll K U H xs ds → RpVs K U Z H xs (ds.map .d)
  | _, [], h => by cases h; exact .nil
  | _, d :: ds, h => by
    cases h with
    | cons r t => exact .cons r (RpVs.of t)
theorem RpVs.app {K : Ct} {U : Addr → Prop} {Z : List Rng} {H : Hp} {xs ys : List V} {vs ws : List PV} (h : RpVs K U Z H xs vs) (h2 : RpVs K U Z H ys ws) : RpVs K U Z H (xs ++ ys) (vs ++ ws) := by
  induction h with
  | nil => exact h2
  | cons r t ih => exact .cons r ih
theorem ra_star {p : Pos} (ha : RB X e ra) (hr : RA X es rs) (hs : starEach (.Starred e p :: es) X.env = (true, eval e X.env) :: starEach es X.env := by rfl) : RA X (.Starred e p :: es) (rStar ra rs) :=
  ⟨pa_imp (StX.pa_star ha.h hr.h hs) fun σ H Q ⟨P, O, Z, env, q, l, w, k⟩ => by
    refine ⟨P, O, Z, env, _, l, w, fun v e1 w1 Z1 H1 x s1 l1 p1 => ?_⟩
    obtain ⟨ds, hv, w1⟩ := w1
    have hx : ∃ p xs, x = V.ref p ∧ (SqT X.K H1 p xs ∨ SqL X.K H1 p xs) ∧ RpAll X.ct (UU P O Z1) H1 xs ds := by
      unfold seqD at hv
      split at hv
      · cases hv
        obtain ⟨p, xs, rfl, h1, h2, h3⟩ := p1.lst l1
        exact ⟨p, xs, rfl, .inr (.of h1), h3⟩
      · cases hv
        obtain ⟨p, xs, rfl, h1, h2, h3, _⟩ := p1.tup l1
        exact ⟨p, xs, rfl, .inl h1, h3⟩
      · cases hv
    obtain ⟨p, xs, rfl, hp, hd⟩ := hx
    refine ⟨p, xs, rfl, hp, P, O, Z1, e1, _, l1, w1, fun vs e2 w2 Z2 H2 ys s2 l2 p2 => ?_⟩
    exact k _ e2 w2.2 Z2 H2 _ (s1.trans s2) l2 ((RpVs.of (s2.rpA hd)).app p2)⟩
/-- the values as data -/
def datas : List PV → Option (List PyData)
  | [] => some []
  | .d x :: r => (datas r).map (x :: ·)
  | _ :: _ => none
def rTup (rs : RA1) : RE1 := fun env q => rs env fun vs e1 => ∃ ds, datas vs = some ds ∧ ds.length ≤ sizeLine ∧ q (.d (.tuple ds)) e1
def rLst (rs : RA1) : RE1 := fun env q => rs env fun vs e1 => ∃ ds, datas vs = some ds ∧ ds.length ≤ sizeLine ∧ q (.d (.list ds)) e1
theorem RpVs.datas {K : Ct} {U : Addr → Prop} {Z : List Rng} {H : Hp} : ∀ {vs : List PV} {xs : List V} {ds : List PyData}, RpVs K U Z H xs vs → datas vs = some ds → RpAll K U H xs ds
  | [], _, _, h, e => by
    cases h
    cases e
    exact .nil
  | .d x :: r, _, _, h, e => by
    cases h with
    | cons h t =>
      unfold R.datas at e
      obtain ⟨ys, e1, rfl⟩ := Option.map_eq_some_iff.mp e
      exact .cons h (RpVs.datas t e1)
  | .src _ :: r, _, _, h, e => by cases e
  | .scr :: r, _, _, h, e => by cases e
theorem re_tup {k : Nat} (h : RA X es rs) : RE X (.Tuple es k pos) (rTup rs) :=
  .of (pe_tup h.h) fun σ H Q ⟨P, O, Z, env, q, l, w, k⟩ => by
    refine ⟨P, O, Z, env, _, l, w, fun vs e1 w1 Z1 H1 xs s1 l1 p1 => ?_⟩
    obtain ⟨ds, e, z, w1⟩ := w1
    have h := p1.datas e
    have hz : xs.length ≤ sizeLine := by rw [h.length]; exact z
    exact ⟨hz, fun p hp => k _ e1 w1 Z1 _ _ (s1.trans (stp_new hp)) (l1.new hp) (mk_tup l1 h hz hp)⟩
theorem re_lst (h : RA X es rs) : RE X (.List es pos) (rLst rs) :=
  .of (pe_lst h.h) fun σ H Q ⟨P, O, Z, env, q, l, w, k⟩ => by
    refine ⟨P, O, Z, env, _, l, w, fun vs e1 w1 Z1 H1 xs s1 l1 p1 => ?_⟩
    obtain ⟨ds, e, z, w1⟩ := w1
    have h := p1.datas e
    have hz : xs.length ≤ sizeLine := by rw [h.length]; exact z
    exact ⟨hz, fun p hp => k _ e1 w1 Z1 _ _ (s1.trans (stp_new hp)) (l1.new hp) (mk_lst l1 h hz hp)⟩

/-! ### calls of defs -/
abbrev Spec := List PV → (PV → Prop) → Prop
/-- the promise of a def of n parameters over data -/
def spR (K : Ct) (n : Nat) (C : Spec) : Sp := fun vs H Q _ => ∃ (P : Addr → Prop) (Z : List Rng) (args : List PV) (q : PV → Prop), vs.length = n ∧ (∀ a, P a → H a ≠ none) ∧ RngAll P Z H ∧ RpVs K (UU P [] Z) Z H vs args ∧ C args q ∧
  ∀ v, q v → ∀ Z' H' x, Stp [] Z H Z' H' → RngAll P Z' H' → RpV K (UU P [] Z') Z' H' x v → Q x H'
theorem Stp.more0 {O : List Addr} {Z Z' : List Rng} {H H' : Hp} (s : Stp [] Z H Z' H') : Stp O Z H Z' H' := s.wide fun a h => nomatch h
/-- behind a call nothing of the caller's has changed -/
theorem Rl.called {K : Ct} {P : Addr → Prop} {O : List Addr} {Z Z' : List Rng} {env : Ev} {σ : L2.St} {H H' : Hp} (l : Rl K P O Z env σ H) (s : Stp [] Z H Z' H') (g : RngAll (fun a => P a ∨ a ∈ O) Z' H') : Rl K P O Z' env σ H' := by
  have s' : Stp O Z H Z' H' := s.more0
  refine ⟨l.len, fun i v e => ?_, fun i d e => ?_, l.inj, fun a h => ?_, fun a h => s.there a (l.prot a h), ⟨fun z hz => ⟨(g.1 z hz).1, fun q => (g.1 z hz).2.1 (.inl q), fun q => (g.1 z hz).2.2 (.inl q)⟩, g.2⟩⟩
  · obtain ⟨x, h1, h2⟩ := l.slot i v e
    exact ⟨x, h1, s'.rpV h2⟩
  · obtain ⟨a, h1, h2, h3⟩ := l.own i d e
    exact ⟨a, h1, h2, h3.mono (fun o q => s.keep a o q (fun w => nomatch w) (l.dis a h2).2.1) s'.ext s'.uu⟩
  · obtain ⟨n1, n2, n3⟩ := l.dis a h
    exact ⟨n1, fun q => n2 (s.zad q n3), s.there a n3⟩
theorem Rl.rngC {K : Ct} {P : Addr → Prop} {O : List Addr} {Z : List Rng} {env : Ev} {σ : L2.St} {H : Hp} (l : Rl K P O Z env σ H) : RngAll (fun a => P a ∨ a ∈ O) Z H :=
  ⟨fun z hz => ⟨(l.rng.1 z hz).1, fun q => q.elim (l.rng.1 z hz).2.1 fun w => (l.dis _ w).2.1 ⟨z, hz, .inl rfl⟩, fun q => q.elim (l.rng.1 z hz).2.2 fun w => (l.dis _ w).2.1 ⟨z, hz, .inr rfl⟩⟩, l.rng.2⟩
theorem uu_call {P : Addr → Prop} {O : List Addr} {Z : List Rng} {a : Addr} : UU (fun a => P a ∨ a ∈ O) [] Z a ↔ UU P O Z a := by
  constructor
  · rintro ((q | q) | q | q)
    · exact .inl q
    · exact .inr (.inl q)
    · exact nomatch q
    · exact .inr (.inr q)
  · rintro (q | q | q)
    · exact .inl (.inl q)
    · exact .inl (.inr q)
    · exact .inr (.inr q)
theorem spR_of {K : Ct} {n : Nat} {C : Spec} {P : Addr → Prop} {O : List Addr} {Z : List Rng} {env : Ev} {σ : L2.St} {H : Hp} {vs : List V} {args : List PV} {q : PV → Prop} {Q : VK} (l : Rl K P O Z env σ H) (hn : vs.length = n) (p : RpVs K (UU P O Z) Z H vs args) (h : C args q)
    (k : ∀ v, q v → ∀ Z' H' x, Stp O Z H Z' H' → Rl K P O Z' env σ H' → RpV K (UU P O Z') Z' H' x v → Q x H') {E : XK} : spR K n C vs H Q E := by
  refine ⟨fun a => P a ∨ a ∈ O, Z, args, q, hn, fun a w => w.elim (l.prot a) fun w => (l.dis a w).2.2, l.rngC, RpVs.mono (fun a o _ => id) (fun a _ w => uu_call.mp w) (fun _ _ => id) p, h, fun v hv Z' H' x s g r => ?_⟩
  exact k v hv Z' H' x s.more0 (l.called s g) (r.mono (fun _ _ _ => id) (fun a _ w => uu_call.mpr w) fun _ _ => id)
def rCall (n : Nat) (C : Spec) (rs : RA1) : RE1 := fun env q => rs env fun vs e1 => vs.length = n ∧ C vs fun z => q z e1
theorem re_call {k : Nat} {f : Addr} {fd : FuncData} {ps : List Str} {n : Nat} {C : Spec} {x : Str} {p : Pos} (F : FnOk X.prog X.w X.K X.mg X.base CX0 k f fd ps (spR X.ct n C)) (hr : Room k X.A) (hg : Gl X x) (hm : X.mg x = some (.ref f)) (hk : PySem.W.keepIn X.K (.ref f) = true) (hb : Binds X.K fd ps [])
    (ha : RA X (e :: es) rs) (hdb : (x == ("__debug__" : Str)) = false := by decide) (he : starEach (e :: es) X.env = (false, eval e X.env) :: starEach es X.env := by rfl) (hpl : (backTo pos (starEach es X.env)).any (·.1) = false := by rfl) :
    RE X (.Call (.Name x p) (e :: es) [] pos) (rCall n C rs) :=
  .of (pe_call F hr hg hm hk hb .nil pass0 ha.h hdb he hpl) fun σ H Q ⟨P, O, Z, env, q, l, w, k⟩ => by
    refine ⟨P, O, Z, env, _, l, w, fun vs e1 w1 Z1 H1 xs s1 l1 p1 => ?_⟩
    show spR X.ct n C (xs ++ []) H1 Q E0
    rw [List.append_nil]
    exact spR_of l1 ((Paired.length p1).trans w1.1) p1 w1.2 fun v hv Z' H' x s g r => k v e1 hv Z' H' x (s1.trans s) g r
theorem re_call0 {k : Nat} {f : Addr} {fd : FuncData} {ps : List Str} {C : Spec} {x : Str} {p : Pos} (F : FnOk X.prog X.w X.K X.mg X.base CX0 k f fd ps (spR X.ct 0 C)) (hr : Room k X.A) (hg : Gl X x) (hm : X.mg x = some (.ref f)) (hk : PySem.W.keepIn X.K (.ref f) = true) (hb : Binds X.K fd ps [])
    (hdb : (x == ("__debug__" : Str)) = false := by decide) : RE X (.Call (.Name x p) [] [] pos) (rCall 0 C rNil) :=
  .of (pe_call0 F hr hg hm hk hb .nil pass0 hdb) fun σ H Q ⟨P, O, Z, env, q, l, w, k⟩ =>
    spR_of (E := E0) l rfl .nil w.2 fun v hv Z' H' x s g r => k v env hv Z' H' x s g r

/-! ### subscripts -/
def ixD (xs : List PyData) (i : Int) : Option PyData := atI xs i
def sIx : S2
  | .d (.list xs), .d (.int i), q => ∃ d, atI xs i = some d ∧ q (.d d)
  | .d (.tuple xs), .d (.int i), q => ∃ d, atI xs i = some d ∧ q (.d d)
  | .d (.str x), .d (.int i), q => x.length ≤ sizeLine ∧ ∃ c, atI x.cps.toList i = some c ∧ q (.d (.str ⟨#[c]⟩))
  | _, _, _ => False
theorem RpAll.at {K : Ct} {U : Addr → Prop} {H : Hp} {xs : List V} {ds : List PyData} {i : Int} {d : PyData} (h : RpAll K U H xs ds) (e : atI ds i = some d) : ∃ v, atI xs i = some v ∧ Rp K U H v d := by
  unfold atI at e ⊢
  rw [← h.length] at e
  obtain ⟨j, e1, e2⟩ := Option.bind_eq_some_iff.mp e
  obtain ⟨v, h1, h2⟩ := h.get e2
  exact ⟨v, by rw [e1]; exact h1, h2⟩
theorem br_ix : Br2 X (rIx X.K) sIx := by
  intro P O Z env σ H x y v w qz Q l px py hs k
  unfold sIx at hs
  split at hs
  · obtain ⟨d, h, hs⟩ := hs
    obtain ⟨a, us, rfl, h1, z1, r1⟩ := px.lst l
    obtain ⟨u, h2, r2⟩ := r1.at h
    exact .inl ⟨a, us, _, u, rfl, py.int l, .of h1, h2, k _ hs Z H _ .refl l r2⟩
  · obtain ⟨d, h, hs⟩ := hs
    obtain ⟨a, us, rfl, h1, z1, r1, _⟩ := px.tup l
    obtain ⟨u, h2, r2⟩ := r1.at h
    exact .inr (.inl ⟨a, us, _, u, rfl, py.int l, h1, h2, k _ hs Z H _ .refl l r2⟩)
  · obtain ⟨hz, c, h, hs⟩ := hs
    exact .inr (.inr ⟨_, _, c, px.str l, py.int l, hz, h, k _ hs Z H _ .refl l (.str _)⟩)
  · exact hs.elim
theorem re_ix (ha : RB X a ra) (hb : RB X b rb) (hs : PlainIx b) : RE X (.Subscript a b pos) (rBin sIx ra rb) := re_bin (pe_ix ix_seq ha.h hb.h hs) br_ix

/-! ### slices -/
abbrev RO1 := Ev → (Option Int → Ev → Prop) → Prop
def tRO (K : Ct) (r : RO1) : TO := fun σ H Q => ∃ P O Z env q, Rl K P O Z env σ H ∧ r env q ∧ ∀ o env', q o env' → ∀ Z' H', Stp O Z H Z' H' → Rl K P O Z' env' σ H' → Q o H'
structure RO (X : Cx) (e : Option Expr) (r : RO1) : Prop where
  h : PO X e (tRO X.ct r)
theorem po_imp {e : Option Expr} {t u : TO} (h : PO X e t) (i : ∀ σ H Q, u σ H Q → t σ H Q) : PO X e u := ⟨fun pins s σ H Q I w => h.run pins s σ H Q I (i σ H Q w)⟩
def rNoPart : RO1 := fun env q => q none env
def rPart (r : RE1) : RO1 := fun env q => r env fun v e1 => ∃ i, v = .d (.int i) ∧ q (some i) e1
theorem ro_none : RO X none rNoPart := ⟨po_imp po_none fun σ H Q ⟨P, O, Z, env, q, l, w, k⟩ => k _ env w Z H .refl l⟩
theorem ro_some (h : RB X e r) : RO X (some e) (rPart r) := ⟨po_imp (po_some h.h) fun σ H Q ⟨P, O, Z, env, q, l, w, k⟩ => by
  refine ⟨P, O, Z, env, _, l, w, fun v e1 w1 Z1 H1 x s1 l1 p1 => ?_⟩
  obtain ⟨i, rfl, w1⟩ := w1
  exact ⟨i, p1.int l1, k _ e1 w1 Z1 H1 s1 l1⟩⟩
def sCut (lo hi : Option Int) : S1
  | .d (.list xs), q => q (.d (.list ((xs.drop (HT.sIx xs.length 0 lo)).take (HT.sIx xs.length xs.length hi - HT.sIx xs.length 0 lo))))
  | .d (.tuple xs), q => q (.d (.tuple ((xs.drop (HT.sIx xs.length 0 lo)).take (HT.sIx xs.length xs.length hi - HT.sIx xs.length 0 lo))))
  | .d (.str x), q => x.length ≤ sizeLine ∧ q (.d (.str (cutS x lo hi)))
  | _, _ => False
def rSlice (ra : RE1) (rl rh : RO1) : RE1 := fun env q => ra env fun v e1 => rl e1 fun lo e2 => rh e2 fun hi e3 => e3 = e1 ∧ e2 = e1 ∧ sCut lo hi v fun z => q z e3

theorem cut_len {α : Type} (xs : List α) (lo hi : Option Int) : ((xs.drop (HT.sIx xs.length 0 lo)).take (HT.sIx xs.length xs.length hi - HT.sIx xs.length 0 lo)).length ≤ xs.length := by
  rw [List.length_take, List.length_drop]
  omega
theorem cut_whole {α : Type} (xs : List α) {lo hi : Option Int} (h : HT.sIx xs.length 0 lo = 0 ∧ HT.sIx xs.length xs.length hi = xs.length) : (xs.drop (HT.sIx xs.length 0 lo)).take (HT.sIx xs.length xs.length hi - HT.sIx xs.length 0 lo) = xs := by
  rw [h.1, h.2]
  simp
theorem RpAll.cut {K : Ct} {U : Addr → Prop} {H : Hp} {xs : List V} {ds : List PyData} (h : RpAll K U H xs ds) (lo hi : Option Int) : RpAll K U H (cutV xs lo hi) ((ds.drop (HT.sIx ds.length 0 lo)).take (HT.sIx ds.length ds.length hi - HT.sIx ds.length 0 lo)) := by
  unfold cutV
  rw [← h.length]
  exact (h.drop _).take _
def rrCut (K : PySem.W.Frag) : V → Option Int → Option Int → Hp → VK → Prop := fun x lo hi H Q => rSlL K x lo hi H Q ∨ rSlA K x lo hi H Q ∨ rSlS x lo hi H Q
theorem sl_all : SlR X (rrCut X.K) := sl_list.or (sl_tupA.or sl_str)
theorem br_cut {P : Addr → Prop} {O : List Addr} {Z : List Rng} {env : Ev} {σ : L2.St} {H : Hp} {x : V} {v : PV} {lo hi : Option Int} {qz : PV → Prop} {Q : VK} (l : Rl X.ct P O Z env σ H) (px : RpB X.ct (UU P O Z) Z env σ H x v) (hs : sCut lo hi v qz)
    (k : ∀ z, qz z → ∀ Z' H' xz, Stp O Z H Z' H' → Rl X.ct P O Z' env σ H' → RpV X.ct (UU P O Z') Z' H' xz z → Q xz H') : rrCut X.K x lo hi H Q := by
  unfold sCut at hs
  split at hs
  · obtain ⟨a, us, rfl, h1, z1, r1⟩ := px.lst l
    exact .inl ⟨a, us, rfl, .of h1, fun p hp => k _ hs Z _ _ (stp_new hp) (l.new hp) (mk_lst l (r1.cut lo hi) (Nat.le_trans (cut_len us lo hi) z1) hp)⟩
  · obtain ⟨a, us, rfl, h1, z1, r1, f1⟩ := px.tup l
    refine .inr (.inl ⟨a, us, rfl, h1, fun e => ?_, fun _ p hp => k _ hs Z _ _ (stp_new hp) (l.new hp) (mk_tup l (r1.cut lo hi) (Nat.le_trans (cut_len us lo hi) z1) hp)⟩)
    rw [r1.length] at e
    rw [cut_whole _ e] at hs
    exact k _ hs Z H _ .refl l f1
  · exact .inr (.inr ⟨_, px.str l, hs.1, k _ hs.2 Z H _ .refl l (.str _)⟩)
  · exact hs.elim
theorem re_slice {lo hi : Option Expr} {rl rh : RO1} {p2 : Pos} (ha : RB X a ra) (hl : RO X lo rl) (hh : RO X hi rh) : RE X (.Subscript a (.Slice lo hi none p2) pos) (rSlice ra rl rh) :=
  .of (pe_slice sl_all ha.h hl.h hh.h) fun σ H Q ⟨P, O, Z, env, q, l, w, k⟩ => by
    refine ⟨P, O, Z, env, _, l, w, fun v e1 w1 Z1 H1 x s1 l1 p1 => ?_⟩
    refine ⟨P, O, Z1, e1, _, l1, w1, fun lo e2 w2 Z2 H2 s2 l2 => ?_⟩
    refine ⟨P, O, Z2, e2, _, l2, w2, fun hi e3 w3 Z3 H3 s3 l3 => ?_⟩
    obtain ⟨rfl, rfl, w3⟩ := w3
    exact br_cut l3 ((p1.later s2).later s3) w3 fun z hz Z' H' xz s4 l4 p4 => k z _ hz Z' H' xz (((s1.trans s2).trans s3).trans s4) l4 p4
/-- xs[::-1] of a list -/
def sRev : S1
  | .d (.list xs), q => q (.d (.list xs.reverse))
  | _, _ => False
theorem re_revL {k : Nat} {p1 p2 p3 : Pos} (ha : RB X a ra) : RE X (.Subscript a (.Slice none none (some (.UnaryOp .USub (.Constant (.int 1) k p1) p2)) p3) pos) (rUn sRev ra) :=
  .of (pe_revL ha.h) fun σ H Q ⟨P, O, Z, env, q, l, w, k⟩ => by
    refine ⟨P, O, Z, env, _, l, w, fun v e1 w1 Z1 H1 x s1 l1 p1 => ?_⟩
    unfold sRev at w1
    split at w1
    · obtain ⟨a, us, rfl, h1, z1, r1⟩ := p1.lst l1
      exact ⟨a, us, rfl, .of h1, fun p hp => k _ e1 w1 Z1 _ _ (s1.trans (stp_new hp)) (l1.new hp) (mk_lst l1 r1.rev (by rw [List.length_reverse]; exact z1) hp)⟩
    · exact w1.elim

/-! ### builtins by their arguments -/
/-- arguments where an owned container may stand -/
def RpBs (K : Ct) (U : Addr → Prop) (Z : List Rng) (env : Ev) (σ : L2.St) (H : Hp) : List V → List PV → Prop := Paired (RpB K U Z env σ H)
def tRAB (K : Ct) (r : RA1) : TA := fun σ H Q => ∃ P O Z env q, Rl K P O Z env σ H ∧ r env q ∧ ∀ vs env', q vs env' → ∀ Z' H' xs, Stp O Z H Z' H' → Rl K P O Z' env' σ H' → RpBs K (UU P O Z') Z' env' σ H' xs vs → Q xs H'
structure RAB (X : Cx) (es : List Expr) (r : RA1) : Prop where
  h : PA X es (tRAB X.ct r)
def rConsB (ra : RE1) (rs : RA1) : RA1 := fun env q => ra env fun v e1 => rs e1 fun vs e2 => e2 = e1 ∧ q (v :: vs) e2
theorem rab_nil : RAB X [] rNil := ⟨pa_imp pa_nil fun σ H Q ⟨P, O, Z, env, q, l, w, k⟩ => k [] env w Z H [] .refl l .nil⟩
theorem rab_cons (ha : RB X e ra) (hr : RAB X es rs) (hs : starEach (e :: es) X.env = (false, eval e X.env) :: starEach es X.env := by rfl) : RAB X (e :: es) (rConsB ra rs) :=
  ⟨pa_imp (pa_cons ha.h hr.h hs) fun σ H Q ⟨P, O, Z, env, q, l, w, k⟩ => by
    refine ⟨P, O, Z, env, _, l, w, fun v e1 w1 Z1 H1 x s1 l1 p1 => ?_⟩
    refine ⟨P, O, Z1, e1, _, l1, w1, fun vs e2 w2 Z2 H2 xs s2 l2 p2 => ?_⟩
    obtain ⟨rfl, w2⟩ := w2
    exact k (v :: vs) _ w2 Z2 H2 (x :: xs) (s1.trans s2) l2 (.cons (p1.later s2) p2)⟩
def BrA (X : Cx) (rr : List V → Hp → VK → Prop) (s : SA) : Prop := ∀ {P O Z env σ H xs vs} {qz : PV → Prop} {Q : VK}, Rl X.ct P O Z env σ H → RpBs X.ct (UU P O Z) Z env σ H xs vs → s vs qz →
  (∀ z, qz z → ∀ Z' H' xz, Stp O Z H Z' H' → Rl X.ct P O Z' env σ H' → RpV X.ct (UU P O Z') Z' H' xz z → Q xz H') → rr xs H Q
def rBi (s : SA) (rs : RA1) : RE1 := fun env q => rs env fun vs e1 => s vs fun z => q z e1
theorem re_callB {id : String} {rr : List V → Hp → VK → Prop} {s : SA} {x : Str} {p : Pos} (hc : CallR X (.builtin id) rr) (br : BrA X rr s) (hg : Gl X x) (hm : X.mg x = none) (hv : bootBuiltins x = some (.builtin id)) (ha : RAB X (e :: es) rs) (hn : x ≠ "__name__" := by decide) (hdb : (x == ("__debug__" : Str)) = false := by decide)
    (h : PE X (.Call (.Name x p) (e :: es) [] pos) (tCB rr (tRAB X.ct rs)) := by exact pe_callB hc hg hm hv ha.h hn hdb) : RE X (.Call (.Name x p) (e :: es) [] pos) (rBi s rs) :=
  .of h fun σ H Q ⟨P, O, Z, env, q, l, w, k⟩ => by
    refine ⟨P, O, Z, env, _, l, w, fun vs e1 w1 Z1 H1 xs s1 l1 p1 => ?_⟩
    exact br l1 p1 w1 fun z hz Z' H' xz s2 l2 p2 => k z e1 hz Z' H' xz (s1.trans s2) l2 p2
theorem re_callTy {T : String} {rr : List V → Hp → VK → Prop} {s : SA} {x : Str} {p : Pos} (hc : CallR X (.type T) rr) (br : BrA X rr s) (hg : Gl X x) (hm : X.mg x = none) (hv : bootBuiltins x = some (.type T)) (ha : RAB X (e :: es) rs) (hn : x ≠ "__name__" := by decide) (hdb : (x == ("__debug__" : Str)) = false := by decide)
    (h : PE X (.Call (.Name x p) (e :: es) [] pos) (tCB rr (tRAB X.ct rs)) := by exact pe_callTy hc hg hm hv ha.h hn hdb) : RE X (.Call (.Name x p) (e :: es) [] pos) (rBi s rs) :=
  .of h fun σ H Q ⟨P, O, Z, env, q, l, w, k⟩ => by
    refine ⟨P, O, Z, env, _, l, w, fun vs e1 w1 Z1 H1 xs s1 l1 p1 => ?_⟩
    exact br l1 p1 w1 fun z hz Z' H' xz s2 l2 p2 => k z e1 hz Z' H' xz (s1.trans s2) l2 p2
theorem RpBs.one {K : Ct} {U : Addr → Prop} {Z : List Rng} {env : Ev} {σ : L2.St} {H : Hp} {xs : List V} {v : PV} (h : RpBs K U Z env σ H xs [v]) : ∃ x, xs = [x] ∧ RpB K U Z env σ H x v := by
  cases h with
  | cons r t =>
    cases t
    exact ⟨_, rfl, r⟩
theorem RpBs.two {K : Ct} {U : Addr → Prop} {Z : List Rng} {env : Ev} {σ : L2.St} {H : Hp} {xs : List V} {v w : PV} (h : RpBs K U Z env σ H xs [v, w]) : ∃ x y, xs = [x, y] ∧ RpB K U Z env σ H x v ∧ RpB K U Z env σ H y w := by
  cases h with
  | cons r t =>
    cases t with
    | cons r2 t =>
      cases t
      exact ⟨_, _, rfl, r, r2⟩
def sAbs : SA
  | [.d (.int i)], q => q (.d (.int (if i < 0 then -i else i)))
  | _, _ => False
def sMax2 : SA
  | [.d (.int i), .d (.int j)], q => q (.d (.int (if j > i then j else i)))
  | _, _ => False
def sMin2 : SA
  | [.d (.int i), .d (.int j)], q => q (.d (.int (if j < i then j else i)))
  | _, _ => False
def sInt1 : SA
  | [.d (.int i)], q => q (.d (.int i))
  | [.d (.bool b)], q => q (.d (.int (if b then 1 else 0)))
  | _, _ => False
theorem br_abs : BrA X (fun xs H Q => ∃ i, xs = [.int i] ∧ Q (.int (if i < 0 then -i else i)) H) sAbs := by
  intro P O Z env σ H xs vs qz Q l px hs k
  unfold sAbs at hs
  split at hs
  · obtain ⟨x, rfl, h⟩ := px.one
    exact ⟨_, by rw [h.int l], k _ hs Z H _ .refl l (.int _)⟩
  · exact hs.elim
theorem br_max2 : BrA X (fun xs H Q => ∃ i j, xs = [.int i, .int j] ∧ Q (.int (if j > i then j else i)) H) sMax2 := by
  intro P O Z env σ H xs vs qz Q l px hs k
  unfold sMax2 at hs
  split at hs
  · obtain ⟨x, y, rfl, h, h2⟩ := px.two
    exact ⟨_, _, by rw [h.int l, h2.int l], k _ hs Z H _ .refl l (.int _)⟩
  · exact hs.elim
theorem br_min2 : BrA X (fun xs H Q => ∃ i j, xs = [.int i, .int j] ∧ Q (.int (if j < i then j else i)) H) sMin2 := by
  intro P O Z env σ H xs vs qz Q l px hs k
  unfold sMin2 at hs
  split at hs
  · obtain ⟨x, y, rfl, h, h2⟩ := px.two
    exact ⟨_, _, by rw [h.int l, h2.int l], k _ hs Z H _ .refl l (.int _)⟩
  · exact hs.elim
theorem br_int1 : BrA X (fun xs H Q => (∃ i, xs = [.int i] ∧ Q (.int i) H) ∨ ∃ k, xs = [.bl k] ∧ Q (.int (if k then 1 else 0)) H) sInt1 := by
  intro P O Z env σ H xs vs qz Q l px hs k
  unfold sInt1 at hs
  split at hs
  · obtain ⟨x, rfl, h⟩ := px.one
    exact .inl ⟨_, by rw [h.int l], k _ hs Z H _ .refl l (.int _)⟩
  · obtain ⟨x, rfl, h⟩ := px.one
    exact .inr ⟨_, by rw [h.bl l], k _ hs Z H _ .refl l (.int _)⟩
  · exact hs.elim
end
end R
/-! The pure layer, part 3: what is walked: lists, tuples, texts, ranges, enumerate of these. -/
namespace PySem
open Sem (wp)
theorem r_meets_enum1 {v : Value} {o : Obj} {H : Heap → Prop} (B : Begins v o H) :
    Meets (Builtin.«enumerate.__new__» ⟨[.type "enumerate", v], []⟩) (fun _ R s => H s.heap ∧
      R (.ok (.ret (.ref (s.heap.push o).objs.size))) { s with heap := (s.heap.push o).push { cls := .type "enumerate", data := .fields #[.none, .bool false, .ref s.heap.objs.size, rawInt 0, .none, .none] } }) :=
  .of_wp fun prog w A R s h => by
    obtain ⟨hp, g, d, tk, os⟩ := s; obtain ⟨h1, h⟩ := h
    have hsub := sub_enumerate
    have q1 : ∀ {A' : Around} {E : Value → Shared → Prop} {Q : Value → Shared → Prop}, Q (.ref hp.objs.size) ⟨hp.push o, g, d, tk, os⟩ → wpAny (model prog w) A' (pyIter v) Q E ⟨hp, g, d, tk, os⟩ :=
      fun q => B.iter prog w _ _ ⟨hp, g, d, tk, os⟩ _ h1 q
    wp_walk using q1
    refine wpAny_stack_any fun st => wpAny_pure ?_
    split
    · rename_i c _ _ _ _ _
      cases (c == Value.type "enumerate")
      · wp_walk using q1
        exact ⟨_, rfl, h⟩
      · wp_walk using q1
        exact ⟨_, rfl, h⟩
    · wp_walk using q1
      exact ⟨_, rfl, h⟩
theorem r_enum_begins1 {prog : Program} {w : World} {A : Around} {E : Value → Shared → Prop} {s : Shared} {v : Value} {o : Obj} {H : Heap → Prop} {Q : Value → Shared → Prop} (B : Begins v o H) (h1 : H s.heap)
    (h : ∀ h', IsEnum h' (s.heap.objs.size + 1) s.heap.objs.size 0 .none → h'.get? s.heap.objs.size = some o → h'.objs.size = s.heap.objs.size + 2 →
      (∀ b o, s.heap.get? b = some o → h'.get? b = some o) → Q (.ref (s.heap.objs.size + 1)) { s with heap := h' }) :
    wpAny (model prog w) A (call (.type "enumerate") [v]) Q E s := by
  refine callType_new F.called_enumerate (by decide) (F.typeCall_enumerate_1 _) (F.newCall_enumerate_1 _) (fun obj => F.args_object_init_2 obj _) F.entry_enumerate_new
    (r_meets_enum1 B) ⟨h1, ?_⟩
  have hz : (s.heap.push o).objs.size = s.heap.objs.size + 1 := Heap.size_push ..
  show _ ∧ _
  rw [hz]
  have he : IsEnum ((s.heap.push o).push { cls := .type "enumerate", data := .fields #[.none, .bool false, .ref s.heap.objs.size, rawInt 0, .none, .none] }) (s.heap.objs.size + 1) s.heap.objs.size 0 .none := by
    have := Heap.get?_push_size (s.heap.push o) (o := { cls := .type "enumerate", data := .fields #[.none, .bool false, .ref s.heap.objs.size, rawInt 0, .none, .none] }) rfl
    rw [hz] at this; exact this
  refine ⟨⟨_, he, rfl⟩, h _ he (Heap.get?_push_of_some _ (Heap.get?_push_size _ B.free)) (by rw [Heap.size_push, hz]) fun b o x => Heap.get?_push_of_some _ (Heap.get?_push_of_some _ x)⟩
end PySem

namespace R
open PySem PySem.Spec PyProof.Rows L2
/-- what an inner iterator goes over -/
inductive SK where
  | lst (a : Addr) | tup (a : Addr) | str (z : Str)
def SK.at (K : PySem.W.Frag) (H : Hp) (xs : List V) : SK → Prop
  | .lst a => SqL K H a xs
  | .tup a => SqT K H a xs
  | .str z => xs = z.cps.toList.map fun c => V.str ⟨#[c]⟩
def SK.ist (it : Addr) (i : Nat) (h : Heap) : SK → Prop
  | .lst a => h.IsListIter it a i
  | .tup a => h.IsTupleIter it a i
  | .str z => ∃ t, h.IsStrIter it (strIterType z) z t i
theorem SK.obj {k : SK} {it : Addr} {i : Nat} {h : Heap} (x : k.ist it i h) : ∃ o, h.get? it = some o ∧ ∀ v, o.data ≠ .cell v := by
  cases k with
  | lst a => obtain ⟨o, ho, _, hd⟩ := x; exact ⟨o, ho, fun v q => by rw [hd] at q; cases q⟩
  | tup a => obtain ⟨o, ho, _, hd⟩ := x; exact ⟨o, ho, fun v q => by rw [hd] at q; cases q⟩
  | str z => obtain ⟨t, o, ho, _, hd⟩ := x; exact ⟨o, ho, fun v q => by rw [hd] at q; cases q⟩
theorem SK.keep {k : SK} {it : Addr} {i : Nat} {h h' : Heap} (x : k.ist it i h) (e : ∀ o, h.get? it = some o → h'.get? it = some o) : k.ist it i h' := by
  cases k with
  | lst a => obtain ⟨o, ho, r⟩ := x; exact ⟨o, e o ho, r⟩
  | tup a => obtain ⟨o, ho, r⟩ := x; exact ⟨o, e o ho, r⟩
  | str z => obtain ⟨t, o, ho, r⟩ := x; exact ⟨t, o, e o ho, r⟩
/-- at a turn: it draws the items as they stand -/
structure SDraws (P : Program) (w : World) (A : Around) (X : Cx) (H : Hp) (s : Shared) (k : SK) (it : Addr) (i : Nat) (xs : List V) : Prop where
  ex : ∃ (fp : List Addr) (Pv : Nat → Value → Prop) (St : Nat → Heap → Prop), Draws P w A it fp xs.length Pv St ∧ St i s.heap ∧ (∀ j v, Pv j v → ∃ x, xs[j]? = some x ∧ RelV x v) ∧ (∀ j h, St j h → k.ist it j h) ∧ it ∈ fp ∧
    ∀ b ∈ fp, b = it ∨ H b ≠ none ∨ ∃ o, X.base.get? b = some o
theorem SK.draws {X : Cx} {pins : List (Addr × Obj)} {σ : L2.St} {H : Hp} {s : Shared} {k : SK} {it : Addr} {i : Nat} {xs : List V} {A : Around} (hh : A.handled = none) (I : Inv X pins σ H s) (x : k.ist it i s.heap) (hn : H it = none) (hb : ∀ o, X.base.get? it ≠ some o) (h : k.at X.K H xs) : SDraws X.prog X.w A X H s k it i xs := by
  cases k with
  | lst a =>
    have h' : SqL X.K H a xs := h
    obtain ⟨its, rv, p, hz⟩ := I.list h'
    have src : H a ≠ none ∨ ∃ o, X.base.get? a = some o := by
      rcases h' with (q | ⟨o, q⟩) | ⟨o, _, _, q, _⟩
      · exact .inl (by rw [q]; simp)
      · exact .inl (by rw [q]; simp)
      · exact .inr ⟨o, I.mod.kin a o q⟩
    have hne : a ≠ it := by
      rintro rfl
      rcases src with q | ⟨o, q⟩
      · exact q hn
      · exact hb o q
    refine ⟨[it, a], fun j v => its.toArray[j]? = some v, fun i (h : Heap) => h.IsListIter it a i ∧ h.IsList a its.toArray, ?_, ⟨x, p.isList⟩, ?_, fun j h st => st.1, by simp, fun b hb => ?_⟩
    · have := Draws.list (prog := X.prog) (w := X.w) hh it a hne its.toArray
      rw [List.size_toArray, ← rv.length] at this
      exact this
    · intro j v e
      have hj : j < xs.length := by
        rw [rv.length]
        simpa using (Array.getElem?_eq_some_iff.mp e).1
      obtain ⟨u, h1, h2⟩ := rv.get (i := j) (x := xs[j]) (by simp [hj])
      rw [show its.toArray[j]? = its[j]? by simp] at e
      rw [h1] at e
      cases e
      exact ⟨_, by simp [hj], h2⟩
    · have e' : b = it ∨ b = a := by simpa using hb
      rcases e' with q | q
      · exact .inl q
      · rw [q]; exact .inr src
  | tup a =>
    have h' : SqT X.K H a xs := h
    obtain ⟨its, rv, p, hz⟩ := I.tuple h'
    have src : H a ≠ none ∨ ∃ o, X.base.get? a = some o := by
      rcases h' with (q | ⟨o, q⟩) | ⟨o, _, _, q, _⟩
      · exact .inl (by rw [q]; simp)
      · exact .inl (by rw [q]; simp)
      · exact .inr ⟨o, I.mod.kin a o q⟩
    have hne : a ≠ it := by
      rintro rfl
      rcases src with q | ⟨o, q⟩
      · exact q hn
      · exact hb o q
    refine ⟨[it, a], fun j v => its.toArray[j]? = some v, fun i (h : Heap) => h.IsTupleIter it a i ∧ h.IsTuple a its.toArray, ?_, ⟨x, p⟩, ?_, fun j h st => st.1, by simp, fun b hb => ?_⟩
    · have := Draws.tuple (prog := X.prog) (w := X.w) hh it a hne its.toArray
      rw [List.size_toArray, ← rv.length] at this
      exact this
    · intro j v e
      have hj : j < xs.length := by
        rw [rv.length]
        simpa using (Array.getElem?_eq_some_iff.mp e).1
      obtain ⟨u, h1, h2⟩ := rv.get (i := j) (x := xs[j]) (by simp [hj])
      rw [show its.toArray[j]? = its[j]? by simp] at e
      rw [h1] at e
      cases e
      exact ⟨_, by simp [hj], h2⟩
    · have e' : b = it ∨ b = a := by simpa using hb
      rcases e' with q | q
      · exact .inl q
      · rw [q]; exact .inr src
  | str z =>
    have h' : xs = z.cps.toList.map fun c => V.str ⟨#[c]⟩ := h
    obtain ⟨t, x⟩ := x
    refine ⟨[it], fun j v => ∃ c u, z.cps[j]? = some c ∧ v = .str ⟨#[c]⟩ u, fun i (h : Heap) => h.IsStrIter it (strIterType z) z t i, ?_, x, ?_, fun j h st => ⟨t, st⟩, by simp, fun b hb => .inl (by simpa using hb)⟩
    · have := Draws.text (prog := X.prog) (w := X.w) hh it z t
      rw [h', List.length_map, Array.length_toList]
      exact this
    · rintro j v ⟨c, u, e, rfl⟩
      refine ⟨.str ⟨#[c]⟩, ?_, ⟨u, rfl⟩⟩
      rw [h', List.getElem?_map, Array.getElem?_toList, e]
      rfl
theorem SK.inj {X : Cx} {pins : List (Addr × Obj)} {σ : L2.St} {H : Hp} {s : Shared} {k : SK} {xs ys : List V} (I : Inv X pins σ H s) (h : k.at X.K H xs) (h' : k.at X.K H ys) : xs = ys := by
  cases k with
  | lst a => exact I.list_inj (a := a) h h'
  | tup a => exact I.tuple_inj (a := a) h h'
  | str z => exact (show xs = _ from h).trans (show ys = _ from h').symm
/-- enumerate over it -/
def IteS (K : PySem.W.Frag) (k : SK) : It :=
  ⟨fun i H => ∃ (xs : List V) (x : V), k.at K H xs ∧ xs[i]? = some x, fun i H v H' => ∃ T x, v = .ref T ∧ H T = none ∧ H' = upd H T (.tup [.int (i : Nat), x]) ∧ ∀ xs, k.at K H xs → xs[i]? = some x, fun i H => ∃ xs : List V, k.at K H xs ∧ xs.length = i⟩
theorem FpOk.nb {X : Cx} {pins : List (Addr × Obj)} {σ : L2.St} {H : Hp} {s : Shared} {b : Addr} (I : Inv X pins σ H s) (f : FpOk X pins H b) : ∀ o, X.base.get? b ≠ some o := fun o e => by
  rcases f.2.2.2.1 with q | q
  · exact I.ok.noex b o e q
  · exact absurd (Nat.lt_of_lt_of_le (Heap.lt_size e) (Nat.le_trans I.ok.bsz q)) (Nat.lt_irrefl _)
theorem turn_enumS {P : Program} {w : World} {K : PySem.W.Frag} {elts : List Expr} {kk : Nat} {tpos : Pos} (k : SK) (e it : Addr) :
    Turn P w K (.Tuple elts kk tpos) (IteS K k) [e, it] e (fun i h => (∃ old, IsEnum h e it ((i : Nat) : Int) old) ∧ k.ist it i h ∧ e ≠ it) where
  mem := by simp
  obj := fun i h st b hb => by
    obtain ⟨⟨old, he⟩, hi, _⟩ := st
    have e' : b = e ∨ b = it := by simpa using hb
    rcases e' with z | z
    · rw [z]; exact ⟨_, he, fun v q => nomatch q⟩
    · rw [z]; exact SK.obj hi
  keep := fun i h h' st k' => let ⟨⟨old, he⟩, hi, hne⟩ := st; ⟨⟨old, k' e (by simp) _ he⟩, SK.keep hi fun o q => k' it (by simp) o q, hne⟩
  item := by
    intro X hP hw hK hc i pins s σ H E I hf st hg
    subst hP hw hK
    obtain ⟨⟨old, he⟩, hit, hne⟩ := st
    obtain ⟨xs, x, hq, hx⟩ := hg
    have hh : X.A.in1.handled = none := I.ok.hd hc
    obtain ⟨fp, Pv, St, D, hst, hP, hS, hif, hfp⟩ := (SK.draws hh I hit (hf it (by simp)).1 (FpOk.nb I (hf it (by simp))) hq).ex
    have hel : e < s.heap.objs.size := Heap.lt_size he
    have hil : it < s.heap.objs.size := by obtain ⟨_, q, _⟩ := SK.obj hit; exact Heap.lt_size q
    have hef : e ∉ fp := fun q => by
      rcases hfp e q with z | z | ⟨o, z⟩
      · exact hne z
      · exact z (hf e (by simp)).1
      · exact FpOk.nb I (hf e (by simp)) o z
    refine wpAny_pyNext_enum_itemC D he hst (List.getElem?_eq_some_iff.mp hx).1 hne hef fun u h' tk hu ho hs' hT hsz hk => ?_
    obtain ⟨x', hx', ru⟩ := hP i u hu
    rw [hx] at hx'
    cases hx'
    refine ⟨_, rfl, wpAny_letOwnedTupleGo_enum (s := { s with heap := h', toks := tk + 1 }) ho fun h'' he' sb => ?_⟩
    have hT2 : h''.get? s.heap.objs.size = some { cls := .type "tuple", data := .seq #[.int i tk, u] } := (sb.2 _ (Nat.ne_of_gt hel)).trans hT
    have new : ObjOk X.prog X.w (upd H s.heap.objs.size (.tup [.int (i : Nat), x])) h'' s.heap.objs.size (.tup [.int (i : Nat), x]) :=
      ⟨by show 2 ≤ sizeLine; decide, [.int i tk, u], .cons ⟨_, rfl⟩ (.cons ru .nil), ⟨_, hT2, rfl, _, rfl⟩⟩
    have I1 : Inv X pins σ (upd H s.heap.objs.size (.tup [.int (i : Nat), x])) { s with heap := h'', toks := tk + 1 } :=
      I.turnedNew (ch := [e, it]) (fun b ob hb q => (sb.2 b (fun z => hb (by simp [z]))).trans (hk b ob (fun z => hb (by simp [z])) (fun z => hb (by simp [z])) q)) hf (Nat.le_refl _) new
    refine ⟨.ref s.heap.objs.size, _, I1, rfl, ⟨_, x, rfl, I.hok.fresh (Nat.le_refl _), rfl, fun ys hy => by rw [SK.inj I hy hq]; exact hx⟩, ⟨⟨u, ?_⟩, SK.keep (hS _ _ hs') fun o q => (sb.2 it (Ne.symm hne)).trans q, hne⟩, fun b hb => ?_⟩
    · have e1 : ((i + 1 : Nat) : Int) = (i : Int) + 1 := by omega
      rw [e1]; exact he'
    · have hb' : b < s.heap.objs.size := by
        have e' : b = e ∨ b = it := by simpa using hb
        rcases e' with z | z
        · rw [z]; exact hel
        · rw [z]; exact hil
      rw [upd_ne (Nat.ne_of_lt hb')]
      exact (hf b hb).1
  done := by
    intro X hP hw hK hc i pins s σ H E I hf st hg
    subst hP hw hK
    obtain ⟨⟨old, he⟩, hit, hne⟩ := st
    obtain ⟨xs, hq, hx⟩ := hg
    subst hx
    have hh : X.A.in1.handled = none := I.ok.hd hc
    obtain ⟨fp, Pv, St, D, hst, hP, hS, hif, hfp⟩ := (SK.draws hh I hit (hf it (by simp)).1 (FpOk.nb I (hf it (by simp))) hq).ex
    obtain ⟨f0, f1, f2, f3, f4, f5⟩ := hf it (by simp)
    exact wpAny_pyNext_enum_endD D he hst fun h' eb => ⟨rfl, I.turned (t' := s.toks) (fun b o hb q => eb b o hb q) f0 f1 f3 f4 f5⟩
  self := fun A i s Q E st h => let ⟨⟨_, he⟩, _⟩ := st; wpAny_pyIter_enum he h
/-- how the source stands as a value -/
def SK.v : SK → V
  | .lst a => .ref a
  | .tup a => .ref a
  | .str z => .str z
def iEnumS (K : PySem.W.Frag) (ta : TA) : TI := fun σ H R => ta σ H fun vs H1 => ∃ (k : SK) (xs : List V), vs = [k.v] ∧ k.at K H1 xs ∧ R (IteS K k) H1
theorem pi_enumS {X : Cx} {e : Expr} {ta : TA} {p pos tpos : Pos} {elts : List Expr} {kk : Nat} (hg : Gl X "enumerate") (hm : X.mg "enumerate" = none) (ha : PA X [e] ta) (hs : starEach [e] X.env = [(false, eval e X.env)] := by rfl) :
    PI X (.Tuple elts kk tpos) (.Call (.Name "enumerate" p) [e] [] pos) (iEnumS X.K ta) := by
  refine ⟨fun pins s σ H R I h => ?_⟩
  refine Call_ (ld_blt I hg hm boot_enumerate (PyProof.Rows.callWith_type1 (thn (ha.run pos pins s σ H _ I h) fun us s1 ⟨vs, H1, I1, r1, q1⟩ => ?_) hs rfl))
  obtain ⟨k, xs, ex, hq, q⟩ := q1
  subst ex
  obtain ⟨u, rfl, ru⟩ := vals1 r1
  have go : ∀ (o : Obj) (Hb : Heap → Prop), Begins u o Hb → Hb s1.heap → (∀ h : Heap, h.get? s1.heap.objs.size = some o → k.ist s1.heap.objs.size 0 h) →
      wpAny (model X.prog X.w) X.A (call (.type "enumerate") [u]) (fun v s1 => wpAny (model X.prog X.w) X.A (pyIter v) (PIE X pins σ (.Tuple elts kk tpos) R) X.xe s1) X.xe s1 := by
    intro o Hb B hb hi
    refine r_enum_begins1 B hb fun h' he hit hsz hk => wpAny_pyIter_enum he ?_
    have I2 : Inv X pins σ H1 { s1 with heap := h' } := I1.kept (t' := s1.toks) hk
    refine ⟨s1.heap.objs.size + 1, [s1.heap.objs.size + 1, s1.heap.objs.size], _, _, H1, rfl, I2, turn_enumS k (s1.heap.objs.size + 1) s1.heap.objs.size, ⟨⟨.none, he⟩, hi _ hit, Nat.succ_ne_self _⟩, fun b hb => ?_, q⟩
    have e' : b = s1.heap.objs.size + 1 ∨ b = s1.heap.objs.size := by simpa using hb
    have hle : s1.heap.objs.size ≤ b := by
      rcases e' with z | z
      · rw [z]; exact Nat.le_add_right _ _
      · rw [z]; exact Nat.le_refl _
    exact I1.fpOk hle (I1.hok.fresh hle)
  cases k with
  | lst a =>
    obtain rfl : u = .ref a := ru
    obtain ⟨its, rv, p', hz⟩ := I1.list (show SqL X.K H1 a xs from hq)
    exact go _ _ (begins_list a its.toArray) p'.isList fun h e => ⟨_, e, rfl, rfl⟩
  | tup a =>
    obtain rfl : u = .ref a := ru
    obtain ⟨its, rv, p', hz⟩ := I1.tuple (show SqT X.K H1 a xs from hq)
    exact go _ _ (begins_tuple a its.toArray) p' fun h e => ⟨_, e, rfl, rfl⟩
  | str z =>
    obtain ⟨t, rfl⟩ : ∃ t, u = .str z t := ru
    exact go _ _ (begins_text z t) trivial fun h e => ⟨t, _, e, rfl, rfl⟩
end R
/-! The pure layer, part 4: targets, walks, comprehensions. -/
namespace R
open PySem PySem.Spec PyProof.Rows L2
section
variable {X : Cx} {pos : Pos}
/-! ### targets -/
abbrev RG1 := PV → Ev → (Ev → Prop) → Prop
abbrev RGs1 := List PV → Ev → (Ev → Prop) → Prop
def tRG (K : Ct) (ts : List Nat) (r : RG1) : TG := fun x σ H Qs => ∃ P O Z env v q, Rl K P O Z env σ H ∧ RpV K (UU P O Z) Z H x v ∧ r v env q ∧ ∀ env', q env' → ∀ σ', Rl K P O Z env' σ' H → (∀ j, j ∉ ts → σ'[j]? = σ[j]?) → Qs σ' H
def tRGs (K : Ct) (ts : List Nat) (r : RGs1) : TGs := fun xs σ H Qs => ∃ P O Z env vs q, Rl K P O Z env σ H ∧ RpVs K (UU P O Z) Z H xs vs ∧ r vs env q ∧ ∀ env', q env' → ∀ σ', Rl K P O Z env' σ' H → (∀ j, j ∉ ts → σ'[j]? = σ[j]?) → Qs σ' H
structure RG (X : Cx) (tg : Expr) (ts : List Nat) (r : RG1) : Prop where
  h : PG X tg (tRG X.ct ts r)
structure RGs (X : Cx) (tgs : List Expr) (ts : List Nat) (r : RGs1) : Prop where
  h : PGs X tgs (tRGs X.ct ts r)
theorem Rl.set {K : Ct} {P : Addr → Prop} {O : List Addr} {Z : List Rng} {env : Ev} {σ : L2.St} {H : Hp} {x : V} {v : PV} (l : Rl K P O Z env σ H) (i : Nat) (h : RpV K (UU P O Z) Z H x v) : Rl K P O Z (env.set i (.val v)) (σ.set i (some x)) H := by
  have own : ∀ (j : Nat) (d : PyData), (env.set i (.val v))[j]? = some (.own d) → env[j]? = some (.own d) ∧ (σ.set i (some x))[j]? = σ[j]? := fun j d e => by
    by_cases q : i = j
    · subst q
      by_cases hi : i < env.length
      · rw [List.getElem?_set_self hi] at e; cases e
      · rw [List.getElem?_eq_none (by simpa using hi)] at e; cases e
    · rw [List.getElem?_set_ne q] at e
      exact ⟨e, List.getElem?_set_ne q⟩
  refine ⟨by simpa using l.len, fun j u e => ?_, fun j d e => ?_, fun j k d e a h1 h2 h3 h4 => ?_, l.dis, l.prot, l.rng⟩
  · by_cases q : i = j
    · subst q
      by_cases hi : i < env.length
      · rw [List.getElem?_set_self hi] at e
        cases e
        exact ⟨x, List.getElem?_set_self (by rw [← l.len]; exact hi), h⟩
      · rw [List.getElem?_eq_none (by simpa using hi)] at e; cases e
    · rw [List.getElem?_set_ne q] at e
      obtain ⟨y, h1, h2⟩ := l.slot j u e
      exact ⟨y, by rw [List.getElem?_set_ne q]; exact h1, h2⟩
  · obtain ⟨e1, e2⟩ := own j d e
    obtain ⟨a, h1, h2, h3⟩ := l.own j d e1
    exact ⟨a, by rw [e2]; exact h1, h2, h3⟩
  · obtain ⟨q1, q2⟩ := own j d h1
    obtain ⟨q3, q4⟩ := own k e h2
    rw [q2] at h3
    rw [q4] at h4
    exact l.inj j k d e a q1 q3 h3 h4
def rgName (i : Nat) : RG1 := fun v env q => q (env.set i (.val v))
theorem rg_name {i : Nat} {x : Str} (hN : X.N.Nodup) (hi : X.N[i]? = some x) (hx : Loc X.env.scope x) (hf : X.fn x = true ∨ X.env.scope.names.lookup x = some .local := by first | exact .inl rfl | exact .inr rfl | assumption) : RG X (.Name x pos) [i] (rgName i) :=
  ⟨⟨fun pins s σ H v u Q I r w => (pg_name hN hi hx hf).run pins s σ H v u Q I r (by
    obtain ⟨P, O, Z, env, pv, q, l, p, w, k⟩ := w
    exact k _ w _ (l.set i p) fun j hj => List.getElem?_set_ne (by intro e; exact hj (by simp [e])))⟩⟩
def rgNil : RGs1 := fun vs env q => vs = [] ∧ q env
def rgCons (g : RG1) (gs : RGs1) : RGs1 := fun vs env q => ∃ v r, vs = v :: r ∧ g v env fun e1 => gs r e1 q
theorem rgs_nil : RGs X [] [] rgNil :=
  ⟨⟨fun pins s σ H vs us Q I r w => pgs_nil.run pins s σ H vs us Q I r (by
    obtain ⟨P, O, Z, env, pv, q, l, p, ⟨rfl, w⟩, k⟩ := w
    cases p
    exact ⟨rfl, k _ w _ l fun _ _ => rfl⟩)⟩⟩
theorem rgs_cons {e : Expr} {es : List Expr} {ts us : List Nat} {g : RG1} {gs : RGs1} (h1 : RG X e ts g) (h2 : RGs X es us gs) (hs : (assignEach (e :: es) X.env).map (·.2) = assign e X.env :: (assignEach es X.env).map (·.2) := by rfl) : RGs X (e :: es) (ts ++ us) (rgCons g gs) :=
  ⟨⟨fun pins s σ H vs xs Q I r w => (pgs_cons h1.h h2.h hs).run pins s σ H vs xs Q I r (by
    obtain ⟨P, O, Z, env, pv, q, l, p, ⟨v, vr, rfl, w⟩, k⟩ := w
    cases p with
    | cons p1 p2 =>
      refine ⟨_, _, rfl, P, O, Z, env, v, _, l, p1, w, fun e1 w1 σ1 l1 k1 => ?_⟩
      refine ⟨P, O, Z, e1, vr, _, l1, p2, w1, fun e2 w2 σ2 l2 k2 => k _ w2 _ l2 fun j hj => ?_⟩
      rw [k2 j fun q => hj (List.mem_append_right _ q), k1 j fun q => hj (List.mem_append_left _ q)])⟩⟩
def rgTup (n : Nat) (gs : RGs1) : RG1 := fun v env q => ∃ ds, v = .d (.tuple ds) ∧ ds.length = n ∧ gs (ds.map .d) env q
theorem rg_tup {es : List Expr} {k n : Nat} {ts : List Nat} {gs : RGs1} (hc : X.calm = true) (h : RGs X es ts gs) (hn : (assignEach es X.env).length = n := by rfl) (hst : (assignEach es X.env).findIdx? (·.1) = none := by rfl) : RG X (.Tuple es k pos) ts (rgTup n gs) :=
  ⟨⟨fun pins s σ H v u Q I r w => (pg_tup hc h.h hn hst).run pins s σ H v u Q I r (by
    obtain ⟨P, O, Z, env, pv, q, l, p, ⟨ds, rfl, hl, w⟩, k⟩ := w
    obtain ⟨a, xs, rfl, h1, h2, h3, h4⟩ := RpB.tup (.inl p) l
    exact ⟨a, xs, rfl, h1, h3.length.trans hl, P, O, Z, env, _, q, l, RpVs.of h3, w, k⟩)⟩⟩

/-! ### what is walked -/
structure Wk (K : Ct) (U : Addr → Prop) (J : It) (H0 : Hp) (xs : List PyData) : Prop where
  le : xs.length ≤ sizeLine
  ex : ∃ G Y, Walk J xs.length G Y ∧ ∀ H U', (∀ a o, ¬ U a → H0 a = some o → H a = some o) → (∀ a, H0 a ≠ none → U' a → U a) → (∀ a, H a = none → ¬ U' a) →
    G H ∧ ∀ i x H', i < xs.length → Y i H x H' → (∀ a o, H a = some o → H' a = some o) ∧ ∀ d, xs[i]? = some d → Rp K U' H' x d
abbrev RI1 := Ev → (List PyData → Ev → Prop) → Prop
def tRI (K : Ct) (r : RI1) : TI := fun σ H R => ∃ P O Z env q, Rl K P O Z env σ H ∧ r env q ∧ ∀ xs env', q xs env' → ∀ Z' H' J, Stp O Z H Z' H' → Rl K P O Z' env' σ H' → Wk K (UU P O Z') J H' xs → R J H'
structure RI (X : Cx) (tg iter : Expr) (r : RI1) : Prop where
  h : PI X tg iter (tRI X.ct r)
theorem pi_imp {tg iter : Expr} {t u : TI} (h : PI X tg iter t) (i : ∀ σ H R, u σ H R → t σ H R) : PI X tg iter u := ⟨fun pins s σ H R I w => h.run pins s σ H R I (i σ H R w)⟩
/-- over a list, a tuple, a text -/
def iSeq (K : PySem.W.Frag) (tl : TE) : TI := fun σ H R => tl σ H fun x H1 => (∃ a xs, x = .ref a ∧ SqL K H1 a xs ∧ R (Itl K a) H1) ∨ (∃ a xs, x = .ref a ∧ SqT K H1 a xs ∧ R (Itt K a) H1) ∨ ∃ z, x = .str z ∧ R (Its z) H1
theorem pi_seq {tg l : Expr} {tl : TE} (hl : PE X l tl) : PI X tg l (iSeq X.K tl) := by
  refine ⟨fun pins s σ H R I h => ?_⟩
  refine thn (hl.run pins s σ H _ I h) fun v s1 ⟨x, H1, I1, r1, q1⟩ => ?_
  rcases q1 with ⟨a, xs, rfl, hq, q⟩ | ⟨a, xs, rfl, hq, q⟩ | ⟨z, rfl, q⟩
  · cases r1
    obtain ⟨its, rv, p, hz⟩ := I1.list hq
    refine wpAny_pyIter_list p.isList ?_
    refine ⟨s1.heap.objs.size, [s1.heap.objs.size], _, _, H1, rfl, I1.kept (t' := s1.toks) fun b o e => Heap.get?_push_of_some _ e, turn_list a _, ⟨_, Heap.get?_push_size _ rfl, rfl, rfl⟩, fun b hb => ?_, q⟩
    have e : b = s1.heap.objs.size := by simpa using hb
    subst e
    exact I1.fpOk (Nat.le_refl _) (I1.hok.fresh (Nat.le_refl _))
  · cases r1
    obtain ⟨its, rv, p, hz⟩ := I1.tuple hq
    refine wpAny_pyIter_tuple (show s1.heap.IsTuple a its.toArray from p) ?_
    refine ⟨s1.heap.objs.size, [s1.heap.objs.size], _, _, H1, rfl, I1.kept (t' := s1.toks) fun b o e => Heap.get?_push_of_some _ e, turn_tuple a _, ⟨_, Heap.get?_push_size _ rfl, rfl, rfl⟩, fun b hb => ?_, q⟩
    have e : b = s1.heap.objs.size := by simpa using hb
    subst e
    exact I1.fpOk (Nat.le_refl _) (I1.hok.fresh (Nat.le_refl _))
  · obtain ⟨t, rfl⟩ := r1
    refine wpAny_pyIter_strU ?_
    refine ⟨s1.heap.objs.size, [s1.heap.objs.size], _, _, H1, rfl, I1.kept (t' := s1.toks) fun b o e => Heap.get?_push_of_some _ e, turn_str _ z t (strIterType z) (by unfold strIterType; split <;> simp), ⟨_, Heap.get?_push_size _ rfl, rfl, rfl⟩, fun b hb => ?_, q⟩
    have e : b = s1.heap.objs.size := by simpa using hb
    subst e
    exact I1.fpOk (Nat.le_refl _) (I1.hok.fresh (Nat.le_refl _))
/-- the items of a value that is walked -/
def strD (z : Str) : List PyData := z.cps.toList.map fun c => .str ⟨#[c]⟩
def itemsD : PV → Option (List PyData)
  | .d (.list ds) => some ds
  | .d (.tuple ds) => some ds
  | .d (.str z) => if z.cps.size ≤ sizeLine then some (strD z) else none
  | _ => none
def riSeq (ra : RE1) : RI1 := fun env q => ra env fun v e1 => ∃ ds, itemsD v = some ds ∧ q ds e1
section
variable {K : Ct} {U : Addr → Prop} {H0 : Hp} {a : Addr} {xs : List V} {ds : List PyData}
theorem wk_list (n : ¬ U a) (h : H0 a = some (.lst xs)) (z : xs.length ≤ sizeLine) (r : RpAll K U H0 xs ds) : Wk K U (Itl K.K a) H0 ds := by
  refine ⟨by rw [← r.length]; exact z, _, _, (by rw [← r.length]; exact walk_list), fun H U' k u _ => ⟨SqL.of (k a _ n h), fun i x H' hi y => ?_⟩⟩
  obtain ⟨rfl, y⟩ := y
  refine ⟨fun _ _ => id, fun d hd => ?_⟩
  obtain ⟨d', h1, h2⟩ := r.getV y
  rw [hd] at h1
  cases h1
  exact Rp.mono k u d x h2
theorem wk_tup (h : (¬ U a ∧ Rd H0 a (.tup xs)) ∨ KTup K a xs) (z : xs.length ≤ sizeLine) (r : RpAll K U H0 xs ds) : Wk K U (Itt K.K a) H0 ds := by
  refine ⟨by rw [← r.length]; exact z, _, _, (by rw [← r.length]; exact walk_tup), fun H U' k u _ => ⟨?_, fun i x H' hi y => ?_⟩⟩
  · rcases h with ⟨n, h | ⟨o, h⟩⟩ | h
    · exact .inl (.inl (k a _ n h))
    · exact .inl (.inr ⟨o, k a _ n h⟩)
    · exact .inr h
  · obtain ⟨rfl, y⟩ := y
    refine ⟨fun _ _ => id, fun d hd => ?_⟩
    obtain ⟨d', h1, h2⟩ := r.getV y
    rw [hd] at h1
    cases h1
    exact Rp.mono k u d x h2
theorem wk_str {z : Str} (hz : z.cps.size ≤ sizeLine) : Wk K U (Its z) H0 (strD z) := by
  have hl : (strD z).length = z.cps.size := by simp [strD]
  refine ⟨by rw [hl]; exact hz, _, _, (by rw [hl]; exact walk_str), fun H U' k u _ => ⟨trivial, fun i x H' hi y => ?_⟩⟩
  obtain ⟨rfl, c, e, rfl⟩ := y
  refine ⟨fun _ _ => id, fun d hd => ?_⟩
  rw [strD, List.getElem?_map, Array.getElem?_toList, e] at hd
  cases hd
  exact .str _
theorem wk_range {lo : Int} {n : Nat} (hn : n ≤ sizeLine) : Wk K U (Itr lo n) H0 ((List.range n).map fun (i : Nat) => PyData.int (lo + (i : Int))) := by
  refine ⟨by simpa using hn, _, _, (by rw [List.length_map, List.length_range]; exact walk_range), fun H U' k u _ => ⟨trivial, fun i x H' hi y => ?_⟩⟩
  obtain ⟨rfl, rfl⟩ := y
  refine ⟨fun _ _ => id, fun d hd => ?_⟩
  rw [List.getElem?_map] at hd
  obtain ⟨j, hj, rfl⟩ := Option.map_eq_some_iff.mp hd
  have e : j = i := by
    have := List.getElem?_range (n := n) (i := i) (by simpa using hi)
    rw [this] at hj
    exact (Option.some.inj hj).symm
  subst e
  exact .int _
end
theorem ri_seq {tg l : Expr} {ra : RE1} (h : RE X l ra) : RI X tg l (riSeq ra) :=
  ⟨pi_imp (pi_seq h.h) fun σ H R ⟨P, O, Z, env, q, l, w, k⟩ => by
    refine ⟨P, O, Z, env, _, l, w, fun v e1 w1 Z1 H1 x s1 l1 p1 => ?_⟩
    obtain ⟨ds, hd, w1⟩ := w1
    unfold itemsD at hd
    split at hd
    · cases hd
      cases p1 with
      | lst n e z r => exact .inl ⟨_, _, rfl, .of e, k _ _ w1 Z1 H1 _ s1 l1 (wk_list n e z r)⟩
    · cases hd
      cases p1 with
      | tup e z r => exact .inr (.inl ⟨_, _, rfl, e.elim (fun q => .inl q.2) .inr, k _ _ w1 Z1 H1 _ s1 l1 (wk_tup e z r)⟩)
    · split at hd
      · rename_i hz
        cases hd
        cases p1
        exact .inr (.inr ⟨_, rfl, k _ _ w1 Z1 H1 _ s1 l1 (wk_str hz)⟩)
      · cases hd
    · cases hd⟩
/-- range(n), range(a, b) -/
def rangeD (lo hi : Int) : List PyData := (List.range (hi - lo).toNat).map fun (i : Nat) => PyData.int (lo + (i : Int))
def riRng1 (ra : RE1) : RI1 := fun env q => ra env fun v e1 => ∃ j : Int, v = .d (.int j) ∧ (-(2 ^ 62) ≤ j ∧ j ≤ 16777216) ∧ q (rangeD 0 j) e1
def riRng2 (ra rb : RE1) : RI1 := fun env q => ra env fun v e1 => rb e1 fun u e2 => e2 = e1 ∧ ∃ i j : Int, v = .d (.int i) ∧ u = .d (.int j) ∧ (-(2 ^ 62) ≤ i ∧ i < 2 ^ 62 ∧ -(2 ^ 62) ≤ j ∧ j < 2 ^ 62 ∧ j - i ≤ 16777216) ∧ q (rangeD i j) e2
theorem ri_rng1 {tg a : Expr} {ra : RE1} {p : Pos} (hg : Gl X "range") (hm : X.mg "range" = none) (ha : RB X a ra) (hs : starEach [a] X.env = [(false, eval a X.env)] := by rfl) : RI X tg (.Call (.Name "range" p) [a] [] pos) (riRng1 ra) :=
  ⟨pi_imp (pi_range1 hg hm (pa_cons ha.h pa_nil (by rw [hs]; rfl)) hs) fun σ H R ⟨P, O, Z, env, q, l, w, k⟩ => by
    refine ⟨P, O, Z, env, _, l, w, fun v e1 w1 Z1 H1 x s1 l1 p1 => ?_⟩
    obtain ⟨j, rfl, ⟨h1, h2⟩, w1⟩ := w1
    refine ⟨j, by rw [p1.int l1], h1, by omega, k _ _ w1 Z1 H1 _ s1 l1 ?_⟩
    have e : rangeD 0 j = (List.range j.toNat).map fun (i : Nat) => PyData.int (0 + (i : Int)) := by simp [rangeD]
    rw [e]
    exact wk_range (by rw [sizeLine_eq]; omega)⟩
theorem ri_rng2 {tg a b : Expr} {ra rb : RE1} {p : Pos} (hg : Gl X "range") (hm : X.mg "range" = none) (ha : RB X a ra) (hb : RB X b rb) (hs : starEach [a, b] X.env = [(false, eval a X.env), (false, eval b X.env)] := by rfl) (hs2 : starEach [b] X.env = [(false, eval b X.env)] := by rfl) : RI X tg (.Call (.Name "range" p) [a, b] [] pos) (riRng2 ra rb) :=
  ⟨pi_imp (pi_range2 hg hm (pa_cons ha.h (pa_cons hb.h pa_nil (by rw [hs2]; rfl)) (by rw [hs, hs2])) hs hs2) fun σ H R ⟨P, O, Z, env, q, l, w, k⟩ => by
    refine ⟨P, O, Z, env, _, l, w, fun v e1 w1 Z1 H1 x s1 l1 p1 => ?_⟩
    refine ⟨P, O, Z1, e1, _, l1, w1, fun u e2 w2 Z2 H2 y s2 l2 p2 => ?_⟩
    obtain ⟨rfl, i, j, rfl, rfl, ⟨h1, h2, h3, h4, h5⟩, w2⟩ := w2
    refine ⟨i, j, by rw [(p1.later s2).int l2, p2.int l2], ⟨h1, h2, h3, h4⟩, k _ _ w2 Z2 H2 _ (s1.trans s2) l2 ?_⟩
    exact wk_range (by rw [sizeLine_eq]; omega)⟩
/-- enumerate(x) -/
def enumD (ds : List PyData) : List PyData := ds.zipIdx.map fun p => .tuple [.int (p.2 : Int), p.1]
def riEnum (ra : RE1) : RI1 := fun env q => ra env fun v e1 => ∃ ds, itemsD v = some ds ∧ q (enumD ds) e1
theorem wk_enum {K : Ct} {U : Addr → Prop} {H0 : Hp} {k : SK} {xs : List V} {ds : List PyData} (z : xs.length ≤ sizeLine) (r : RpAll K U H0 xs ds) (st : ∀ H, (∀ a o, ¬ U a → H0 a = some o → H a = some o) → k.at K.K H xs) : Wk K U (IteS K.K k) H0 (enumD ds) := by
  have hl : (enumD ds).length = xs.length := by simp [enumD, r.length]
  refine ⟨by rw [hl]; exact z, fun H => (∀ a o, ¬ U a → H0 a = some o → H a = some o), fun i H v H' => ∃ T x, v = .ref T ∧ H T = none ∧ H' = upd H T (.tup [.int (i : Nat), x]) ∧ xs[i]? = some x, ?_, fun H U' e u nu => ⟨e, fun i x H' hi y => ?_⟩⟩
  · rw [hl]
    refine ⟨fun i H hi g => ⟨xs, xs[i], st H g, by simp [hi]⟩, fun H g => ⟨xs, st H g, rfl⟩, fun i H x H' hi g y => ?_⟩
    obtain ⟨T, x', h1, h2, h3, h4⟩ := y
    exact ⟨T, x', h1, h2, h3, h4 xs (st H g)⟩
  · obtain ⟨T, x', rfl, h2, rfl, h4⟩ := y
    have grow : ∀ a o, H a = some o → upd H T (.tup [.int (i : Nat), x']) a = some o := fun a o q => by rw [upd_ne (ne_of_none q h2)]; exact q
    refine ⟨grow, fun d hd => ?_⟩
    obtain ⟨d', h5, h6⟩ := r.getV h4
    have e2 : d = .tuple [.int (i : Int), d'] := by
      rw [enumD, List.getElem?_map, List.getElem?_zipIdx, h5] at hd
      simpa using hd.symm
    subst e2
    refine .tup (.inl ⟨nu T h2, .inl upd_same⟩) (by show 2 ≤ sizeLine; decide) (.cons (.int _) (.cons ?_ .nil))
    exact Rp.mono (fun a o n q => grow a o (e a o n q)) u d' x' h6
theorem ri_enum {e : Expr} {elts : List Expr} {kk : Nat} {ra : RE1} {p tpos : Pos} (hg : Gl X "enumerate") (hm : X.mg "enumerate" = none) (ha : RE X e ra) (hs : starEach [e] X.env = [(false, eval e X.env)] := by rfl) : RI X (.Tuple elts kk tpos) (.Call (.Name "enumerate" p) [e] [] pos) (riEnum ra) :=
  ⟨pi_imp (pi_enumS hg hm (pa_cons ha.h pa_nil (by rw [hs]; rfl)) hs) fun σ H R ⟨P, O, Z, env, q, l, w, k⟩ => by
    refine ⟨P, O, Z, env, _, l, w, fun v e1 w1 Z1 H1 x s1 l1 p1 => ?_⟩
    obtain ⟨ds, hd, w1⟩ := w1
    unfold itemsD at hd
    split at hd
    · cases hd
      cases p1 with
      | lst n e z r => exact ⟨.lst _, _, rfl, SqL.of e, k _ _ w1 Z1 H1 _ s1 l1 (wk_enum (k := .lst _) z r fun H g => SqL.of (g _ _ n e))⟩
    · cases hd
      cases p1 with
      | tup e z r =>
        refine ⟨.tup _, _, rfl, e.elim (fun q => .inl q.2) .inr, k _ _ w1 Z1 H1 _ s1 l1 (wk_enum (k := .tup _) z r fun H g => ?_)⟩
        rcases e with ⟨n, e | ⟨o, e⟩⟩ | e
        · exact .inl (.inl (g _ _ n e))
        · exact .inl (.inr ⟨o, g _ _ n e⟩)
        · exact .inr e
    · split at hd
      · rename_i zz hz
        cases hd
        cases p1
        refine ⟨.str zz, _, rfl, rfl, k _ _ w1 Z1 H1 _ s1 l1 (wk_enum (k := .str zz) (xs := zz.cps.toList.map fun c => V.str ⟨#[c]⟩) (by rw [List.length_map, Array.length_toList]; exact hz) ?_ fun H g => rfl)⟩
        have all : ∀ cs : List Nat, RpAll X.ct (UU P O Z1) H1 (cs.map fun c => V.str ⟨#[c]⟩) (cs.map fun c => PyData.str ⟨#[c]⟩) := by
          intro cs
          induction cs with
          | nil => exact .nil
          | cons c cs ih => exact .cons (.str _) ih
        exact all _
      · cases hd
    · cases hd⟩
end
end R
/-! The pure layer, part 5: list comprehensions. -/
namespace R
open PySem PySem.Spec PyProof.Rows L2
def wipeE (env : Ev) : List Nat → Ev
  | [] => env
  | v :: vs => (wipeE env vs).set v .emp
/-- no owned container stands at these places -/
def noOwn (env : Ev) (vs : List Nat) : Bool := vs.all fun i => match env[i]? with
  | some (.own _) => false
  | _ => true
def compGo (step : PyData → (Option PyData → Prop) → Prop) : List PyData → List PyData → (List PyData → Prop) → Prop
  | [], acc, q => q acc
  | x :: xs, acc, q => step x fun o => match o with
    | some d => compGo step xs (acc ++ [d]) q
    | none => compGo step xs acc q
def lcStep (vs : List Nat) (rg : RG1) (rt : RT1) (re : RE1) (e1 : Ev) (x : PyData) (k : Option PyData → Prop) : Prop :=
  rg (.d x) (wipeE e1 vs) fun e2 => wipeE e2 vs = wipeE e1 vs ∧ rt e2 fun b e3 => e3 = e2 ∧ if b = true then re e2 fun v e4 => e4 = e2 ∧ ∃ d, v = .d d ∧ k (some d) else k none
def rComp (vs : List Nat) (ri : RI1) (rg : RG1) (rt : RT1) (re : RE1) : RE1 := fun env q => ri env fun xs e1 => noOwn e1 vs = true ∧ compGo (lcStep vs rg rt re e1) xs [] fun out => q (.d (.list out)) e1
theorem wipeE_out {env : Ev} {i : Nat} : ∀ {vs : List Nat}, i ∉ vs → (wipeE env vs)[i]? = env[i]?
  | [], _ => rfl
  | v :: vs, h => by
    unfold wipeE
    rw [List.getElem?_set_ne (fun e => h (by simp [e]))]
    exact wipeE_out fun q => h (List.mem_cons_of_mem _ q)
theorem wipeE_some {env : Ev} {i : Nat} {s : Slot} (n : s ≠ .emp) : ∀ {vs : List Nat}, (wipeE env vs)[i]? = some s → env[i]? = some s ∧ i ∉ vs
  | [], h => ⟨h, by simp⟩
  | v :: vs, h => by
    unfold wipeE at h
    by_cases q : v = i
    · subst q
      by_cases hv : v < (wipeE env vs).length
      · rw [List.getElem?_set_self hv] at h
        exact absurd (Option.some.inj h).symm n
      · rw [List.getElem?_eq_none (by simpa using hv)] at h; cases h
    · rw [List.getElem?_set_ne q] at h
      obtain ⟨h1, h2⟩ := wipeE_some n h
      exact ⟨h1, by simp only [List.mem_cons, not_or]; exact ⟨fun e => q e.symm, h2⟩⟩
theorem wipeE_length (env : Ev) : ∀ vs : List Nat, (wipeE env vs).length = env.length
  | [] => rfl
  | v :: vs => by unfold wipeE; rw [List.length_set, wipeE_length env vs]
theorem wipe_eq {σ σ' : L2.St} {vs : List Nat} (hl : σ'.length = σ.length) (h : ∀ j, j ∉ vs → σ'[j]? = σ[j]?) : wipe σ' vs = wipe σ vs := by
  refine List.ext_getElem? fun j => ?_
  by_cases q : j ∈ vs
  · have no : ∀ (τ : L2.St), (wipe τ vs)[j]? = if j < τ.length then some none else none := fun τ => by
      by_cases hj : j < τ.length
      · rw [if_pos hj]
        cases e : (wipe τ vs)[j]? with
        | none =>
          have := List.getElem?_eq_none_iff.mp e
          rw [wipe_length] at this
          omega
        | some o =>
          cases o with
          | none => rfl
          | some x => exact absurd q (wipe_some e).2
      · rw [if_neg hj, List.getElem?_eq_none_iff.mpr (by rw [wipe_length]; omega)]
    rw [no, no, hl]
  · rw [wipe_out q, wipe_out q, h j q]
section
variable {K : Ct} {P : Addr → Prop} {O : List Addr} {Z Z' : List Rng} {env e1 e2 : Ev} {σ σ2 : L2.St} {H H' : Hp}
theorem Rl.wipe (l : Rl K P O Z env σ H) (vs : List Nat) : Rl K P O Z (wipeE env vs) (wipe σ vs) H := by
  refine ⟨by rw [wipeE_length, wipe_length]; exact l.len, fun i v e => ?_, fun i d e => ?_, fun i j d e a h1 h2 h3 h4 => ?_, l.dis, l.prot, l.rng⟩
  · obtain ⟨h1, h2⟩ := wipeE_some (s := .val v) (by simp) e
    obtain ⟨x, h3, h4⟩ := l.slot i v h1
    exact ⟨x, by rw [wipe_out h2]; exact h3, h4⟩
  · obtain ⟨h1, h2⟩ := wipeE_some (s := .own d) (by simp) e
    obtain ⟨x, h3, h4⟩ := l.own i d h1
    exact ⟨x, by rw [wipe_out h2]; exact h3, h4⟩
  · obtain ⟨q1, q2⟩ := wipeE_some (s := .own d) (by simp) h1
    obtain ⟨q3, q4⟩ := wipeE_some (s := .own e) (by simp) h2
    rw [wipe_out q2] at h3
    rw [wipe_out q4] at h4
    exact l.inj i j d e a q1 q3 h3 h4
/-- one more is kept: a new one -/
abbrev PD (P : Addr → Prop) (D : Addr) : Addr → Prop := fun a => P a ∨ a = D
theorem Rl.keepNew (l : Rl K P O Z env σ H) {D : Addr} (hn : H D = none) (o : HO) : Rl K (PD P D) O Z env σ (upd H D o) := by
  have l' := l.new (o := o) hn
  have f := l.fresh hn
  have u : ∀ a, H a ≠ none → UU (PD P D) O Z a → UU P O Z a := fun a n q => by
    rcases q with (q | rfl) | q | q
    · exact .inl q
    · exact absurd hn n
    · exact .inr (.inl q)
    · exact .inr (.inr q)
  have k : ∀ a u, H a = some u → upd H D o a = some u := fun a u e => by rw [upd_ne (ne_of_none e hn)]; exact e
  refine ⟨l.len, fun i v e => ?_, fun i d e => ?_, l.inj, fun a h => ⟨fun q => q.elim (l.dis a h).1 fun e => f (.inr (.inl (e ▸ h))), (l.dis a h).2.1, (l'.dis a h).2.2⟩, fun a q => ?_, ⟨fun z hz => ⟨(l'.rng.1 z hz).1, fun q => q.elim (l.rng.1 z hz).2.1 fun e => f (.inr (.inr ⟨z, hz, .inl e.symm⟩)), fun q => q.elim (l.rng.1 z hz).2.2 fun e => f (.inr (.inr ⟨z, hz, .inr e.symm⟩))⟩, l.rng.2⟩⟩
  · obtain ⟨x, h1, h2⟩ := l.slot i v e
    exact ⟨x, h1, h2.mono (fun a o _ => k a o) u fun _ _ q => q⟩
  · obtain ⟨a, h1, h2, h3⟩ := l.own i d e
    exact ⟨a, h1, h2, h3.mono (fun o => k a o) (fun a o _ => k a o) u⟩
  · rcases q with q | rfl
    · exact l'.prot a q
    · rw [upd_same]; simp
/-- .. it is kept no more -/
theorem Rl.drop {P' : Addr → Prop} (l : Rl K P' O Z env σ H) (h : ∀ a, P a → P' a) : Rl K P O Z env σ H := by
  have u : ∀ a, H a ≠ none → UU P O Z a → UU P' O Z a := fun a _ q => by
    rcases q with q | q
    · exact .inl (h a q)
    · exact .inr q
  refine ⟨l.len, fun i v e => ?_, fun i d e => ?_, l.inj, fun a q => ⟨fun w => (l.dis a q).1 (h a w), (l.dis a q).2⟩, fun a q => l.prot a (h a q), ⟨fun z hz => ⟨(l.rng.1 z hz).1, fun q => (l.rng.1 z hz).2.1 (h _ q), fun q => (l.rng.1 z hz).2.2 (h _ q)⟩, l.rng.2⟩⟩
  · obtain ⟨x, h1, h2⟩ := l.slot i v e
    exact ⟨x, h1, h2.mono (fun _ _ _ q => q) u fun _ _ q => q⟩
  · obtain ⟨a, h1, h2, h3⟩ := l.own i d e
    exact ⟨a, h1, h2, h3.mono (fun _ q => q) (fun _ _ _ q => q) u⟩
/-- the state around a block's turn -/
theorem Rl.back (l : Rl K P O Z e1 σ H) {vs : List Nat} (l2 : Rl K P O Z' e2 σ2 H') (s : Stp O Z H Z' H') (no : noOwn e1 vs = true) (he : wipeE e2 vs = wipeE e1 vs) (hs : ∀ j, j ∉ vs → σ2[j]? = σ[j]?) : Rl K P O Z' e1 σ H' := by
  refine ⟨l.len, fun i v e => ?_, fun i d e => ?_, l.inj, l2.dis, l2.prot, l2.rng⟩
  · obtain ⟨x, h1, h2⟩ := l.slot i v e
    exact ⟨x, h1, s.rpV h2⟩
  · have ni : i ∉ vs := fun q => by
      have := List.all_eq_true.mp no i q
      rw [e] at this
      cases this
    have e' : e2[i]? = some (.own d) := by
      rw [← wipeE_out (env := e2) ni, he, wipeE_out ni]
      exact e
    obtain ⟨a, h1, h2, h3⟩ := l2.own i d e'
    exact ⟨a, by rw [← hs i ni]; exact h1, h2, h3⟩
end
/-- a kept object's content is another one -/
theorem Rl.poke {K : Ct} {P : Addr → Prop} {O : List Addr} {Z : List Rng} {env : Ev} {σ : L2.St} {H : Hp} (l : Rl K P O Z env σ H) {D : Addr} (hD : P D) (o : HO) : Rl K P O Z env σ (upd H D o) := by
  have k : ∀ a u, ¬ UU P O Z a → H a = some u → upd H D o a = some u := fun a u n e => by rw [upd_ne (a := D) (b := a) (fun q => n (.inl (by rw [q]; exact hD)))]; exact e
  have kz : ∀ a u, a ∈ O ∨ Zad Z a → H a = some u → upd H D o a = some u := fun a u n e => by
    rw [upd_ne]
    · exact e
    · rintro rfl
      rcases n with n | ⟨z, hz, n | n⟩
      · exact (l.dis a n).1 hD
      · exact (l.rng.1 z hz).2.1 (n ▸ hD)
      · exact (l.rng.1 z hz).2.2 (n ▸ hD)
  have th : ∀ a, H a ≠ none → upd H D o a ≠ none := fun a n => by
    by_cases q : a = D
    · rw [q, upd_same]; simp
    · rw [upd_ne q]; exact n
  refine ⟨l.len, fun i v e => ?_, fun i d e => ?_, l.inj, fun a q => ⟨(l.dis a q).1, (l.dis a q).2.1, th a (l.dis a q).2.2⟩, fun a q => th a (l.prot a q), ⟨fun z hz => ⟨(l.rng.1 z hz).1.keep fun a u e q => kz a u (.inr ⟨z, hz, q⟩) e, (l.rng.1 z hz).2⟩, l.rng.2⟩⟩
  · obtain ⟨x, h1, h2⟩ := l.slot i v e
    exact ⟨x, h1, h2.mono k (fun _ _ q => q) fun _ _ q => q⟩
  · obtain ⟨a, h1, h2, h3⟩ := l.own i d e
    exact ⟨a, h1, h2, h3.mono (fun u q => kz a u (.inl h2) q) k fun _ _ q => q⟩
theorem lcG {X : Cx} {vs ts : List Nat} {ri : RI1} {rg : RG1} {rt : RT1} {re : RE1} (hts : ∀ i ∈ ts, i ∈ vs) {σ : L2.St} {H : Hp} {Q : VK} {P : Addr → Prop} {O : List Addr} {Z : List Rng} {env : Ev} {q : PV → Ev → Prop} (l : Rl X.ct P O Z env σ H) (w : rComp vs ri rg rt re env q)
    (k : ∀ out env', q (.d (.list out)) env' → ∀ Z' H' D acc, Stp O Z H Z' H' → H D = none → Rl X.ct (PD P D) O Z' env' σ H' → H' D = some (.lst acc) → acc.length ≤ sizeLine → RpAll X.ct (UU (PD P D) O Z') H' acc out → Q (.ref D) H') :
    tLc (tRI X.ct ri) (tRG X.ct ts rg) (tRT X.ct rt) (tR X.ct re) vs σ H Q := by
  refine ⟨P, O, Z, env, _, l, w, fun xs e1 ⟨no, w1⟩ Z1 H1 J s1 l1 ⟨le, G, Y, W, hG⟩ D hD => ?_⟩
  have ext : ∀ {Z' : List Rng} {H' : Hp}, Stp O Z1 H1 Z' H' → ∀ a o, ¬ UU P O Z1 a → H1 a = some o → H' a = some o := fun s a o n q => s.keep a o q (fun w => n (.inr (.inl w))) fun w => n (.inr (.inr w))
  have uu0 : ∀ {Z' : List Rng} {H' : Hp}, Stp O Z1 H1 Z' H' → ∀ a, H1 a ≠ none → UU (PD P D) O Z' a → UU P O Z1 a := fun s a n q => by
    rcases q with (q | rfl) | q | q
    · exact .inl q
    · exact absurd hD n
    · exact .inr (.inl q)
    · exact .inr (.inr (s.zad q n))
  refine lc_it W (fun i H' => ∃ Z' acc ds, Stp O Z1 H1 Z' H' ∧ Rl X.ct (PD P D) O Z' e1 σ H' ∧ H' D = some (.lst acc) ∧ RpAll X.ct (UU (PD P D) O Z') H' acc ds ∧ acc.length ≤ i ∧ compGo (lcStep vs rg rt re e1) (xs.drop i) ds (fun out => q (.d (.list out)) e1)) ?_ ?_ ?_ ?_
  · exact ⟨Z1, [], [], stp_new hD, l1.keepNew hD _, upd_same, .nil, Nat.le_refl _, w1⟩
  · rintro i H' hi ⟨Z', acc, ds, s2, l2, h2, r2, ha, g2⟩
    exact (hG H' (UU (PD P D) O Z') (ext s2) (uu0 s2) fun a n q => l2.fresh n q).1
  · rintro i x H2 H3 hi ⟨Z', acc, ds, s2, l2, h2, r2, ha, g2⟩ y
    obtain ⟨grow, hd⟩ := (hG H2 (UU (PD P D) O Z') (ext s2) (uu0 s2) fun a n q => l2.fresh n q).2 i x H3 hi y
    have gt : xs.drop i = xs[i] :: xs.drop (i + 1) := List.drop_eq_getElem_cons hi
    rw [gt] at g2
    have rx := hd xs[i] (by simp [hi])
    have l3 := l2.grow grow
    have r3 : RpAll X.ct (UU (PD P D) O Z') H3 acc ds := RpAll.mono (fun a o _ => grow a o) (fun _ _ q => q) ds acc r2
    have h3 := grow _ _ h2
    have s3 : Stp O Z1 H1 Z' H3 := ⟨fun a o q n z => grow _ _ (s2.keep a o q n z), s2.more, fun a n => by
      cases q : H2 a with
      | none => exact absurd q (s2.there a n)
      | some o => rw [grow a o q]; simp⟩
    have DO : D ∉ O := fun q => (l3.dis D q).1 (.inr rfl)
    have DZ : ¬ Zad Z' D := fun ⟨z, hz, e⟩ => by
      rcases e with e | e
      · exact (l3.rng.1 z hz).2.1 (.inr e.symm)
      · exact (l3.rng.1 z hz).2.2 (.inr e.symm)
    refine ⟨PD P D, O, Z', wipeE e1 vs, .d xs[i], _, l3.wipe vs, rx, g2, fun e2 ⟨we, g3⟩ σ2 l4 hσ => ?_⟩
    have hl : σ2.length = σ.length := by
      have e := congrArg List.length we
      rw [wipeE_length, wipeE_length] at e
      rw [← l4.len, e, l3.len]
    have hσ' : ∀ j, j ∉ vs → σ2[j]? = σ[j]? := fun j hj => by rw [hσ j fun q => hj (hts j q), wipe_out hj]
    refine ⟨wipe_eq hl hσ', PD P D, O, Z', e2, _, l4, g3, fun b e3 ⟨ee, g4⟩ Z4 H4 s4 l5 => ?_⟩
    subst ee
    cases b with
    | true =>
      rw [if_pos rfl] at g4
      rw [if_pos rfl]
      refine ⟨PD P D, O, Z4, _, _, l5, g4, fun v e4 ⟨ee, d, hv, g5⟩ Z5 H5 z s5 l6 p6 => ?_⟩
      subst ee hv
      have s45 := s4.trans s5
      have h5 : H5 D = some (.lst acc) := s45.keep _ _ h3 DO DZ
      have l7 := (Rl.back l3 l6 s45 no we hσ').poke (D := D) (.inr rfl) (.lst (acc ++ [z]))
      have pk : ∀ a u, ¬ UU (PD P D) O Z5 a → H5 a = some u → upd H5 D (.lst (acc ++ [z])) a = some u := fun a u n e => by rw [upd_ne (a := D) (b := a) (fun q => n (.inl (.inr q)))]; exact e
      refine ⟨acc, h5, by omega, Z5, acc ++ [z], ds ++ [d], ?_, l7, upd_same, ?_, by rw [List.length_append, List.length_singleton]; omega, g5⟩
      · have s35 := s3.trans s45
        refine ⟨fun a o q n zz => ?_, s35.more, fun a n => ?_⟩
        · rw [upd_ne (ne_of_none q hD)]
          exact s35.keep a o q n zz
        · by_cases qa : a = D
          · rw [qa, upd_same]; simp
          · rw [upd_ne qa]; exact s35.there a n
      · exact RpAll.mono pk (fun _ _ q => q) _ _ ((s45.rpA r3).app (.one p6))
    | false =>
      rw [if_neg Bool.false_ne_true] at g4
      rw [if_neg Bool.false_ne_true]
      exact ⟨Z4, acc, ds, s3.trans s4, Rl.back l3 l5 s4 no we hσ', s4.keep _ _ h3 DO DZ, s4.rpA r3, by omega, g4⟩
  · rintro H' ⟨Z', acc, ds, s2, l2, h2, r2, ha, g2⟩
    rw [List.drop_length] at g2
    have hD0 : H D = none := Classical.byContradiction fun n => s1.there D n hD
    exact k _ e1 g2 Z' H' D acc (s1.trans s2) hD0 l2 h2 (by omega) r2
theorem lcR {X : Cx} {vs ts : List Nat} {ri : RI1} {rg : RG1} {rt : RT1} {re : RE1} (hts : ∀ i ∈ ts, i ∈ vs) {σ : L2.St} {H : Hp} {Q : VK} (h : tR X.ct (rComp vs ri rg rt re) σ H Q) :
    tLc (tRI X.ct ri) (tRG X.ct ts rg) (tRT X.ct rt) (tR X.ct re) vs σ H Q := by
  obtain ⟨P, O, Z, env, q, l, w, k⟩ := h
  refine lcG hts l w fun out e1 g2 Z' H' D acc s hD l2 h2 hz r2 => ?_
  have fr : ¬ UU P O Z' D := fun q => by
    rcases q with q | q | ⟨z, hz, e⟩
    · exact l.prot D q hD
    · exact (l2.dis D q).1 (.inr rfl)
    · rcases e with e | e
      · exact (l2.rng.1 z hz).2.1 (.inr e.symm)
      · exact (l2.rng.1 z hz).2.2 (.inr e.symm)
  refine k _ e1 g2 Z' H' _ s (l2.drop fun a q => .inl q) (.lst fr h2 hz ?_)
  exact RpAll.mono (fun _ _ _ q => q) (fun a _ q => by
    rcases q with q | q
    · exact .inl (.inl q)
    · exact .inr q) _ _ r2
/-- .. as an owned one -/
def tRF (K : Ct) (r : RE1) : TE := fun σ H Q => ∃ P O Z env q, Rl K P O Z env σ H ∧ r env q ∧ ∀ d env', q (.d d) env' → ∀ Z' H' a, Stp O Z H Z' H' → H a = none → a ∉ O → Rl K P O Z' env' σ H' → Rl K P (a :: O) Z' env' σ H' → RpOwn K (UU P (a :: O) Z') H' a d → Q (.ref a) H'
structure RF (X : Cx) (e : Expr) (r : RE1) : Prop where
  h : PE X e (tRF X.ct r)
theorem Rl.take {K : Ct} {P : Addr → Prop} {O : List Addr} {Z : List Rng} {env : Ev} {σ : L2.St} {H : Hp} {D : Addr} (l : Rl K (PD P D) O Z env σ H) (h : ¬ P D) : Rl K P (D :: O) Z env σ H := by
  have u : ∀ a, UU P (D :: O) Z a → UU (PD P D) O Z a := fun a q => by
    rcases q with q | q | q
    · exact .inl (.inl q)
    · rcases List.mem_cons.mp q with q | q
      · exact .inl (.inr q)
      · exact .inr (.inl q)
    · exact .inr (.inr q)
  have DZ : ¬ Zad Z D := fun ⟨z, hz, e⟩ => by
    rcases e with e | e
    · exact (l.rng.1 z hz).2.1 (.inr e.symm)
    · exact (l.rng.1 z hz).2.2 (.inr e.symm)
  refine ⟨l.len, fun i v e => ?_, fun i d e => ?_, l.inj, fun a q => ?_, fun a q => l.prot a (.inl q), ⟨fun z hz => ⟨(l.rng.1 z hz).1, fun q => (l.rng.1 z hz).2.1 (.inl q), fun q => (l.rng.1 z hz).2.2 (.inl q)⟩, l.rng.2⟩⟩
  · obtain ⟨x, h1, h2⟩ := l.slot i v e
    exact ⟨x, h1, h2.mono (fun _ _ _ q => q) (fun a _ => u a) fun _ _ q => q⟩
  · obtain ⟨a, h1, h2, h3⟩ := l.own i d e
    exact ⟨a, h1, List.mem_cons_of_mem _ h2, h3.mono (fun _ q => q) (fun _ _ _ q => q) fun a _ => u a⟩
  · rcases List.mem_cons.mp q with rfl | q
    · exact ⟨h, DZ, l.prot _ (.inr rfl)⟩
    · exact ⟨fun w => (l.dis a q).1 (.inl w), (l.dis a q).2⟩
theorem lcF {X : Cx} {vs ts : List Nat} {ri : RI1} {rg : RG1} {rt : RT1} {re : RE1} (hts : ∀ i ∈ ts, i ∈ vs) {σ : L2.St} {H : Hp} {Q : VK} (h : tRF X.ct (rComp vs ri rg rt re) σ H Q) :
    tLc (tRI X.ct ri) (tRG X.ct ts rg) (tRT X.ct rt) (tR X.ct re) vs σ H Q := by
  obtain ⟨P, O, Z, env, q, l, w, k⟩ := h
  refine lcG hts l w fun out e1 g2 Z' H' D acc s hD l2 h2 hz r2 => ?_
  refine k _ e1 g2 Z' H' D s hD (fun q => (l2.dis D q).1 (.inr rfl)) (l2.drop fun a q => .inl q) (l2.take fun q => l.prot D q hD) ⟨acc, h2, hz, ?_⟩
  exact RpAll.mono (fun _ _ _ q => q) (fun a _ q => by
    rcases q with q | q | q
    · exact .inl (.inl q)
    · rcases List.mem_cons.mp q with q | q
      · exact .inl (.inr q)
      · exact .inr (.inl q)
    · exact .inr (.inr q)) _ _ r2
/-! ### the rules -/
section
variable {X : Cx} {elt tg iter : Expr} {ifs : List Expr} {scope : Scope} {own : List (Str × Nat)} {pos : Pos} {ts : List Nat} {ri : RI1} {rg : RG1} {rt : RT1} {re : RE1}
structure RTs (X : Cx) (ifs : List Expr) (rt : RT1) : Prop where
  h : PTs X ifs (tRT X.ct rt)
def rYes : RT1 := fun env q => q true env
theorem rts_nil : RTs X [] rYes := ⟨⟨fun pins s σ H Q I w => pts_nil.run pins s σ H Q I (by
  obtain ⟨P, O, Z, env, q, l, w, k⟩ := w
  exact k true env w Z H .refl l)⟩⟩
theorem rts_one {c : Expr} (h : RT X c rt) : RTs X [c] rt := ⟨pts_one h.h⟩
abbrev Blk (X : Cx) (scope : Scope) (f : Cx → Prop) : Prop := ∀ (s : Shared) (H : Hp) (C : Addr) (cl : List (Str × Addr)) (fp : List Addr), f (X.blk s H scope (compEnvC scope cl C X.env) fp)
theorem re_lc (hc : X.calm = true) (hN : X.N.Nodup) (hi : RI X tg iter ri) (ok : blkC X.N X.env.scope scope own = true) (hts : ∀ i ∈ ts, i ∈ own.map (·.2))
    (hg : Blk X scope fun Y => RG Y tg ts rg) (ht : Blk X scope fun Y => RTs Y ifs rt) (he : Blk X scope fun Y => RE Y elt re) (hs : ∀ x, foldedSetIterable iter X.env x = pure x := by intro _; rfl) :
    RE X (.ListComp elt [⟨tg, iter, ifs, 0⟩] scope pos) (rComp (own.map (·.2)) ri rg rt re) :=
  .of (pe_lc hc hN hi.h (blkOk_by ok) (fun s H C cl fp => (hg s H C cl fp).h) (fun s H C cl fp => (ht s H C cl fp).h) (fun s H C cl fp => (he s H C cl fp).h) hs) fun σ H Q => lcR hts
theorem rf_lc (hc : X.calm = true) (hN : X.N.Nodup) (hi : RI X tg iter ri) (ok : blkC X.N X.env.scope scope own = true) (hts : ∀ i ∈ ts, i ∈ own.map (·.2))
    (hg : Blk X scope fun Y => RG Y tg ts rg) (ht : Blk X scope fun Y => RTs Y ifs rt) (he : Blk X scope fun Y => RE Y elt re) (hs : ∀ x, foldedSetIterable iter X.env x = pure x := by intro _; rfl) :
    RF X (.ListComp elt [⟨tg, iter, ifs, 0⟩] scope pos) (rComp (own.map (·.2)) ri rg rt re) :=
  ⟨pe_imp (pe_lc hc hN hi.h (blkOk_by ok) (fun s H C cl fp => (hg s H C cl fp).h) (fun s H C cl fp => (ht s H C cl fp).h) (fun s H C cl fp => (he s H C cl fp).h) hs) fun σ H Q => lcF hts⟩
theorem rf_lst {es : List Expr} {rs : RA1} (h : RA X es rs) : RF X (.List es pos) (rLst rs) :=
  ⟨pe_imp (pe_lst h.h) fun σ H Q ⟨P, O, Z, env, q, l, w, k⟩ => by
    refine ⟨P, O, Z, env, _, l, w, fun vs e1 w1 Z1 H1 xs s1 l1 p1 => ?_⟩
    obtain ⟨ds, e, z, w1⟩ := w1
    have h := p1.datas e
    have hz : xs.length ≤ sizeLine := by rw [h.length]; exact z
    refine ⟨hz, fun p hp => ?_⟩
    have hp0 : H p = none := Classical.byContradiction fun n => s1.there p n hp
    refine k _ e1 w1 Z1 _ p (s1.trans (stp_new hp)) hp0 (fun q => (l1.dis p q).2.2 hp) (l1.new hp) (l1.newOwn hp) ⟨xs, upd_same, hz, ?_⟩
    exact RpAll.mono (fun a o _ q => by rw [upd_ne (ne_of_none q hp)]; exact q) (fun a n q => by
      rcases q with q | q | q
      · exact .inl q
      · rcases List.mem_cons.mp q with rfl | q
        · exact absurd hp n
        · exact .inr (.inl q)
      · exact .inr (.inr q)) _ _ h⟩
end
end R
/-! The pure layer, part 6: statements, a def's body. -/
namespace R
open PySem PySem.Spec PyProof.Rows L2
structure REnds where
  nx : Ev → Prop
  rt : PV → Prop
  bk : Ev → Prop := fun _ => False
  ct : Ev → Prop := fun _ => False
abbrev RS1 := Ev → REnds → Prop
/-- .. and what is owned is what was owned, or new -/
structure Stq (O : List Addr) (Z : List Rng) (H : Hp) (O' : List Addr) (Z' : List Rng) (H' : Hp) : Prop where
  s : Stp O Z H Z' H'
  o : ∀ a ∈ O', a ∈ O ∨ H a = none
section
variable {K : Ct} {P : Addr → Prop} {O O' O₂ : List Addr} {Z Z' Z₂ : List Rng} {H H' H₂ : Hp} {env : Ev} {σ : L2.St}
theorem Stq.refl : Stq O Z H O Z H := ⟨.refl, fun _ h => .inl h⟩
theorem Stp.q (s : Stp O Z H Z' H') : Stq O Z H O Z' H' := ⟨s, fun _ h => .inl h⟩
theorem Stq.stp (s : Stq O Z H O' Z' H') (t : Stp O' Z' H' Z₂ H₂) : Stp O Z H Z₂ H₂ := by
  refine ⟨fun a o h n z => ?_, ?_, fun a h => t.there a (s.s.there a h)⟩
  · refine t.keep a o (s.s.keep a o h n z) (fun q => ?_) fun q => z (s.s.zad q (by rw [h]; simp))
    rcases s.o a q with w | w
    · exact n w
    · rw [h] at w; cases w
  · obtain ⟨m, e1, h1⟩ := s.s.more
    obtain ⟨m2, e2, h2⟩ := t.more
    refine ⟨m ++ m2, by rw [e2, e1, List.append_assoc], fun z hz => ?_⟩
    rcases List.mem_append.mp hz with q | q
    · exact h1 z q
    · have n := h2 z q
      exact ⟨Classical.byContradiction fun w => s.s.there _ w n.1, Classical.byContradiction fun w => s.s.there _ w n.2⟩
theorem Stq.trans (s : Stq O Z H O' Z' H') (t : Stq O' Z' H' O₂ Z₂ H₂) : Stq O Z H O₂ Z₂ H₂ :=
  ⟨s.stp t.s, fun a h => by
    rcases t.o a h with q | q
    · exact s.o a q
    · exact .inr (Classical.byContradiction fun w => s.s.there a w q)⟩
end
/-- the ends that the layer knows reach the ends that are wanted -/
structure EOk (K : Ct) (P : Addr → Prop) (O : List Addr) (Z : List Rng) (H : Hp) (E : REnds) (D : Ends) : Prop where
  nx : ∀ e, E.nx e → ∀ O' Z' σ' H', Stq O Z H O' Z' H' → Rl K P O' Z' e σ' H' → D.nx σ' H'
  rt : ∀ v, E.rt v → ∀ Z' H' x, Stp O Z H Z' H' → RngAll P Z' H' → RpV K (UU P [] Z') Z' H' x v → D.rt x H'
  bk : ∀ e, E.bk e → ∀ O' Z' σ' H', Stq O Z H O' Z' H' → Rl K P O' Z' e σ' H' → D.bk σ' H'
  ct : ∀ e, E.ct e → ∀ O' Z' σ' H', Stq O Z H O' Z' H' → Rl K P O' Z' e σ' H' → D.ct σ' H'
theorem EOk.later {K : Ct} {P : Addr → Prop} {O O' : List Addr} {Z Z' : List Rng} {H H' : Hp} {E : REnds} {D : Ends} (h : EOk K P O Z H E D) (s : Stq O Z H O' Z' H') : EOk K P O' Z' H' E D :=
  ⟨fun e q O2 Z2 σ2 H2 t l => h.nx e q O2 Z2 σ2 H2 (s.trans t) l, fun v q Z2 H2 x t g r => h.rt v q Z2 H2 x (s.stp t) g r,
    fun e q O2 Z2 σ2 H2 t l => h.bk e q O2 Z2 σ2 H2 (s.trans t) l, fun e q O2 Z2 σ2 H2 t l => h.ct e q O2 Z2 σ2 H2 (s.trans t) l⟩
def tRS (K : Ct) (r : RS1) : TS := fun D σ H => ∃ P O Z env E, Rl K P O Z env σ H ∧ r env E ∧ EOk K P O Z H E D
structure RS (X : Cx) (st : Stmt) (r : RS1) : Prop where
  h : PS X st (tRS X.ct r)
structure RSs (X : Cx) (st : List Stmt) (r : RS1) : Prop where
  h : PSs X st (tRS X.ct r)
section
variable {X : Cx} {st : Stmt} {sts : List Stmt} {r r' : RS1} {e c : Expr} {ra re : RE1} {rt : RT1} {pos : Pos}
theorem ps_imp {t u : TS} (h : PS X st t) (i : ∀ D σ H, u D σ H → t D σ H) : PS X st u := ⟨fun pins s σ H D I w => h.run pins s σ H D I (i D σ H w)⟩
theorem pss_imp {t u : TS} (h : PSs X sts t) (i : ∀ D σ H, u D σ H → t D σ H) : PSs X sts u := ⟨fun pins s σ H D I w => h.run pins s σ H D I (i D σ H w)⟩
theorem RS.of {t : TS} (h : PS X st t) (i : ∀ D σ H, tRS X.ct r D σ H → t D σ H) : RS X st r := ⟨ps_imp h i⟩
def rNext : RS1 := fun env E => E.nx env
def rSeq (r r' : RS1) : RS1 := fun env E => r env { E with nx := fun e => r' e E }
theorem rss_nil : RSs X [] rNext := ⟨pss_imp pss_nil fun D σ H ⟨P, O, Z, env, E, l, w, k⟩ => k.nx env w O Z σ H .refl l⟩
theorem rss_cons (h1 : RS X st r) (h2 : RSs X sts r') : RSs X (st :: sts) (rSeq r r') :=
  ⟨pss_imp (pss_cons h1.h h2.h) fun D σ H ⟨P, O, Z, env, E, l, w, k⟩ =>
    ⟨P, O, Z, env, _, l, w, ⟨fun e1 w1 O1 Z1 σ1 H1 s1 l1 => ⟨P, O1, Z1, e1, E, l1, w1, k.later s1⟩, k.rt, k.bk, k.ct⟩⟩⟩
theorem rss_one (h1 : RS X st r) : RSs X [st] r := ⟨pss_one h1.h⟩
/-- an owned container is owned no more: from here on a value -/
def rFrz (i : Nat) (r : RS1) : RS1 := fun env E => ∃ d, env[i]? = some (.own d) ∧ r (env.set i (.val (.d d))) E
theorem rss_frz {i : Nat} (h : RSs X sts r) : RSs X sts (rFrz i r) :=
  ⟨pss_imp h.h fun D σ H ⟨P, O, Z, env, E, l, ⟨d, e, w⟩, k⟩ => by
    obtain ⟨a, h1, h2, h3⟩ := l.own i d e
    -- without a
    have ho : ∀ (j : Nat) (f : PyData) (b : Addr), (env.set i (.val (.d d)))[j]? = some (.own f) → σ[j]? = some (some (.ref b)) → b ∈ O.filter (· ≠ a) := fun j f b q1 q2 => by
      have ne : i ≠ j := by
        rintro rfl
        by_cases hi : i < env.length
        · rw [List.getElem?_set_self hi] at q1; cases q1
        · rw [List.getElem?_eq_none (by simpa using hi)] at q1; cases q1
      rw [List.getElem?_set_ne ne] at q1
      obtain ⟨b', w1, w2, _⟩ := l.own j f q1
      rw [q2] at w1
      cases w1
      refine List.mem_filter.mpr ⟨w2, ?_⟩
      simp only [decide_not, Bool.not_eq_true', decide_eq_false_iff_not]
      rintro rfl
      exact ne (l.inj i j d f b e q1 h1 q2)
    have sub : ∀ b, b ∈ O.filter (· ≠ a) → b ∈ O := fun b q => (List.mem_filter.mp q).1
    have u : ∀ b, UU P (O.filter (· ≠ a)) Z b → UU P O Z b := fun b q => by
      rcases q with q | q | q
      · exact .inl q
      · exact .inr (.inl (sub b q))
      · exact .inr (.inr q)
    have na : ¬ UU P (O.filter (· ≠ a)) Z a := fun q => by
      rcases q with q | q | q
      · exact (l.dis a h2).1 q
      · have := (List.mem_filter.mp q).2
        simp at this
      · exact (l.dis a h2).2.1 q
    have hi : i < env.length := (List.getElem?_eq_some_iff.mp e).1
    have rp : Rp X.ct (UU P (O.filter (· ≠ a)) Z) H (.ref a) d := by
      cases d with
      | list ds =>
        obtain ⟨xs, q1, q2, q3⟩ := h3
        exact .lst na q1 q2 (RpAll.mono (fun _ _ _ q => q) (fun b _ => u b) _ _ q3)
      | dict ds =>
        rcases h3 with ⟨xs, q1, q2, q3⟩ | ⟨xs, q0, q1, q2, q3⟩
        · exact .dct na q1 q2 (RpKv.mono (fun _ _ _ q => q) (fun b _ => u b) _ _ q3)
        · exact .dcn q0 na q1 q2 (RpNk.mono (fun _ _ _ q => q) (fun b _ => u b) _ _ q3)
      | _ => exact h3.elim
    have l2 : Rl X.ct P (O.filter (· ≠ a)) Z (env.set i (.val (.d d))) σ H := by
      refine ⟨by simpa using l.len, fun j v q => ?_, fun j f q => ?_, fun j m f g b q1 q2 q3 q4 => ?_, fun b q => l.dis b (sub b q), l.prot, l.rng⟩
      · by_cases ne : i = j
        · subst ne
          rw [List.getElem?_set_self hi] at q
          cases q
          exact ⟨_, h1, rp⟩
        · rw [List.getElem?_set_ne ne] at q
          obtain ⟨x, w1, w2⟩ := l.slot j v q
          exact ⟨x, w1, w2.mono (fun _ _ _ q => q) (fun b _ => u b) fun _ _ q => q⟩
      · have ne : i ≠ j := by
          rintro rfl
          rw [List.getElem?_set_self hi] at q; cases q
        have q' := q
        rw [List.getElem?_set_ne ne] at q
        obtain ⟨b, w1, w2, w3⟩ := l.own j f q
        exact ⟨b, w1, ho j f b q' w1, w3.mono (fun _ q => q) (fun _ _ _ q => q) fun b _ => u b⟩
      · have ne : ∀ {n : Nat} {g : PyData}, (env.set i (.val (.d d)))[n]? = some (.own g) → env[n]? = some (.own g) := fun {n g} q => by
          by_cases ne : i = n
          · subst ne
            rw [List.getElem?_set_self hi] at q; cases q
          · rw [List.getElem?_set_ne ne] at q; exact q
        exact l.inj j m f g b (ne q1) (ne q2) q3 q4
    exact ⟨P, _, Z, _, E, l2, w, k.later ⟨.refl, fun b q => .inl (sub b q)⟩⟩⟩
/-! ### assignments -/
def rAsg (re : RE1) (rg : RG1) : RS1 := fun env E => re env fun v e1 => rg v e1 E.nx
theorem asgR {ts : List Nat} {rg : RG1} {D : Ends} {σ : L2.St} {H : Hp} (h : tRS X.ct (rAsg re rg) D σ H) : tAsg (tR X.ct re) (tRG X.ct ts rg) D σ H := by
  obtain ⟨P, O, Z, env, E, l, w, k⟩ := h
  exact ⟨P, O, Z, env, _, l, w, fun v e1 w1 Z1 H1 x s1 l1 p1 => ⟨P, O, Z1, e1, v, _, l1, p1, w1, fun e2 w2 σ2 l2 _ => k.nx e2 w2 O Z1 σ2 H1 s1.q l2⟩⟩
theorem rs_asg {tg : Expr} {ts : List Nat} {rg : RG1} (he : RE X e re) (hg : RG X tg ts rg) (hs : swapsWithSole [tg] e pos.line X.env = pure false := by rfl) (hw : swappedStores [tg] e X.env = pure none := by rfl)
    (h1 : (assignEach [tg] X.env).map (·.2) = [assign tg X.env] := by rfl) : RS X (.Assign [tg] e pos) (rAsg re rg) := .of (ps_asg he.h hg.h hs hw h1) fun _ _ _ => asgR
theorem setR {i : Nat} {te : TE} {D : Ends} {σ : L2.St} {H : Hp} (hte : ∀ Q, tR X.ct re σ H Q → te σ H Q) (h : tRS X.ct (rAsg re (rgName i)) D σ H) : tAsg te (gName i) D σ H := by
  obtain ⟨P, O, Z, env, E, l, w, k⟩ := h
  exact hte _ ⟨P, O, Z, env, _, l, w, fun v e1 w1 Z1 H1 x s1 l1 p1 => k.nx _ w1 O Z1 _ H1 s1.q (l1.set i p1)⟩
theorem rs_set {i : Nat} {x : Str} {p2 : Pos} (hN : X.N.Nodup) (hi : X.N[i]? = some x) (hx : Loc X.env.scope x) (he : RE X e re) (hs : swapsWith e (some (.Name x p2)) pos.line X.env = pure false := by rfl) (hf : X.fn x = true ∨ X.env.scope.names.lookup x = some .local := by first | exact .inl rfl | exact .inr rfl | assumption) :
    RS X (.Assign [.Name x p2] e pos) (rAsg re (rgName i)) := .of (ps_set hN hi hx he.h hs hf) fun _ _ _ => setR fun _ => id
/-- a new container, owned from now on -/
def rOwnIt (re : RE1) (i : Nat) : RS1 := fun env E => re env fun v e1 => ∃ d, v = .d d ∧ E.nx (e1.set i (.own d))
theorem Rl.setOwn {K : Ct} {P : Addr → Prop} {O : List Addr} {Z : List Rng} {env : Ev} {σ : L2.St} {H : Hp} {a : Addr} {d : PyData} (l : Rl K P (a :: O) Z env σ H) (i : Nat) (h : RpOwn K (UU P (a :: O) Z) H a d) (n : ∀ (j : Nat) (f : PyData), env[j]? = some (.own f) → σ[j]? ≠ some (some (.ref a))) : Rl K P (a :: O) Z (env.set i (.own d)) (σ.set i (some (.ref a))) H := by
  have out : ∀ {j : Nat} {s : Slot}, (env.set i (.own d))[j]? = some s → (i = j ∧ s = .own d ∧ (σ.set i (some (.ref a)))[j]? = some (some (.ref a))) ∨ (i ≠ j ∧ env[j]? = some s ∧ (σ.set i (some (.ref a)))[j]? = σ[j]?) := fun {j s} q => by
    by_cases e : i = j
    · subst e
      by_cases hi : i < env.length
      · rw [List.getElem?_set_self hi] at q
        cases q
        exact .inl ⟨rfl, rfl, List.getElem?_set_self (by rw [← l.len]; exact hi)⟩
      · rw [List.getElem?_eq_none (by simpa using hi)] at q; cases q
    · rw [List.getElem?_set_ne e] at q
      exact .inr ⟨e, q, List.getElem?_set_ne e⟩
  refine ⟨by simpa using l.len, fun j v q => ?_, fun j f q => ?_, fun j m f g b q1 q2 q3 q4 => ?_, l.dis, l.prot, l.rng⟩
  · rcases out q with ⟨_, e, _⟩ | ⟨_, q, e⟩
    · cases e
    · obtain ⟨x, h1, h2⟩ := l.slot j v q
      exact ⟨x, by rw [e]; exact h1, h2⟩
  · rcases out q with ⟨_, e, w⟩ | ⟨_, q, e⟩
    · cases e
      exact ⟨a, w, List.mem_cons_self, h⟩
    · obtain ⟨b, h1, h2, h3⟩ := l.own j f q
      exact ⟨b, by rw [e]; exact h1, h2, h3⟩
  · rcases out q1 with ⟨e1, _, w1⟩ | ⟨e1, q1, w1⟩
    · rcases out q2 with ⟨e2, _, w2⟩ | ⟨e2, q2, w2⟩
      · exact e1.symm.trans e2
      · rw [w1] at q3
        cases q3
        rw [w2] at q4
        exact absurd q4 (n m g q2)
    · rcases out q2 with ⟨e2, _, w2⟩ | ⟨e2, q2, w2⟩
      · rw [w2] at q4
        cases q4
        rw [w1] at q3
        exact absurd q3 (n j f q1)
      · rw [w1] at q3
        rw [w2] at q4
        exact l.inj j m f g b q1 q2 q3 q4
theorem ownR {i : Nat} {te : TE} {D : Ends} {σ : L2.St} {H : Hp} (hte : ∀ Q, tRF X.ct re σ H Q → te σ H Q) (h : tRS X.ct (rOwnIt re i) D σ H) : tAsg te (gName i) D σ H := by
  obtain ⟨P, O, Z, env, E, l, w, k⟩ := h
  refine hte _ ⟨P, O, Z, env, _, l, w, fun d e1 w1 Z1 H1 a s1 n1 na l0 l1 p1 => ?_⟩
  obtain ⟨d', e, w1⟩ := w1
  cases e
  refine k.nx _ w1 (a :: O) Z1 _ H1 ⟨s1, fun b q => ?_⟩ (l1.setOwn i p1 fun j f q1 q2 => ?_)
  · rcases List.mem_cons.mp q with rfl | q
    · exact .inr n1
    · exact .inl q
  · obtain ⟨b, w2, w3, _⟩ := l0.own j f q1
    rw [q2] at w2
    cases w2
    exact na w3
theorem rs_own {i : Nat} {x : Str} {p2 : Pos} (hN : X.N.Nodup) (hi : X.N[i]? = some x) (hx : Loc X.env.scope x) (he : RF X e re) (hs : swapsWith e (some (.Name x p2)) pos.line X.env = pure false := by rfl) (hf : X.fn x = true ∨ X.env.scope.names.lookup x = some .local := by first | exact .inl rfl | exact .inr rfl | assumption) :
    RS X (.Assign [.Name x p2] e pos) (rOwnIt re i) := .of (ps_set hN hi hx he.h hs hf) fun _ _ _ => ownR fun _ => id
/-- name = [.. for ..] on one line, the name a local -/
theorem rs_setLc {i : Nat} {y : Str} {py spos : Pos} {elt tg iter : Expr} {ifs : List Expr} {scope : Scope} {own : List (Str × Nat)} {ts : List Nat} {ri : RI1} {rg : RG1} {rr : RE1} (hc : X.calm = true) (hN : X.N.Nodup) (hy : X.N[i]? = some y) (hyl : X.env.scope.names.lookup y = some .local)
    (hsw : swapsWith (.ListComp elt [⟨tg, iter, ifs, 0⟩] scope pos) (some (.Name y py)) spos.line X.env = pure true) (hi : RI X tg iter ri) (ok : blkC X.N X.env.scope scope own = true) (hts : ∀ i ∈ ts, i ∈ own.map (·.2))
    (hg : Blk X scope fun Y => RG Y tg ts rg) (ht : Blk X scope fun Y => RTs Y ifs rt) (he : Blk X scope fun Y => RE Y elt rr) (hs : ∀ x, foldedSetIterable iter X.env x = pure x := by intro _; rfl) :
    RS X (.Assign [.Name y py] (.ListComp elt [⟨tg, iter, ifs, 0⟩] scope pos) spos) (rAsg (rComp (own.map (·.2)) ri rg rt rr) (rgName i)) :=
  .of (ps_setLc hc hN hy hyl hsw hi.h (blkOk_by ok) (fun s H C cl fp => (hg s H C cl fp).h) (fun s H C cl fp => (ht s H C cl fp).h) (fun s H C cl fp => (he s H C cl fp).h) hs) fun _ _ _ => setR fun _ => lcR hts
theorem rs_ownLc {i : Nat} {y : Str} {py spos : Pos} {elt tg iter : Expr} {ifs : List Expr} {scope : Scope} {own : List (Str × Nat)} {ts : List Nat} {ri : RI1} {rg : RG1} {rr : RE1} (hc : X.calm = true) (hN : X.N.Nodup) (hy : X.N[i]? = some y) (hyl : X.env.scope.names.lookup y = some .local)
    (hsw : swapsWith (.ListComp elt [⟨tg, iter, ifs, 0⟩] scope pos) (some (.Name y py)) spos.line X.env = pure true) (hi : RI X tg iter ri) (ok : blkC X.N X.env.scope scope own = true) (hts : ∀ i ∈ ts, i ∈ own.map (·.2))
    (hg : Blk X scope fun Y => RG Y tg ts rg) (ht : Blk X scope fun Y => RTs Y ifs rt) (he : Blk X scope fun Y => RE Y elt rr) (hs : ∀ x, foldedSetIterable iter X.env x = pure x := by intro _; rfl) :
    RS X (.Assign [.Name y py] (.ListComp elt [⟨tg, iter, ifs, 0⟩] scope pos) spos) (rOwnIt (rComp (own.map (·.2)) ri rg rt rr) i) :=
  .of (ps_setLc hc hN hy hyl hsw hi.h (blkOk_by ok) (fun s H C cl fp => (hg s H C cl fp).h) (fun s H C cl fp => (ht s H C cl fp).h) (fun s H C cl fp => (he s H C cl fp).h) hs) fun _ _ _ => ownR fun _ => lcF hts

/-! ### a, b = x, y -/
def rPar2 (i j : Nat) (rs : RA1) : RS1 := fun env E => rs env fun vs e1 => ∃ v w, vs = [v, w] ∧ E.nx ((e1.set i (.val v)).set j (.val w))
def rPar3 (i j k : Nat) (rs : RA1) : RS1 := fun env E => rs env fun vs e1 => ∃ u v w, vs = [u, v, w] ∧ E.nx (((e1.set i (.val u)).set j (.val v)).set k (.val w))
theorem par2R {i j : Nat} {rs : RA1} {D : Ends} {σ : L2.St} {H : Hp} (h : tRS X.ct (rPar2 i j rs) D σ H) : tPar i j (tRA X.ct rs) D σ H := by
  obtain ⟨P, O, Z, env, E, l, w, k⟩ := h
  refine ⟨P, O, Z, env, _, l, w, fun vs e1 w1 Z1 H1 xs s1 l1 p1 => ?_⟩
  obtain ⟨v, u, rfl, w1⟩ := w1
  cases p1 with
  | cons p1 t =>
    cases t with
    | cons p2 t =>
      cases t
      exact ⟨_, _, rfl, k.nx _ w1 O Z1 _ H1 s1.q ((l1.set i p1).set j p2)⟩
theorem par3R {i j m : Nat} {rs : RA1} {D : Ends} {σ : L2.St} {H : Hp} (h : tRS X.ct (rPar3 i j m rs) D σ H) : tPar3 i j m (tRA X.ct rs) D σ H := by
  obtain ⟨P, O, Z, env, E, l, w, k⟩ := h
  refine ⟨P, O, Z, env, _, l, w, fun vs e1 w1 Z1 H1 xs s1 l1 p1 => ?_⟩
  obtain ⟨v, u, u2, rfl, w1⟩ := w1
  cases p1 with
  | cons p1 t =>
    cases t with
    | cons p2 t =>
      cases t with
      | cons p3 t =>
        cases t
        exact ⟨_, _, _, rfl, k.nx _ w1 O Z1 _ H1 s1.q (((l1.set i p1).set j p2).set m p3)⟩

/-! ### the small ones -/
def rRet (re : RE1) : RS1 := fun env E => re env fun v _ => E.rt v
def rRetN : RS1 := fun _ E => E.rt (.d .none)
theorem Rl.out {K : Ct} {P : Addr → Prop} {O : List Addr} {Z : List Rng} {env : Ev} {σ : L2.St} {H : Hp} {x : V} {v : PV} (l : Rl K P O Z env σ H) (h : RpV K (UU P O Z) Z H x v) : RpV K (UU P [] Z) Z H x v :=
  h.mono (fun _ _ _ q => q) (fun a _ q => by
    rcases q with q | q | q
    · exact .inl q
    · exact nomatch q
    · exact .inr (.inr q)) fun _ _ q => q
theorem rs_ret (he : RE X e re) : RS X (.Return (some e) pos) (rRet re) := .of (ps_ret he.h) fun D σ H ⟨P, O, Z, env, E, l, w, k⟩ =>
  ⟨P, O, Z, env, _, l, w, fun v e1 w1 Z1 H1 x s1 l1 p1 => k.rt v w1 Z1 H1 x s1 l1.rng (l1.out p1)⟩
theorem rs_retN : RS X (.Return none pos) rRetN := .of ps_retN fun D σ H ⟨P, O, Z, env, E, l, w, k⟩ => k.rt _ w Z H .non .refl l.rng .non
theorem rs_pass : RS X (.Pass pos) rNext := .of ps_pass fun D σ H ⟨P, O, Z, env, E, l, w, k⟩ => k.nx env w O Z σ H .refl l
def rBrk : RS1 := fun env E => E.bk env
def rCnt : RS1 := fun env E => E.ct env
theorem rs_brk : RS X (.Break pos) rBrk := .of ps_break fun D σ H ⟨P, O, Z, env, E, l, w, k⟩ => k.bk env w O Z σ H .refl l
theorem rs_cnt : RS X (.Continue pos) rCnt := .of ps_continue fun D σ H ⟨P, O, Z, env, E, l, w, k⟩ => k.ct env w O Z σ H .refl l
def rNever : RS1 := fun _ _ => False
theorem rs_never : RS X st rNever := .of ps_never fun D σ H ⟨P, O, Z, env, E, l, w, k⟩ => w
def rIf (rt : RT1) (r r' : RS1) : RS1 := fun env E => rt env fun b e1 => if b = true then r e1 E else r' e1 E
theorem rs_if {a b : List Stmt} (hc : RT X c rt) (ha : RSs X a r) (hb : RSs X b r') : RS X (.If c a b pos) (rIf rt r r') := .of (ps_if hc.h ha.h hb.h) fun D σ H ⟨P, O, Z, env, E, l, w, k⟩ => by
  refine ⟨P, O, Z, env, _, l, w, fun b e1 w1 Z1 H1 s1 l1 => ?_⟩
  cases b with
  | true => exact ⟨P, O, Z1, e1, E, l1, w1, k.later s1.q⟩
  | false => exact ⟨P, O, Z1, e1, E, l1, w1, k.later s1.q⟩
/-- an expression whose value is dropped -/
def rDrop (re : RE1) : RS1 := fun env E => re env fun _ e1 => E.nx e1
theorem rs_expr (he : RE X e re) (hs : swapsWith e none pos.line X.env = pure false := by rfl) : RS X (.Expr e pos) (rDrop re) := .of (ps_expr he.h hs) fun D σ H ⟨P, O, Z, env, E, l, w, k⟩ =>
  ⟨P, O, Z, env, _, l, w, fun v e1 w1 Z1 H1 x s1 l1 p1 => k.nx e1 w1 O Z1 σ H1 s1.q l1⟩

/-! ### loops -/
def forGo (step : PyData → Ev → (Ev → Prop) → Prop) : List PyData → Ev → (Ev → Prop) → Prop
  | [], e, k => k e
  | x :: xs, e, k => step x e fun e' => forGo step xs e' k
def forStep (rg : RG1) (rb : RS1) (E : REnds) (x : PyData) (e : Ev) (k : Ev → Prop) : Prop := rg (.d x) e fun e2 => rb e2 { E with nx := k, ct := k, bk := E.nx }
def rFor (ri : RI1) (rg : RG1) (rb : RS1) : RS1 := fun env E => ri env fun xs e1 => forGo (forStep rg rb E) xs e1 E.nx
theorem rs_for {tg iter : Expr} {body : List Stmt} {ts : List Nat} {ri : RI1} {rg : RG1} {rb : RS1} (hp : PassesOwn (model X.prog X.w) X.A X.env X.xe) (hc : X.calm = true) (hi : RI X tg iter ri) (hg : RG X tg ts rg) (hb : RSs X body rb) (hs : ∀ x, foldedSetIterable iter X.env x = pure x := by intro _; rfl) :
    RS X (.For tg iter body [] pos) (rFor ri rg rb) := .of (ps_for hp hc hi.h hg.h hb.h hs) fun D σ H ⟨P, O, Z, env, E, l, w, k⟩ => by
  refine ⟨P, O, Z, env, _, l, w, fun xs e1 w1 Z1 H1 J s1 l1 ⟨le, G, Y, W, hG⟩ => ?_⟩
  have k1 := k.later s1.q
  have ext : ∀ {O' : List Addr} {Z' : List Rng} {H' : Hp}, Stq O Z1 H1 O' Z' H' → ∀ a o, ¬ UU P O Z1 a → H1 a = some o → H' a = some o := fun s a o n q => s.s.keep a o q (fun w => n (.inr (.inl w))) fun w => n (.inr (.inr w))
  have uu0 : ∀ {O' : List Addr} {Z' : List Rng} {H' : Hp}, Stq O Z1 H1 O' Z' H' → ∀ a, H1 a ≠ none → UU P O' Z' a → UU P O Z1 a := fun s a n q => by
    rcases q with q | q | q
    · exact .inl q
    · rcases s.o a q with w | w
      · exact .inr (.inl w)
      · exact absurd w n
    · exact .inr (.inr (s.s.zad q n))
  refine for_it W (fun i σ' H' => ∃ O' Z' e', Stq O Z1 H1 O' Z' H' ∧ Rl X.ct P O' Z' e' σ' H' ∧ forGo (forStep rg rb E) (xs.drop i) e' E.nx) ?_ ?_ ?_ ?_
  · exact ⟨O, Z1, e1, .refl, l1, w1⟩
  · rintro i σ' H' hi ⟨O', Z', e', s2, l2, g2⟩
    exact (hG H' (UU P O' Z') (ext s2) (uu0 s2) fun a n q => l2.fresh n q).1
  · rintro i x σ2 H2 H3 hi ⟨O', Z', e', s2, l2, g2⟩ y
    obtain ⟨grow, hd⟩ := (hG H2 (UU P O' Z') (ext s2) (uu0 s2) fun a n q => l2.fresh n q).2 i x H3 hi y
    have gt : xs.drop i = xs[i] :: xs.drop (i + 1) := List.drop_eq_getElem_cons hi
    rw [gt] at g2
    have rx := hd xs[i] (by simp [hi])
    have l3 := l2.grow grow
    have th : ∀ a, H2 a ≠ none → H3 a ≠ none := fun a n => by
      cases q : H2 a with
      | none => exact absurd q n
      | some o => rw [grow a o q]; simp
    have s3 : Stq O Z1 H1 O' Z' H3 := ⟨⟨fun a o q n z => grow _ _ (s2.s.keep a o q n z), s2.s.more, fun a n => th a (s2.s.there a n)⟩, s2.o⟩
    refine ⟨P, O', Z', e', .d xs[i], _, l3, rx, g2, fun e2 g3 σ3 l4 _ => ?_⟩
    refine ⟨P, O', Z', e2, _, l4, g3, ⟨fun e q O4 Z4 σ4 H4 s4 l5 => ⟨O4, Z4, e, s3.trans s4, l5, q⟩, (k1.later s3).rt, fun e q O4 Z4 σ4 H4 s4 l5 => (k1.later s3).nx e q O4 Z4 σ4 H4 s4 l5, fun e q O4 Z4 σ4 H4 s4 l5 => ⟨O4, Z4, e, s3.trans s4, l5, q⟩⟩⟩
  · rintro σ' H' ⟨O', Z', e', s2, l2, g2⟩
    rw [List.drop_length] at g2
    exact k1.nx e' g2 O' Z' σ' H' s2 l2
/-- while, by a word and a measure -/
def rWhile (rt : RT1) (rb : RS1) : RS1 := fun env E => ∃ W : Nat → Ev → Prop, (∃ m, W m env) ∧ ∀ m e, W m e → rt e fun b e1 => if b = true then rb e1 { E with nx := fun e2 => ∃ m', m' < m ∧ W m' e2, ct := fun e2 => ∃ m', m' < m ∧ W m' e2, bk := E.nx } else E.nx e1
theorem rs_while {body : List Stmt} {rb : RS1} (hp : PassesOwn (model X.prog X.w) X.A X.env X.xe) (hc : RT X c rt) (hb : RSs X body rb) : RS X (.While c body [] pos) (rWhile rt rb) := .of (ps_while hp hc.h hb.h) fun D σ H ⟨P, O, Z, env, E, l, ⟨W, ⟨m0, w0⟩, turn⟩, k⟩ => by
  refine ⟨fun m σ' H' => ∃ O' Z' e', Stq O Z H O' Z' H' ∧ Rl X.ct P O' Z' e' σ' H' ∧ W m e', ⟨m0, O, Z, env, .refl, l, w0⟩, ?_⟩
  rintro m σ1 H1 ⟨O1, Z1, e1, s1, l1, w1⟩
  refine ⟨P, O1, Z1, e1, _, l1, turn m e1 w1, fun b e2 w2 Z2 H2 s2 l2 => ?_⟩
  have s12 : Stq O Z H O1 Z2 H2 := s1.trans s2.q
  cases b with
  | true =>
    rw [if_pos rfl] at w2
    show ∃ N : L2.St → Hp → Prop, _
    refine ⟨fun σ' H' => ∃ m', m' < m ∧ ∃ O' Z' e', Stq O Z H O' Z' H' ∧ Rl X.ct P O' Z' e' σ' H' ∧ W m' e', fun σ' H' q => q, P, O1, Z2, e2, _, l2, w2, ?_⟩
    exact ⟨fun e ⟨m', q1, q2⟩ O4 Z4 σ4 H4 s4 l5 => ⟨m', q1, O4, Z4, e, s12.trans s4, l5, q2⟩, (k.later s12).rt, fun e q O4 Z4 σ4 H4 s4 l5 => (k.later s12).nx e q O4 Z4 σ4 H4 s4 l5, fun e ⟨m', q1, q2⟩ O4 Z4 σ4 H4 s4 l5 => ⟨m', q1, O4, Z4, e, s12.trans s4, l5, q2⟩⟩
  | false =>
    rw [if_neg Bool.false_ne_true] at w2
    show D.nx _ _
    exact k.nx e2 w2 O1 Z2 σ1 H2 s12 l2
end

/-! ### a def -/
def stE (N : List Str) (args : List PV) : Ev := args.map .val ++ List.replicate (N.length - args.length) .emp
theorem rl_start {K : Ct} {P : Addr → Prop} {Z : List Rng} {H : Hp} {N : List Str} {vs : List V} {args : List PV} (p : ∀ a, P a → H a ≠ none) (g : RngAll P Z H) (h : RpVs K (UU P [] Z) Z H vs args) : Rl K P [] Z (stE N args) (start N vs) H := by
  have hl : vs.length = args.length := Paired.length h
  have get : ∀ {vs : List V} {args : List PV}, RpVs K (UU P [] Z) Z H vs args → ∀ (i : Nat) (v : PV), args[i]? = some v → ∃ x, vs[i]? = some x ∧ RpV K (UU P [] Z) Z H x v := by
    intro vs args h
    induction h with
    | nil => intro i v e; simp at e
    | cons r t ih =>
      intro i v e
      cases i with
      | zero =>
        simp at e
        subst e
        exact ⟨_, rfl, r⟩
      | succ i => simpa using ih i v (by simpa using e)
  have nb : ∀ (i : Nat) (s : Slot), (stE N args)[i]? = some s → s ≠ .emp → ∃ v, s = .val v ∧ args[i]? = some v := fun i s e n => by
    unfold stE at e
    by_cases hi : i < args.length
    · rw [List.getElem?_append_left (by simpa using hi), List.getElem?_map] at e
      obtain ⟨v, e1, rfl⟩ := Option.map_eq_some_iff.mp e
      exact ⟨v, rfl, e1⟩
    · rw [List.getElem?_append_right (by simpa using hi)] at e
      have := List.mem_of_getElem? e
      exact absurd (List.eq_of_mem_replicate this) n
  refine ⟨by simp [stE, L2.start, hl], fun i v e => ?_, fun i d e => ?_, fun i j d e a h1 _ _ _ => ?_, (by simp), p, g⟩
  · obtain ⟨v', e1, e2⟩ := nb i _ e (by simp)
    cases e1
    obtain ⟨x, h1, h2⟩ := get h i v e2
    refine ⟨x, ?_, h2⟩
    unfold L2.start
    rw [List.getElem?_append_left (by simpa using (List.getElem?_eq_some_iff.mp h1).1), List.getElem?_map, h1]
    rfl
  · obtain ⟨v', e1, _⟩ := nb i _ e (by simp)
    cases e1
  · obtain ⟨v', e1, _⟩ := nb i _ h1 (by simp)
    cases e1
/-- THE RULE for a def over data: its body's derivation, and that its contract asks what the body wants -/
theorem okR {P : Program} {w : World} {K : PySem.W.Frag} {mg : Str → Option Value} {base : Heap} {x qual : Str} {params : Arguments} {body : List Stmt} {scope : Scope} {f : Addr} {fd : FuncData} {N ps : List Str} {k : Nat} {C : Spec} (F : FunD K x qual params body scope [] [] f fd) (S : FnScope N ps scope)
    (r : RS1) (hb : ∀ (cdv : Value) (A : Around) (outer : List PySem.Env) (s : Shared) (H : Hp) (E : XK), Room k (A.deeper (envOfC qual scope s.heap.objs.size f cdv)) → RSs (cxOf CX0 P w K mg base N qual scope f cdv A outer s H E).nox body r)
    (sat : ∀ args q, args.length = ps.length → C args q → r (stE N args) { nx := fun _ => q (.d .none), rt := q }) : FnOk P w K mg base CX0 (k + 1) f fd ps (spR ⟨K, P, w⟩ ps.length C) := by
  refine F.ok S (fun vs H Q E h => by obtain ⟨_, _, _, _, h, _⟩ := h; exact h) fun cdv A outer s H vs Q E hr h => ?_
  obtain ⟨Pr, Z, args, q, hn, hp, g, ra, hc, hk⟩ := h
  refine ⟨tRS ⟨K, P, w⟩ r, (?_ : PSs _ body _), Pr, [], Z, stE N args, _, rl_start hp g ra, sat args q ((Paired.length ra).symm.trans hn) hc, ?_⟩
  · exact PSs.nox (hb cdv A outer s H E hr).h
  · exact ⟨fun e q O' Z' σ' H' s l => hk _ q Z' H' .non s.s l.rng .non, fun v q Z' H' x s g r => hk v q Z' H' x s g r, fun e q => q.elim, fun e q => q.elim⟩
end R
/-! The pure layer, part 7: dicts: what stands there, [] , in, len. -/
namespace R
open PySem PySem.Spec PyProof.Rows L2
section
variable {X : Cx} {pins : List (Addr × Obj)} {σ : L2.St} {H : Hp} {s : Shared} {U : Addr → Prop}
mutual
/-- data that is a key is one in the model's heap -/
theorem Rp.nested (I : Inv X pins σ H s) : ∀ (d : PyData) (v : V) (u : Value) (k : NestedKey), Rp X.ct U H v d → RelV v u → nk d = some k → NestedIs s.heap k u
  | .none, _, _, k, h, r, e => by
    cases h
    cases r
    cases e
    exact .none
  | .bool b, _, _, k, h, r, e => by cases e
  | .int i, _, _, k, h, r, e => by
    cases h
    obtain ⟨t, rfl⟩ := r
    cases e
    exact .int i t
  | .str x, _, _, k, h, r, e => by
    cases h
    obtain ⟨t, rfl⟩ := r
    cases e
    exact .text x t
  | .list ds, _, _, k, h, r, e => by cases e
  | .dict ds, _, _, k, h, r, e => by cases e
  | .tuple ds, _, _, k, h, r, e => by
    cases h with
    | tup h l q =>
      cases r
      obtain ⟨its, rv, ⟨o, ho, hc, n, hd⟩, _⟩ := I.tuple (h.elim (fun x => .inl x.2) .inr)
      unfold nk at e
      obtain ⟨ks, e1, rfl⟩ := Option.map_eq_some_iff.mp e
      exact .tup ho hc hd (by simpa using RpAll.nested I ds _ its ks q rv e1)
theorem RpAll.nested (I : Inv X pins σ H s) : ∀ (ds : List PyData) (vs : List V) (us : List Value) (ks : List NestedKey), RpAll X.ct U H vs ds → Vals vs us → nkAll ds = some ks → NestedAll s.heap ks us
  | [], _, _, ks, h, r, e => by
    cases h
    cases r
    cases e
    exact .nil
  | d :: ds, _, _, ks, h, r, e => by
    cases h with
    | cons h1 h2 =>
      cases r with
      | cons r1 r2 =>
        unfold nkAll at e
        split at e
        · rename_i k ks' e1 e2
          cases e
          exact .cons (Rp.nested I d _ _ k h1 r1 e1) (RpAll.nested I ds _ _ ks' h2 r2 e2)
        · cases e
end
/-- the nested dict at a -/
theorem Inv.nd (I : Inv X pins σ H s) {a : Addr} {xs : List (NestedKey × Addr × V)} {ds : List (PyData × PyData)} (h : H a = some (ndHO X.ct a xs)) (r : RpNk X.ct U H xs ds) :
    ∃ vs : List (NestedKey × Addr × Value), Paired (fun x y => x.1 = y.1 ∧ x.2.1 = y.2.1 ∧ RelV x.2.2 y.2.2) xs vs ∧ (a == sysModules) = false ∧ s.heap.DictOfH (nestedKind X.prog X.w) a vs := by
  obtain ⟨⟨vs, p, e, o, es, ep, h1, h2, h3, h4, h5⟩, _, _⟩ := I.hok a _ h
  refine ⟨vs, p, e, o, es, ep, h1, h2, h3, h4, ?_, h5⟩
  have go : ∀ (xs : List (NestedKey × Addr × V)) (vs : List (NestedKey × Addr × Value)) (ds : List (PyData × PyData)), Paired (fun x y => x.1 = y.1 ∧ x.2.1 = y.2.1 ∧ RelV x.2.2 y.2.2) xs vs → RpNk X.ct U H xs ds → ∀ y ∈ vs, (nestedKind X.prog X.w).is s.heap y.1 y.2.1 := by
    intro xs
    induction xs with
    | nil =>
      intro vs ds p r y hy
      cases p
      cases hy
    | cons x xs ih =>
      intro vs ds p r y hy
      cases p with
      | cons p1 p2 =>
        cases r with
        | cons q1 q2 q3 q4 q5 =>
          rcases List.mem_cons.mp hy with rfl | hy
          · obtain ⟨e1, e2, e3⟩ := p1
            simp only at e1 e2
            exact ⟨by rw [← e1, ← e2]; exact Rp.nested I _ _ _ _ q1 rfl q2, by rw [← e1]; exact q3⟩
          · exact ih _ _ p2 q5 y hy
  exact go xs vs ds p r
end
/-! ### what a dict holds, by its keys -/
/-- the keys' likeness -/
def keyEq (a b : PyData) : Bool := match nk a, nk b with
  | some x, some y => decide (x = y)
  | _, _ => false
def dget (ds : List (PyData × PyData)) (k : PyData) : Option PyData := (ds.find? fun p => keyEq p.1 k).map (·.2)
/-- a key of the one sort or the other -/
inductive KeyS : PyData → Prop
  | int (i : Int) : KeyS (.int i)
  | str (x : Str) : KeyS (.str x)
def simpleK : PyData → Bool
  | .int _ => true
  | .str _ => true
  | _ => false
def tupK (d : PyData) : Bool := match d with
  | .tuple _ => (match nk d with
    | some k => decide (k.depth ≤ 8)
    | none => false)
  | _ => false
/-- a key may be asked of a dict: both simple, or both tuples; of an empty one any -/
def keyOk (ds : List (PyData × PyData)) (k : PyData) : Bool := (simpleK k && ds.all fun p => simpleK p.1) || (tupK k && ds.all fun p => tupK p.1)
section
variable {K : Ct} {U : Addr → Prop} {H : Hp}
theorem keyEq_kD (a b : Key) : keyEq (kD a) (kD b) = decide (a = b) := by
  cases a <;> cases b <;> simp [keyEq, kD, nk]
theorem dget_kv : ∀ {kvs : List (Key × V)} {ds : List (PyData × PyData)}, RpKv K U H kvs ds → ∀ k : Key, (match valV kvs k, dget ds (kD k) with
    | some v, some d => Rp K U H v d
    | none, none => True
    | _, _ => False)
  | _, _, .nil, k => by simp [valV, dget]
  | _, _, .cons (k := j) (v := v) (kvs := kvs) (d := d) (ds := ds) r t, k => by
    by_cases e : j = k
    · subst e
      rw [valV_pos (p := (j, v)) rfl]
      simp [dget, List.find?_cons, keyEq_kD, r]
    · rw [valV_neg (p := (j, v)) e]
      have : dget ((kD j, d) :: ds) (kD k) = dget ds (kD k) := by simp [dget, List.find?_cons, keyEq_kD, e]
      rw [this]
      exact dget_kv t k
theorem dget_nk {e : PyData} {k : NestedKey} (he : nk e = some k) : ∀ {xs : List (NestedKey × Addr × V)} {vs : List (NestedKey × Addr × Value)} {ds : List (PyData × PyData)}, RpNk K U H xs ds → Paired (fun x y => x.1 = y.1 ∧ x.2.1 = y.2.1 ∧ RelV x.2.2 y.2.2) xs vs → (match atKey vs k, dget ds e with
    | some p, some d => ∃ x, RelV x p.2 ∧ Rp K U H x d
    | none, none => True
    | _, _ => False)
  | _, _, _, .nil, .nil => by simp [atKey, dget]
  | _, _, _, .cons (k := j) (b := b) (v := v) (xs := xs) (e := e') (d := d) (ds := ds) q1 q2 q3 q4 q5, .cons (b := y) p1 p2 => by
    obtain ⟨e1, e2, e3⟩ := p1
    simp only at e1 e2 e3
    by_cases c : j = k
    · subst c
      have h1 : dget ((e', d) :: ds) e = some d := by simp [dget, List.find?_cons, keyEq, q2, he]
      have h2 : ∀ zs : List (NestedKey × Addr × Value), atKey (y :: zs) j = some y.2 := fun zs => by simp [atKey, List.find?_cons, ← e1]
      rw [h1, h2]
      exact ⟨v, e3, q4⟩
    · have h1 : dget ((e', d) :: ds) e = dget ds e := by simp [dget, List.find?_cons, keyEq, q2, he, c]
      have h2 : ∀ zs : List (NestedKey × Addr × Value), atKey (y :: zs) k = atKey zs k := fun zs => by simp [atKey, List.find?_cons, ← e1, c]
      rw [h1, h2]
      exact dget_nk he q5 p2
end
theorem nkAll_len : ∀ {ds : List PyData} {ks : List NestedKey}, nkAll ds = some ks → ks.length = ds.length
  | [], _, e => by cases e; rfl
  | d :: ds, _, e => by
    unfold nkAll at e
    split at e
    · rename_i k ks' e1 e2
      cases e
      simp [nkAll_len e2]
    · cases e
theorem tupK_nk {d : PyData} (h : tupK d = true) : ∃ k, nk d = some k ∧ k.depth ≤ 8 := by
  unfold tupK at h
  split at h
  · split at h
    · rename_i k e
      exact ⟨k, e, of_decide_eq_true h⟩
    · cases h
  · cases h
theorem tupK_ref {K : Ct} {U : Addr → Prop} {H : Hp} {d : PyData} {v : V} (h : tupK d = true) (r : Rp K U H v d) : ∃ b, v = .ref b := by
  cases r with
  | tup _ _ _ => exact ⟨_, rfl⟩
  | _ => simp [tupK] at h
theorem simpleK_kD {d : PyData} (h : simpleK d = true) : ∃ k, d = kD k := by
  unfold simpleK at h
  split at h
  · exact ⟨.inl _, rfl⟩
  · exact ⟨.inr _, rfl⟩
  · cases h
theorem simpleK_V {K : Ct} {U : Addr → Prop} {H : Hp} {k : Key} {v : V} (r : Rp K U H v (kD k)) : v = kV k := by
  cases k <;> (cases r; rfl)
/-- a dict of the layer: by keys of the one sort or the other -/
def DctAt (K : Ct) (U : Addr → Prop) (H : Hp) (a : Addr) (ds : List (PyData × PyData)) : Prop :=
  (∃ kvs, H a = some (.dK kvs) ∧ kvs.length ≤ sizeLine ∧ RpKv K U H kvs ds) ∨ ∃ xs, xs ≠ [] ∧ H a = some (ndHO K a xs) ∧ xs.length ≤ sizeLine ∧ RpNk K U H xs ds
theorem nd_not_simple {K : Ct} {U : Addr → Prop} {H : Hp} {xs : List (NestedKey × Addr × V)} {ds : List (PyData × PyData)} (n : xs ≠ []) (r : RpNk K U H xs ds) : ds.all (fun p => simpleK p.1) = false := by
  cases r with
  | nil => exact absurd rfl n
  | cons q1 q2 q3 q4 q5 =>
    have : ∀ e : PyData, simpleK e = true → ∀ b, ¬ Rp K U H (.ref b) e := fun e h b r => by
      obtain ⟨k, rfl⟩ := simpleK_kD h
      have := simpleK_V r
      cases k <;> cases this
    simp only [List.all_cons, Bool.and_eq_false_iff]
    exact .inl (Classical.byContradiction fun w => this _ (by simpa using w) _ q1)
theorem kv_not_tup {K : Ct} {U : Addr → Prop} {H : Hp} {kvs : List (Key × V)} {ds : List (PyData × PyData)} (n : kvs ≠ []) (r : RpKv K U H kvs ds) : ds.all (fun p => tupK p.1) = false := by
  cases r with
  | nil => exact absurd rfl n
  | cons r t =>
    rename_i k v kvs d ds
    cases k <;> simp [kD, tupK]
theorem DctAt.simple {K : Ct} {U : Addr → Prop} {H : Hp} {a : Addr} {ds : List (PyData × PyData)} (h : DctAt K U H a ds) (hs : ds.all (fun p => simpleK p.1) = true) : ∃ kvs, H a = some (.dK kvs) ∧ kvs.length ≤ sizeLine ∧ RpKv K U H kvs ds := by
  rcases h with h | ⟨xs, n, h1, h2, h3⟩
  · exact h
  · rw [nd_not_simple n h3] at hs; cases hs
theorem DctAt.tup {X : Cx} {pins : List (Addr × Obj)} {σ : L2.St} {H : Hp} {s : Shared} {U : Addr → Prop} {a : Addr} {ds : List (PyData × PyData)} (I : Inv X pins σ H s) (h : DctAt X.ct U H a ds) (hs : ds.all (fun p => tupK p.1) = true) :
    ∃ (xs : List (NestedKey × Addr × V)) (vs : List (NestedKey × Addr × Value)), xs.length ≤ sizeLine ∧ RpNk X.ct U H xs ds ∧ Paired (fun x y => x.1 = y.1 ∧ x.2.1 = y.2.1 ∧ RelV x.2.2 y.2.2) xs vs ∧ (a == sysModules) = false ∧ s.heap.DictOfH (nestedKind X.prog X.w) a vs := by
  rcases h with ⟨kvs, h1, h2, h3⟩ | ⟨xs, n, h1, h2, h3⟩
  · by_cases n : kvs = []
    · subst n
      cases h3
      obtain ⟨z, e, vs, rel, o, es, ep, g1, g2, g3, g4, g5⟩ := dk_of I.hok h1
      cases rel
      have ee : es.toList = [] := by
        have g := g5.1
        generalize es.toList = L at g
        cases g
        rfl
      exact ⟨[], [], by simp, .nil, .nil, e, o, es, ep, g1, g2, g3, by rw [ee]; rfl, by simp, by simp⟩
    · rw [kv_not_tup n h3] at hs; cases hs
  · obtain ⟨vs, p, e, d⟩ := Inv.nd I h1 h3
    exact ⟨xs, vs, h2, h3, p, e, d⟩
theorem RpB.dctAt {K : Ct} {P : Addr → Prop} {O : List Addr} {Z : List Rng} {env : Ev} {σ : L2.St} {H : Hp} {x : V} {ds : List (PyData × PyData)} (h : RpB K (UU P O Z) Z env σ H x (.d (.dict ds))) (l : Rl K P O Z env σ H) : ∃ a, x = .ref a ∧ DctAt K (UU P O Z) H a ds := h.dct l
/-- y in d, d[y] by what the dict tells -/
structure GotD (X : Cx) (U : Addr → Prop) (H : Hp) (s : Shared) (a : Addr) (y : V) (u : Value) (o : Option PyData) : Prop where
  isIn : ∀ {Q : Value → Shared → Prop} {E : Value → Shared → Prop}, (∀ t, Q (.bool o.isSome) { s with toks := t }) → wpAny (model X.prog X.w) X.A (compareOp .In u (.ref a)) Q E s
  notIn : ∀ {Q : Value → Shared → Prop} {E : Value → Shared → Prop}, (∀ t, Q (.bool (!o.isSome)) { s with toks := t }) → wpAny (model X.prog X.w) X.A (compareOp .NotIn u (.ref a)) Q E s
  got : ∀ {d : PyData}, o = some d → ∃ v w', RelV v w' ∧ Rp X.ct U H v d ∧ ∀ {Q : Value → Shared → Prop} {E : Value → Shared → Prop}, (∀ t, Q w' { s with toks := t }) → wpAny (model X.prog X.w) X.A (getItem (.ref a) u) Q E s
theorem got_of {X : Cx} {pins : List (Addr × Obj)} {σ : L2.St} {H : Hp} {s : Shared} {U : Addr → Prop} {a : Addr} {ds : List (PyData × PyData)} {k : PyData} {y : V} {u : Value} (hu : X.A.units + 64 < cLine) (I : Inv X pins σ H s) (h : DctAt X.ct U H a ds) (ok : keyOk ds k = true) (ry : Rp X.ct U H y k) (ru : RelV y u) : GotD X U H s a y u (dget ds k) := by
  unfold keyOk at ok
  rw [Bool.or_eq_true, Bool.and_eq_true, Bool.and_eq_true] at ok
  rcases ok with ⟨k1, k2⟩ | ⟨k1, k2⟩
  · obtain ⟨kvs, h1, h2, h3⟩ := h.simple k2
    obtain ⟨kk, rfl⟩ := simpleK_kD k1
    obtain rfl := simpleK_V ry
    obtain ⟨z, hd, vs, rel, dd⟩ := dk_of I.hok h1
    have g := dget_kv h3 kk
    have e : (valueAt vs kk).isSome = (dget ds (kD kk)).isSome := by
      rw [← (rel.val kk).isSome_eq]
      split at g
      · rename_i e1 e2; rw [e1, e2]; rfl
      · rename_i e1 e2; rw [e1, e2]; rfl
      · exact g.elim
    refine ⟨fun q => wpAny_in_of (kV_is ru) hd dd.mapOf (by rw [e]; exact q _), fun q => wpAny_notIn_of (kV_is ru) hd dd.mapOf (by rw [e]; exact q _), fun {d} ed => ?_⟩
    rw [ed] at g
    cases ev : valV kvs kk with
    | none => rw [ev] at g; exact g.elim
    | some v =>
      rw [ev] at g
      obtain ⟨w', hw, rw'⟩ := RelO.some_of (v := v) (o := valueAt vs kk) (by rw [← ev]; exact rel.val kk)
      exact ⟨v, w', rw', g, fun q => wpAny_getItem_of (kV_is ru) dd.mapOf hw (q _)⟩
  · obtain ⟨xs, vs, z, r, p, hd, dd⟩ := h.tup I k2
    obtain ⟨b, rfl⟩ := tupK_ref k1 ry
    obtain ⟨kk, e1, e2⟩ := tupK_nk k1
    cases ru
    have hk : (nestedKind X.prog X.w).is s.heap kk b := ⟨Rp.nested I _ _ _ _ ry rfl e1, e2⟩
    have g := dget_nk e1 r p
    have e : (atKey vs kk).isSome = (dget ds k).isSome := by
      split at g
      · rename_i e1 e2; rw [e1, e2]; rfl
      · rename_i e1 e2; rw [e1, e2]; rfl
      · exact g.elim
    have hr : (nestedKind X.prog X.w).room X.A.in1 := by
      show X.A.units + 1 + 8 < cLine
      omega
    refine ⟨fun q => wpAny_in_heap hr hk hd dd (by rw [e]; exact q _), fun q => wpAny_notIn_heap hr hk hd dd (by rw [e]; exact q _), fun {d} ed => ?_⟩
    rw [ed] at g
    cases ev : atKey vs kk with
    | none => rw [ev] at g; exact g.elim
    | some w' =>
      rw [ev] at g
      obtain ⟨v, h1, h2⟩ := g
      exact ⟨v, _, h1, h2, fun q => wpAny_getItem_heap hr hk dd ev (q _)⟩
end R
/-! The pure layer, part 8a: tuple(..) of whatever can be collected. -/
namespace R
open PySem PySem.Spec PyProof.Rows L2
section
variable {prog : Program} {w : World} {A : Around} {E : Value → Shared → Prop} {s : Shared}
theorem collect_str {x : Str} {t : Tok} {Q : List Value → Shared → Prop} (hh : A.handled = none) (hlen : x.cps.size ≤ sizeLine)
    (hQ : ∀ (h' : Heap) (tk : Nat) (acc : Array Value), (∀ b o, s.heap.get? b = some o → h'.get? b = some o) → ItemsOf (SignAt x) acc x.cps.size → Q acc.toList { s with heap := h', toks := tk }) :
    wpAny (model prog w) A (collect (.str x t)) Q E s := by
  unfold collect
  refine wpAny_bind (wpAny_runValue (codeAny_builtin F.entry_proto_collect ?_))
  rw [Around.under_plainId F.plain_proto_collect _]
  show wpAny _ A.in1 (newList [] >>= fun l => again (.builtin "list.__iadd__" ⟨[l, .str x t], []⟩)) _ _ s
  refine wpAny_bind (wpAny_newObj_type ?_)
  refine wpAny_pure ⟨plainId_quiet F.plain_list_iadd _, codeAny_builtin F.entry_list_iadd ?_⟩
  rw [Around.under_plainId F.plain_list_iadd _]
  show wpAny _ A.in1 (Builtin.List.listExtendWith (.ref s.heap.objs.size) (.str x t) (.ref s.heap.objs.size)) _ _ _
  have hS : (s.heap.push { cls := .type "list", data := .seq ([] : List Value).toArray }).get? s.heap.objs.size = some { cls := .type "list", data := .seq #[] 0 } := Heap.get?_push_size _ rfl
  refine wpAny_mono (wpAny_extend_str (A := A) (R := fun rr s' => rr = .ok (.ret (.ref s.heap.objs.size)) ∧ ∃ (h' : Heap) (tk : Nat) (acc : Array Value) (c' : Nat), s' = { s with heap := h', toks := tk } ∧
      (∀ b o, s.heap.get? b = some o → h'.get? b = some o) ∧ h'.get? s.heap.objs.size = some { cls := .type "list", dict := none, data := .seq acc c', slots := #[] } ∧ ItemsOf (SignAt x) acc x.cps.size)
    (s := { s with heap := s.heap.push { cls := .type "list", data := .seq ([] : List Value).toArray } }) hh x t _ _ 0 hS
    (fun h' tk acc c' hk e hi => ⟨rfl, h', tk, acc, c', rfl, fun b o q => hk b o (Nat.ne_of_lt (Heap.lt_size q)) (Heap.get?_push_of_some _ q), e, hi⟩) hlen) (fun fin s' h => ?_) (fun e s' h => ?_)
  · cases fin with
    | done f =>
      obtain ⟨e, h', tk, acc, c', rfl, hk, hS', hi⟩ := h
      cases e
      show wpAny _ A (load s.heap.objs.size >>= _) _ _ _
      exact wpAny_bind (wpAny_load hS' (wpAny_pure (hQ h' tk acc hk hi)))
    | again c' =>
      refine ⟨h.1, codeAny_mono h.2 fun rr s'' hr' => ?_⟩
      obtain ⟨rfl, h', tk, acc, c', rfl, hk, hS', hi⟩ := hr'
      show wpAny _ A (load s.heap.objs.size >>= _) _ _ _
      exact wpAny_bind (wpAny_load hS' (wpAny_pure (hQ h' tk acc hk hi)))
  · exact absurd h.1 (by simp)
/-- how a value is collected -/
def Coll (prog : Program) (w : World) (A : Around) (s : Shared) (u : Value) (n : Nat) (Pv : Nat → Value → Prop) : Prop :=
  ∀ (E : Value → Shared → Prop) (Q : List Value → Shared → Prop), (∀ (h' : Heap) (tk : Nat) (acc : Array Value), (∀ b o, s.heap.get? b = some o → h'.get? b = some o) → ItemsOf Pv acc n → Q acc.toList { s with heap := h', toks := tk }) → wpAny (model prog w) A (collect u) Q E s
theorem code_tuple_ref {Q₁ : Value → Shared → Prop} {r : Addr} {T : String} {n : Nat} {Pv : Nat → Value → Prop} (hT : s.TypeIs (.ref r) T) (hb1 : (Value.type T == Value.type "tuple") = false) (hb2 : (Value.type T == Value.type "list") = false) (hc : Coll prog w A.in1 s (.ref r) n Pv) (hlen : n ≤ sizeLine)
    (h : ∀ (h' : Heap) (tk : Nat) (acc : Array Value), (∀ b o, s.heap.get? b = some o → h'.get? b = some o) → ItemsOf Pv acc n →
      Q₁ (.ref h'.objs.size) { s with heap := h'.push { cls := .type "tuple", data := .seq acc }, toks := tk }) :
    codeAny (model prog w) A (.call (.builtin "tuple.__new__") ⟨[.type "tuple", .ref r], []⟩) (wants Q₁ E) s := by
  refine codeAny_of_tree ?_
  show wpAny _ A.in1 (do checkBuiltinCall "tuple.__new__" ⟨[.type "tuple", .ref r], []⟩; again (.builtin "tuple.__new__" ⟨[.type "tuple", .ref r], []⟩)) _ _ s
  refine wpAny_bind (wpAny_of_eq (F.newCall_tuple_1 _) (wpAny_pure ⟨plainId_quiet F.plain_tuple_new _, codeAny_builtin F.entry_tuple_new ?_⟩))
  rw [Around.under_plainId F.plain_tuple_new _]
  have hsub := sub_tuple_self
  have hinit := init_tuple_lookup
  have hmh := madeHere_tuple
  have hc' : ∀ {E : Value → Shared → Prop} {Q : List Value → Shared → Prop}, (∀ (h' : Heap) (tk : Nat) (acc : Array Value), (∀ b o, s.heap.get? b = some o → h'.get? b = some o) → ItemsOf Pv acc n → Q acc.toList { s with heap := h', toks := tk }) → wpAny (model prog w) A.in1 (collect (.ref r)) Q E s := fun q => hc _ _ q
  wp_walk using wpAny_typeOf hT, hc'
  intro h' tk acc hk hacc
  show wpAny _ _ (Builtin.Tuple.tupleExact acc.toList.toArray >>= fun v => ret v) _ _ _
  unfold Builtin.Tuple.tupleExact
  refine wpAny_bind (wpAny_newObj_type ?_ (by show acc.toList.toArray.size ≤ sizeLine; simp only [Array.toArray_toList]; rw [hacc.1]; exact hlen))
  refine wpAny_pure ?_
  have e : acc.toList.toArray = acc := by simp
  rw [e]
  exact h h' tk acc hk hacc
theorem code_tuple_str {Q₁ : Value → Shared → Prop} {x : Str} {t : Tok} {n : Nat} {Pv : Nat → Value → Prop} (hc : Coll prog w A.in1 s (.str x t) n Pv) (hlen : n ≤ sizeLine)
    (h : ∀ (h' : Heap) (tk : Nat) (acc : Array Value), (∀ b o, s.heap.get? b = some o → h'.get? b = some o) → ItemsOf Pv acc n →
      Q₁ (.ref h'.objs.size) { s with heap := h'.push { cls := .type "tuple", data := .seq acc }, toks := tk }) :
    codeAny (model prog w) A (.call (.builtin "tuple.__new__") ⟨[.type "tuple", .str x t], []⟩) (wants Q₁ E) s := by
  refine codeAny_of_tree ?_
  show wpAny _ A.in1 (do checkBuiltinCall "tuple.__new__" ⟨[.type "tuple", .str x t], []⟩; again (.builtin "tuple.__new__" ⟨[.type "tuple", .str x t], []⟩)) _ _ s
  refine wpAny_bind (wpAny_of_eq (F.newCall_tuple_1 _) (wpAny_pure ⟨plainId_quiet F.plain_tuple_new _, codeAny_builtin F.entry_tuple_new ?_⟩))
  rw [Around.under_plainId F.plain_tuple_new _]
  have hsub := sub_tuple_self
  have hinit := init_tuple_lookup
  have hmh := madeHere_tuple
  have hT : s.TypeIs (.str x t) "str" := rfl
  have hc' : ∀ {E : Value → Shared → Prop} {Q : List Value → Shared → Prop}, (∀ (h' : Heap) (tk : Nat) (acc : Array Value), (∀ b o, s.heap.get? b = some o → h'.get? b = some o) → ItemsOf Pv acc n → Q acc.toList { s with heap := h', toks := tk }) → wpAny (model prog w) A.in1 (collect (.str x t)) Q E s := fun q => hc _ _ q
  wp_walk using wpAny_typeOf hT, hc'
  intro h' tk acc hk hacc
  show wpAny _ _ (Builtin.Tuple.tupleExact acc.toList.toArray >>= fun v => ret v) _ _ _
  unfold Builtin.Tuple.tupleExact
  refine wpAny_bind (wpAny_newObj_type ?_ (by show acc.toList.toArray.size ≤ sizeLine; simp only [Array.toArray_toList]; rw [hacc.1]; exact hlen))
  refine wpAny_pure ?_
  have e : acc.toList.toArray = acc := by simp
  rw [e]
  exact h h' tk acc hk hacc

theorem call_tuple_coll {Q : Value → Shared → Prop} {r : Addr} {T : String} {n : Nat} {Pv : Nat → Value → Prop} (hT : s.TypeIs (.ref r) T) (hb1 : (Value.type T == Value.type "tuple") = false) (hb2 : (Value.type T == Value.type "list") = false) (hc : Coll prog w A.in1.in1 s (.ref r) n Pv) (hlen : n ≤ sizeLine)
    (hQ : ∀ (h' : Heap) (tk : Nat) (acc : Array Value), (∀ b o, s.heap.get? b = some o → h'.get? b = some o) → ItemsOf Pv acc n →
      Q (.ref h'.objs.size) { s with heap := h'.push { cls := .type "tuple", data := .seq acc }, toks := tk }) :
    wpAny (model prog w) A (call (.type "tuple") [.ref r]) Q E s := by
  refine callType_codes (Q₁ := fun obj s₁ => s₁.TypeIs obj "tuple" ∧ Q obj s₁) F.called_tuple (F.typeCall_tuple_1 _) F.entry_object_init
    (code_tuple_ref (A := A.in1) hT hb1 hb2 hc hlen fun h' tk acc hk hacc => ⟨⟨_, Heap.get?_push_size _ rfl, rfl⟩, hQ h' tk acc hk hacc⟩) fun obj s₁ h₁ => ?_
  exact ⟨h₁.1, F.args_object_init_2 obj _, object_init_meets F.called_tuple.init.lookup F.called_tuple.made (by decide) prog w A.in1 _ s₁ ⟨h₁.1, rfl, h₁.2⟩⟩
theorem call_tuple_str {Q : Value → Shared → Prop} {x : Str} {t : Tok} (hh : A.handled = none) (hlen : x.cps.size ≤ sizeLine)
    (hQ : ∀ (h' : Heap) (tk : Nat) (acc : Array Value), (∀ b o, s.heap.get? b = some o → h'.get? b = some o) → ItemsOf (SignAt x) acc x.cps.size →
      Q (.ref h'.objs.size) { s with heap := h'.push { cls := .type "tuple", data := .seq acc }, toks := tk }) :
    wpAny (model prog w) A (call (.type "tuple") [.str x t]) Q E s := by
  refine callType_codes (Q₁ := fun obj s₁ => s₁.TypeIs obj "tuple" ∧ Q obj s₁) F.called_tuple (F.typeCall_tuple_1 _) F.entry_object_init
    (code_tuple_str (A := A.in1) (fun E Q h => collect_str (A := A.in1.in1) hh hlen h) hlen fun h' tk acc hk hacc => ⟨⟨_, Heap.get?_push_size _ rfl, rfl⟩, hQ h' tk acc hk hacc⟩) fun obj s₁ h₁ => ?_
  exact ⟨h₁.1, F.args_object_init_2 obj _, object_init_meets F.called_tuple.init.lookup F.called_tuple.made (by decide) prog w A.in1 _ s₁ ⟨h₁.1, rfl, h₁.2⟩⟩
end
end R
/-! The pure layer, part 8: in, [], len, tuple(..), list(..), the methods of owned lists. -/
namespace R
open PySem PySem.Spec PyProof.Rows L2
section
variable {X : Cx} {e a b o : Expr} {es : List Expr} {r ra rb : RE1} {rs : RA1} {pos apos : Pos}
/-! ### in, not in -/
theorem RpB.keyRp {K : Ct} {P : Addr → Prop} {O : List Addr} {Z : List Rng} {env : Ev} {σ : L2.St} {H : Hp} {x : V} {k : PyData} {ds : List (PyData × PyData)} (l : Rl K P O Z env σ H) (px : RpB K (UU P O Z) Z env σ H x (.d k)) (ok : keyOk ds k = true) : Rp K (UU P O Z) H x k := by
  rcases px with px | ⟨i, a', d', e1, e2, h1, h2⟩
  · exact px
  · cases e2
    unfold keyOk at ok
    rw [Bool.or_eq_true, Bool.and_eq_true, Bool.and_eq_true] at ok
    obtain ⟨_, _, _, w⟩ := l.own i _ h2
    rcases ok with ⟨k1, _⟩ | ⟨k1, _⟩
    · obtain ⟨kk, rfl⟩ := simpleK_kD k1
      cases kk <;> exact w.elim
    · unfold tupK at k1
      split at k1
      · exact w.elim
      · cases k1
def sInG (neg : Bool) : S2
  | .d x, .d (.list ds), q => (SeqAt.shaped x = true ∧ SeqAt.shaped (.list ds) = true) ∧ q (.d (.bool (neg != ds.any fun z => PyData.eqv z x)))
  | .d x, .d (.tuple ds), q => (SeqAt.shaped x = true ∧ SeqAt.shaped (.tuple ds) = true) ∧ q (.d (.bool (neg != ds.any fun z => PyData.eqv z x)))
  | .d (.str ⟨⟨[c]⟩⟩), .d (.str z), q => q (.d (.bool (neg != decide (c ∈ z.cps.toList))))
  | .d k, .d (.dict ds), q => keyOk ds k = true ∧ q (.d (.bool (neg != (dget ds k).isSome)))
  | _, _, _ => False
def rrIn (X : Cx) (neg : Bool) : R2 := fun x y H Q => (∃ d ds, Dp X.K H x d ∧ Dp X.K H y (.list ds) ∧ SeqAt.shaped d = true ∧ SeqAt.shaped (.list ds) = true ∧ Q (.bl (neg != ds.any fun z => PyData.eqv z d)) H) ∨
  (∃ d ds, Dp X.K H x d ∧ Dp X.K H y (.tuple ds) ∧ SeqAt.shaped d = true ∧ SeqAt.shaped (.tuple ds) = true ∧ Q (.bl (neg != ds.any fun z => PyData.eqv z d)) H) ∨
  (∃ (c : Nat) (z : Str), x = .str ⟨#[c]⟩ ∧ y = .str z ∧ Q (.bl (neg != decide (c ∈ z.cps.toList))) H) ∨
  ∃ a ds k U, y = .ref a ∧ DctAt X.ct U H a ds ∧ keyOk ds k = true ∧ Rp X.ct U H x k ∧ Q (.bl (neg != (dget ds k).isSome)) H
theorem op_inG (hu : X.A.units + 65 < cLine) : OpR X (compareOp .In) (rrIn X false) := by
  intro pins s σ H x y v u Q I rx ry h
  rcases h with ⟨d, ds, hd, he, sd, se, q⟩ | ⟨d, ds, hd, he, sd, se, q⟩ | ⟨c, z, rfl, rfl, q⟩ | ⟨a, ds, k, U, rfl, hd, ok, rk, q⟩
  · exact op_inD hu pins s σ H x y v u Q I rx ry ⟨d, ds, hd, he, sd, se, by simpa using q⟩
  · obtain ⟨as, r1⟩ := Dp.reads I d x v hd rx
    obtain ⟨bs, r2⟩ := Dp.reads I (.tuple ds) y u he ry
    exact SeqAt.in_tuple_reads r2 r1 (SeqAt.canLay_of_shaped se) (SeqAt.canLay_of_shaped sd) (room_in_shaped sd hu) ⟨.bl _, H, I, rfl, by simpa using q⟩
  · exact op_in_sign pins s σ H _ _ v u Q I rx ry ⟨c, z, rfl, rfl, by simpa using q⟩
  · cases ry
    exact (got_of (by omega) I hd ok rk rx).isIn fun t => ⟨.bl _, H, I.tok t, rfl, by simpa using q⟩
theorem op_notInG (hu : X.A.units + 65 < cLine) : OpR X (compareOp .NotIn) (rrIn X true) := by
  intro pins s σ H x y v u Q I rx ry h
  rcases h with ⟨d, ds, hd, he, sd, se, q⟩ | ⟨d, ds, hd, he, sd, se, q⟩ | ⟨c, z, rfl, rfl, q⟩ | ⟨a, ds, k, U, rfl, hd, ok, rk, q⟩
  · exact op_notInD hu pins s σ H x y v u Q I rx ry ⟨d, ds, hd, he, sd, se, by simpa using q⟩
  · obtain ⟨as, r1⟩ := Dp.reads I d x v hd rx
    obtain ⟨bs, r2⟩ := Dp.reads I (.tuple ds) y u he ry
    exact SeqAt.notIn_tuple_reads r2 r1 (SeqAt.canLay_of_shaped se) (SeqAt.canLay_of_shaped sd) (room_in_shaped sd hu) ⟨.bl _, H, I, rfl, by simpa using q⟩
  · exact op_notIn_sign pins s σ H _ _ v u Q I rx ry ⟨c, z, rfl, rfl, by simpa using q⟩
  · cases ry
    exact (got_of (by omega) I hd ok rk rx).notIn fun t => ⟨.bl _, H, I.tok t, rfl, by simpa using q⟩
theorem br_inG {neg : Bool} : Br2 X (rrIn X neg) (sInG neg) := by
  intro P O Z env σ H x y v w qz Q l px py hs k
  unfold sInG at hs
  split at hs
  · obtain ⟨⟨h1, h2⟩, hs⟩ := hs
    exact .inl ⟨_, _, px.dp l (SeqAt.canLay_of_shaped h1), py.dp l (SeqAt.canLay_of_shaped h2), h1, h2, k _ hs Z H _ .refl l (.bl _)⟩
  · obtain ⟨⟨h1, h2⟩, hs⟩ := hs
    exact .inr (.inl ⟨_, _, px.dp l (SeqAt.canLay_of_shaped h1), py.dp l (SeqAt.canLay_of_shaped h2), h1, h2, k _ hs Z H _ .refl l (.bl _)⟩)
  · exact .inr (.inr (.inl ⟨_, _, px.str l, py.str l, k _ hs Z H _ .refl l (.bl _)⟩))
  · obtain ⟨a, rfl, hd⟩ := py.dctAt l
    have rk := px.keyRp l hs.1
    exact .inr (.inr (.inr ⟨a, _, _, _, rfl, hd, hs.1, rk, k _ hs.2 Z H _ .refl l (.bl _)⟩))
  · exact hs.elim
def sIn : S2 := sInG false
def sNotIn : S2 := sInG true
def cIn (hu : X.A.units + 65 < cLine) : Cmp2 X .In sIn := ⟨_, op_inG hu, br_inG⟩
def cNotIn (hu : X.A.units + 65 < cLine) : Cmp2 X .NotIn sNotIn := ⟨_, op_notInG hu, br_inG⟩

/-! ### subscripts, dicts too -/
def sIdx : S2
  | .d (.list xs), .d (.int i), q => ∃ d, atI xs i = some d ∧ q (.d d)
  | .d (.tuple xs), .d (.int i), q => ∃ d, atI xs i = some d ∧ q (.d d)
  | .d (.str x), .d (.int i), q => x.length ≤ sizeLine ∧ ∃ c, atI x.cps.toList i = some c ∧ q (.d (.str ⟨#[c]⟩))
  | .d (.dict ds), .d k, q => keyOk ds k = true ∧ ∃ d, dget ds k = some d ∧ q (.d d)
  | _, _, _ => False
def rrIdx (X : Cx) : R2 := fun x y H Q => rIx X.K x y H Q ∨ ∃ a ds k U d, x = .ref a ∧ DctAt X.ct U H a ds ∧ keyOk ds k = true ∧ Rp X.ct U H y k ∧ dget ds k = some d ∧ ∀ v, Rp X.ct U H v d → Q v H
theorem DctAt.typeIs {pins : List (Addr × Obj)} {σ : L2.St} {H : Hp} {s : Shared} {U : Addr → Prop} {a : Addr} {ds : List (PyData × PyData)} (I : Inv X pins σ H s) (h : DctAt X.ct U H a ds) : s.TypeIs (.ref a) "dict" := by
  rcases h with ⟨kvs, h1, h2, h3⟩ | ⟨xs, n, h1, h2, h3⟩
  · obtain ⟨z, e, vs, rel, dd⟩ := dk_of I.hok h1
    exact dd.typeIs
  · obtain ⟨vs, p, e, dd⟩ := Inv.nd I h1 h3
    exact dd.typeIs
theorem ix_dict (hu : X.A.units + 64 < cLine) : IxR X (fun x y H Q => ∃ a ds k U d, x = .ref a ∧ DctAt X.ct U H a ds ∧ keyOk ds k = true ∧ Rp X.ct U H y k ∧ dget ds k = some d ∧ ∀ v, Rp X.ct U H v d → Q v H) := by
  intro value slice pins s σ H x y v u Q I rx ry h hs
  obtain ⟨a, ds, k, U, d, rfl, hd, ok, rk, e, q⟩ := h
  cases rx
  obtain ⟨z, w', r1, r2, go⟩ := (got_of hu I hd ok rk ry).got e
  exact subscriptTail_builtinR (x := w') (hd.typeIs I) PySem.F.slot_dict_getitem.lookup (go (Q := fun r s' => r = w' ∧ EP X pins σ Q r s') fun t => ⟨rfl, z, H, I.tok t, r1, q z r2⟩) hs
theorem br_idx : Br2 X (rrIdx X) sIdx := by
  intro P O Z env σ H x y v w qz Q l px py hs k
  unfold sIdx at hs
  split at hs
  · obtain ⟨d, h, hs⟩ := hs
    obtain ⟨a, us, rfl, h1, z1, r1⟩ := px.lst l
    obtain ⟨u, h2, r2⟩ := r1.at h
    exact .inl (.inl ⟨a, us, _, u, rfl, py.int l, .of h1, h2, k _ hs Z H _ .refl l r2⟩)
  · obtain ⟨d, h, hs⟩ := hs
    obtain ⟨a, us, rfl, h1, z1, r1, _⟩ := px.tup l
    obtain ⟨u, h2, r2⟩ := r1.at h
    exact .inl (.inr (.inl ⟨a, us, _, u, rfl, py.int l, h1, h2, k _ hs Z H _ .refl l r2⟩))
  · obtain ⟨hz, c, h, hs⟩ := hs
    exact .inl (.inr (.inr ⟨_, _, c, px.str l, py.int l, hz, h, k _ hs Z H _ .refl l (.str _)⟩))
  · obtain ⟨ok, d, h, hs⟩ := hs
    obtain ⟨a, rfl, hd⟩ := px.dctAt l
    have rk := py.keyRp l ok
    exact .inr ⟨a, _, _, _, d, rfl, hd, ok, rk, h, fun v r => k _ hs Z H v .refl l r⟩
  · exact hs.elim
theorem re_idx (hu : X.A.units + 64 < cLine) (ha : RB X a ra) (hb : RB X b rb) (hs : PlainIx b) : RE X (.Subscript a b pos) (rBin sIdx ra rb) := re_bin (pe_ix (ix_seq.or (ix_dict hu)) ha.h hb.h hs) br_idx

/-! ### len -/
def sLen : SA
  | [.d (.list xs)], q => q (.d (.int xs.length))
  | [.d (.tuple xs)], q => q (.d (.int xs.length))
  | [.d (.str x)], q => x.length ≤ sizeLine ∧ q (.d (.int x.length))
  | [.d (.dict xs)], q => q (.d (.int xs.length))
  | _, _ => False
def rrLen (X : Cx) : List V → Hp → VK → Prop := fun xs H Q => (∃ x n, xs = [x] ∧ LenV X.K x H n ∧ Q (.int n) H) ∨ ∃ a ds U, xs = [.ref a] ∧ DctAt X.ct U H a ds ∧ Q (.int ds.length) H
theorem RpKv.length {K : Ct} {U : Addr → Prop} {H : Hp} : ∀ {ds : List (PyData × PyData)} {vs : List (Key × V)}, RpKv K U H vs ds → vs.length = ds.length
  | [], _, h => by cases h; rfl
  | d :: ds, _, h => by
    cases h with
    | cons r t => simp [RpKv.length t]
theorem RpNk.length {K : Ct} {U : Addr → Prop} {H : Hp} : ∀ {ds : List (PyData × PyData)} {vs : List (NestedKey × Addr × V)}, RpNk K U H vs ds → vs.length = ds.length
  | [], _, h => by cases h; rfl
  | d :: ds, _, h => by
    cases h with
    | cons _ _ _ r t => simp [RpNk.length t]
theorem call_lenG : CallR X (.builtin "len") (rrLen X) := by
  refine call_len.or ?_
  intro pins s σ H xs us Q I r h
  obtain ⟨a, ds, U, rfl, hd, q⟩ := h
  obtain ⟨u, rfl, ru⟩ := vals1 r
  cases ru
  rcases hd with ⟨kvs, h1, h2, h3⟩ | ⟨xs, n, h1, h2, h3⟩
  · rw [← h3.length] at q
    exact d_len I (.inl h1) fun t s' I' => ⟨.int kvs.length, H, I', ⟨t, rfl⟩, q⟩
  · obtain ⟨vs, p, e, dd⟩ := Inv.nd I h1 h3
    have hm : s.heap.DictKeyed (nestedKind X.prog X.w) a (pairsH vs) := ⟨vs, dd, rfl⟩
    have hl : (pairsH vs).length = ds.length := by rw [pairsH_length, ← Paired.length p, h3.length]
    have hz := h3.length
    rw [sizeLine_eq] at h2
    refine call_len_slot (n := (pairsH vs).length) hm.typeIs F.slot_dict_len (fun Q' hq => len_keyed e hm hq) (by omega) (by omega) ⟨.int _, H, I.tok _, ⟨_, rfl⟩, by rw [hl]; exact q⟩
theorem br_len : BrA X (rrLen X) sLen := by
  intro P O Z env σ H xs vs qz Q l px hs k
  unfold sLen at hs
  split at hs
  · obtain ⟨x, rfl, h⟩ := px.one
    obtain ⟨a, us, rfl, h1, z1, r1⟩ := h.lst l
    exact .inl ⟨_, _, rfl, .inl ⟨us, .of h1, r1.length.symm⟩, k _ hs Z H _ .refl l (.int _)⟩
  · obtain ⟨x, rfl, h⟩ := px.one
    obtain ⟨a, us, rfl, h1, z1, r1, _⟩ := h.tup l
    exact .inl ⟨_, _, rfl, .inr ⟨us, h1, r1.length.symm⟩, k _ hs Z H _ .refl l (.int _)⟩
  · obtain ⟨x, rfl, h⟩ := px.one
    obtain rfl := h.str l
    exact .inl ⟨_, _, rfl, ⟨hs.1, rfl⟩, k _ hs.2 Z H _ .refl l (.int _)⟩
  · obtain ⟨x, rfl, h⟩ := px.one
    obtain ⟨a, rfl, hd⟩ := h.dctAt l
    exact .inr ⟨a, _, _, rfl, hd, k _ hs Z H _ .refl l (.int _)⟩
  · exact hs.elim
theorem re_len {x : Str} {p : Pos} (hg : Gl X "len") (hm : X.mg "len" = none) (ha : RAB X (e :: es) rs) (h : PE X (.Call (.Name "len" p) (e :: es) [] pos) (tCB (rrLen X) (tRAB X.ct rs)) := by exact pe_callB call_lenG (by assumption) (by assumption) PySem.boot_len ha.h) : RE X (.Call (.Name "len" p) (e :: es) [] pos) (rBi sLen rs) :=
  re_callB call_lenG br_len hg hm PySem.boot_len ha (h := h)
end
end R
/-! The pure layer, part 9: tuple(..), list(..), dict(pairs), index. -/
namespace R
open PySem PySem.Spec PyProof.Rows L2
theorem vals_pt : ∀ {xs : List V} {us : List Value}, us.length = xs.length → (∀ (j : Nat) (x : V) (u : Value), xs[j]? = some x → us[j]? = some u → RelV x u) → Vals xs us
  | [], [], _, _ => .nil
  | x :: xs, u :: us, hl, h => .cons (h 0 x u rfl rfl) (vals_pt (by simpa using hl) fun j y v e1 e2 => h (j + 1) y v (by simpa using e1) (by simpa using e2))
  | [], _ :: _, hl, _ => by simp at hl
  | _ :: _, [], hl, _ => by simp at hl
theorem RpKv.keys {K : Ct} {U : Addr → Prop} {H : Hp} : ∀ {ds : List (PyData × PyData)} {kvs : List (Key × V)}, RpKv K U H kvs ds → RpAll K U H (kvs.map fun kv => kV kv.1) (ds.map (·.1))
  | [], _, h => by cases h; exact .nil
  | d :: ds, _, h => by
    cases h with
    | cons r t =>
      rename_i k v kvs d
      refine .cons ?_ (RpKv.keys t)
      cases k
      · exact .int _
      · exact .str _
theorem RpNk.keys {K : Ct} {U : Addr → Prop} {H : Hp} : ∀ {ds : List (PyData × PyData)} {xs : List (NestedKey × Addr × V)}, RpNk K U H xs ds → RpAll K U H (xs.map fun x => V.ref x.2.1) (ds.map (·.1))
  | [], _, h => by cases h; exact .nil
  | d :: ds, _, h => by
    cases h with
    | cons q _ _ _ t => exact .cons q (RpNk.keys t)
section
variable {X : Cx} {pins : List (Addr × Obj)} {σ : L2.St} {H : Hp} {s : Shared} {U : Addr → Prop}
/-- a dict as what is walked: its keys -/
theorem keys_src (I : Inv X pins σ H s) {a : Addr} {ds : List (PyData × PyData)} (h : DctAt X.ct U H a ds) :
    ∃ (n : Nat) (Pv : Nat → Value → Prop) (OK : Heap → Prop), PySem.W.KdlSrc X.prog X.w "dict" a a n Pv OK ∧ OK s.heap ∧ n ≤ sizeLine ∧ ∃ ks : List V, ks.length = n ∧ RpAll X.ct U H ks (ds.map (·.1)) ∧ ∀ acc : Array Value, ItemsOf Pv acc n → Vals ks acc.toList := by
  rcases h with ⟨kvs, h1, h2, h3⟩ | ⟨xs, n, h1, h2, h3⟩
  · obtain ⟨z, e, vs, rel, dd⟩ := dk_of I.hok h1
    obtain ⟨ep, hat⟩ := dd.dictAt
    have ek : (kvs.map fun kv => kV kv.1) = vs.map fun p => kV p.1 := by
      have e := congrArg (List.map kV) rel.keys
      rw [List.map_map, List.map_map] at e
      exact e
    refine ⟨vs.length, _, _, PySem.W.kdl_dict (knd := mixKind X.prog X.w) (kvs := vs) (ep := ep) e, hat, by rw [← rel.length]; exact h2, _, by rw [List.length_map, rel.length], h3.keys, fun acc hacc => ?_⟩
    rw [ek]
    exact keys_at (by rw [Array.length_toList]; exact hacc.1) fun j v e => hacc.2 j v (by rw [← Array.getElem?_toList]; exact e)
  · obtain ⟨vs, p, e, dd⟩ := Inv.nd I h1 h3
    obtain ⟨es, ep, hr, hs, he⟩ := dd.raw
    have hl : es.size = xs.length := by rw [hs, Paired.length p]
    refine ⟨es.size, _, _, PySem.KdlSrc.rawDict (es := es) (ep := ep) e, hr, by rw [hl]; exact h2, _, by rw [List.length_map, hl], h3.keys, fun acc hacc => ?_⟩
    refine vals_pt (by rw [Array.length_toList, hacc.1, List.length_map, hl]) fun j x u e1 e2 => ?_
    obtain ⟨hj, rfl⟩ := hacc.2 j u (by rw [← Array.getElem?_toList]; exact e2)
    obtain ⟨y, hy, k1, k2, _⟩ := he j hj
    rw [k1]
    rw [List.getElem?_map] at e1
    obtain ⟨x', q1, rfl⟩ := Option.map_eq_some_iff.mp e1
    have go : ∀ {xs : List (NestedKey × Addr × V)} {vs : List (NestedKey × Addr × Value)} {j : Nat}, Paired (fun x y => x.1 = y.1 ∧ x.2.1 = y.2.1 ∧ RelV x.2.2 y.2.2) xs vs → xs[j]? = some x' → vs[j]? = some y → x'.2.1 = y.2.1 := by
      intro xs
      induction xs with
      | nil => intro vs j _ e; simp at e
      | cons a as ih =>
        intro vs j p e1 e2
        cases p with
        | cons p1 p2 =>
          cases j with
          | zero =>
            simp at e1 e2
            subst e1 e2
            exact p1.2.1
          | succ j => exact ih p2 (by simpa using e1) (by simpa using e2)
    rw [go p q1 hy]
    rfl
end
section
variable {X : Cx} {e a b o : Expr} {es : List Expr} {r ra rb : RE1} {rs : RA1} {pos apos : Pos}
/-! ### tuple(x), list(x) -/
def sTuple : SA
  | [.d (.list ds)], q => q (.d (.tuple ds))
  | [.d (.tuple ds)], q => q (.d (.tuple ds))
  | [.d (.str z)], q => z.cps.size ≤ sizeLine ∧ q (.d (.tuple (strD z)))
  | [.d (.dict ds)], q => q (.d (.tuple (ds.map (·.1))))
  | _, _ => False
def sList : SA
  | [.d (.list ds)], q => q (.d (.list ds))
  | [.d (.tuple ds)], q => q (.d (.list ds))
  | [.d (.dict ds)], q => q (.d (.list (ds.map (·.1))))
  | _, _ => False
def rrTuple (X : Cx) : List V → Hp → VK → Prop := fun xs H Q => (∃ p ys, xs = [.ref p] ∧ ((SqL X.K H p ys ∧ ∀ l, H l = none → Q (.ref l) (upd H l (.tup ys))) ∨ (SqT X.K H p ys ∧ Q (.ref p) H))) ∨
  (∃ z, xs = [.str z] ∧ z.cps.size ≤ sizeLine ∧ ∀ l, H l = none → Q (.ref l) (upd H l (.tup (z.cps.toList.map fun c => V.str ⟨#[c]⟩)))) ∨
  ∃ a ds U, xs = [.ref a] ∧ DctAt X.ct U H a ds ∧ ∀ ks, RpAll X.ct U H ks (ds.map (·.1)) → ks.length ≤ sizeLine → ∀ l, H l = none → Q (.ref l) (upd H l (.tup ks))
def rrList (X : Cx) : List V → Hp → VK → Prop := fun xs H Q => (∃ p ys, xs = [.ref p] ∧ (SqL X.K H p ys ∨ SqT X.K H p ys) ∧ ∀ l, H l = none → Q (.ref l) (upd H l (.lst ys))) ∨
  ∃ a ds U, xs = [.ref a] ∧ DctAt X.ct U H a ds ∧ ∀ ks, RpAll X.ct U H ks (ds.map (·.1)) → ks.length ≤ sizeLine → ∀ l, H l = none → Q (.ref l) (upd H l (.lst ks))
theorem call_tupleG (hc : X.calm = true) : CallR X (.type "tuple") (rrTuple X) := by
  refine call_tuple_of.or (CallR.or ?_ ?_)
  · intro pins s σ H xs us Q I r h
    obtain ⟨z, rfl, hz, q⟩ := h
    obtain ⟨u, rfl, t, rfl⟩ := vals1 r
    refine call_tuple_str (I.ok.hd hc) hz fun h' tk acc kp hacc => ?_
    have I1 : Inv X pins σ H { s with heap := h', toks := tk } := I.kept (t' := tk) kp
    have hv : Vals (z.cps.toList.map fun c => V.str ⟨#[c]⟩) acc.toList := by
      refine vals_pt (by rw [Array.length_toList, hacc.1, List.length_map, Array.length_toList]) fun j x u e1 e2 => ?_
      obtain ⟨c, t', q1, rfl⟩ := hacc.2 j u (by rw [← Array.getElem?_toList]; exact e2)
      rw [List.getElem?_map, Array.getElem?_toList, q1] at e1
      cases e1
      exact ⟨t', rfl⟩
    refine ⟨.ref h'.objs.size, upd H h'.objs.size (.tup (z.cps.toList.map fun c => V.str ⟨#[c]⟩)), I1.laid (t' := tk) (fun b o e => Heap.get?_push_of_some _ e) (Nat.le_refl _) (show ObjOk X.prog X.w _ _ _ (.tup _) from ⟨?_, acc.toList, hv, ?_⟩), rfl, q _ (I1.hok.fresh (Nat.le_refl _))⟩
    · rw [List.length_map, Array.length_toList]; exact hz
    · have := IsTup.new h' acc
      rw [Array.toArray_toList]
      exact this
  · intro pins s σ H xs us Q I r h
    obtain ⟨a, ds, U, rfl, hd, q⟩ := h
    obtain ⟨u, rfl, ru⟩ := vals1 r
    cases ru
    obtain ⟨n, Pv, OK, K, ok, hn, ks, kl, rk, hv⟩ := keys_src I hd
    refine call_tuple_coll (hd.typeIs I) (by decide) (by decide) (Pv := Pv) (n := n) (fun E Q h => PySem.W.kdu_collect K (I.ok.hd hc) ok hn h) hn fun h' tk acc kp hacc => ?_
    have I1 : Inv X pins σ H { s with heap := h', toks := tk } := I.kept (t' := tk) kp
    refine ⟨.ref h'.objs.size, upd H h'.objs.size (.tup ks), I1.laid (t' := tk) (fun b o e => Heap.get?_push_of_some _ e) (Nat.le_refl _) (show ObjOk X.prog X.w _ _ _ (.tup ks) from ⟨by rw [kl]; exact hn, acc.toList, hv acc hacc, ?_⟩), rfl, q ks rk (by rw [kl]; exact hn) _ (I1.hok.fresh (Nat.le_refl _))⟩
    have := IsTup.new h' acc
    rw [Array.toArray_toList]
    exact this
theorem call_listG (hc : X.calm = true) : CallR X (.type "list") (rrList X) := by
  refine call_list_of.or ?_
  intro pins s σ H xs us Q I r h
  obtain ⟨a, ds, U, rfl, hd, q⟩ := h
  obtain ⟨u, rfl, ru⟩ := vals1 r
  cases ru
  obtain ⟨n, Pv, OK, K, ok, hn, ks, kl, rk, hv⟩ := keys_src I hd
  refine PySem.W.kdl_call K (I.ok.hd hc) ok hn fun h' tk acc c' hk hD hacc => ?_
  exact ⟨.ref s.heap.objs.size, upd H s.heap.objs.size (.lst ks), I.laid (t' := tk) hk (Nat.le_refl _)
    (show ObjOk X.prog X.w _ _ _ (.lst ks) from ⟨by rw [kl]; exact hn, acc.toList, c', hv acc hacc, by rw [Array.toArray_toList]; exact hD⟩), rfl, q ks rk (by rw [kl]; exact hn) _ (I.hok.fresh (Nat.le_refl _))⟩
theorem strD_rp {K : Ct} {U : Addr → Prop} {H : Hp} (z : Str) : RpAll K U H (z.cps.toList.map fun c => V.str ⟨#[c]⟩) (strD z) := by
  unfold strD
  generalize z.cps.toList = cs
  induction cs with
  | nil => exact .nil
  | cons c cs ih => exact .cons (.str _) ih
theorem br_tuple : BrA X (rrTuple X) sTuple := by
  intro P O Z env σ H xs vs qz Q l px hs k
  unfold sTuple at hs
  split at hs
  · obtain ⟨x, rfl, h⟩ := px.one
    obtain ⟨a, us, rfl, h1, z1, r1⟩ := h.lst l
    exact .inl ⟨a, us, rfl, .inl ⟨.of h1, fun p hp => k _ hs Z _ _ (stp_new hp) (l.new hp) (mk_tup l r1 z1 hp)⟩⟩
  · obtain ⟨x, rfl, h⟩ := px.one
    obtain ⟨a, us, rfl, h1, z1, r1, f1⟩ := h.tup l
    exact .inl ⟨a, us, rfl, .inr ⟨h1, k _ hs Z H _ .refl l f1⟩⟩
  · obtain ⟨x, rfl, h⟩ := px.one
    obtain rfl := h.str l
    refine .inr (.inl ⟨_, rfl, hs.1, fun p hp => k _ hs.2 Z _ _ (stp_new hp) (l.new hp) (mk_tup l (strD_rp _) ?_ hp)⟩)
    rw [List.length_map, Array.length_toList]; exact hs.1
  · obtain ⟨x, rfl, h⟩ := px.one
    obtain ⟨a, rfl, hd⟩ := h.dctAt l
    exact .inr (.inr ⟨a, _, _, rfl, hd, fun ks rk zk p hp => k _ hs Z _ _ (stp_new hp) (l.new hp) (mk_tup l rk zk hp)⟩)
  · exact hs.elim
theorem br_list : BrA X (rrList X) sList := by
  intro P O Z env σ H xs vs qz Q l px hs k
  unfold sList at hs
  split at hs
  · obtain ⟨x, rfl, h⟩ := px.one
    obtain ⟨a, us, rfl, h1, z1, r1⟩ := h.lst l
    exact .inl ⟨a, us, rfl, .inl (.of h1), fun p hp => k _ hs Z _ _ (stp_new hp) (l.new hp) (mk_lst l r1 z1 hp)⟩
  · obtain ⟨x, rfl, h⟩ := px.one
    obtain ⟨a, us, rfl, h1, z1, r1, f1⟩ := h.tup l
    exact .inl ⟨a, us, rfl, .inr h1, fun p hp => k _ hs Z _ _ (stp_new hp) (l.new hp) (mk_lst l r1 z1 hp)⟩
  · obtain ⟨x, rfl, h⟩ := px.one
    obtain ⟨a, rfl, hd⟩ := h.dctAt l
    exact .inr ⟨a, _, _, rfl, hd, fun ks rk zk p hp => k _ hs Z _ _ (stp_new hp) (l.new hp) (mk_lst l rk zk hp)⟩
  · exact hs.elim
theorem re_tupleC {p : Pos} (hc : X.calm = true) (hg : Gl X "tuple") (hm : X.mg "tuple" = none) (ha : RAB X (e :: es) rs) (h : PE X (.Call (.Name "tuple" p) (e :: es) [] pos) (tCB (rrTuple X) (tRAB X.ct rs)) := by exact pe_callTy (call_tupleG (by assumption)) (by assumption) (by assumption) boot_tuple ha.h) : RE X (.Call (.Name "tuple" p) (e :: es) [] pos) (rBi sTuple rs) :=
  re_callTy (call_tupleG hc) br_tuple hg hm boot_tuple ha (h := h)
theorem re_listC {p : Pos} (hc : X.calm = true) (hg : Gl X "list") (hm : X.mg "list" = none) (ha : RAB X (e :: es) rs) (h : PE X (.Call (.Name "list" p) (e :: es) [] pos) (tCB (rrList X) (tRAB X.ct rs)) := by exact pe_callTy (call_listG (by assumption)) (by assumption) (by assumption) boot_list ha.h) : RE X (.Call (.Name "list" p) (e :: es) [] pos) (rBi sList rs) :=
  re_callTy (call_listG hc) br_list hg hm boot_list ha (h := h)
/-- list(range(n)), tuple(range(n)), .. of two -/
def rListRg1 (f : List PyData → PyData) (ra : RE1) : RE1 := fun env q => ra env fun v e1 => ∃ j : Int, v = .d (.int j) ∧ (-(2 ^ 62) ≤ j ∧ j ≤ 16777216) ∧ q (.d (f (rangeD 0 j))) e1
def rListRg2 (f : List PyData → PyData) (ra rb : RE1) : RE1 := fun env q => ra env fun v e1 => rb e1 fun u e2 => e2 = e1 ∧ ∃ i j : Int, v = .d (.int i) ∧ u = .d (.int j) ∧ (-(2 ^ 62) ≤ i ∧ i < 2 ^ 62 ∧ -(2 ^ 62) ≤ j ∧ j < 2 ^ 62 ∧ j - i ≤ 16777216) ∧ q (.d (f (rangeD i j))) e2
theorem rgV_rp {K : Ct} {U : Addr → Prop} {H : Hp} (i j : Int) : RpAll K U H (rgV i j) (rangeD i j) := by
  unfold rgV rangeD
  generalize List.range (j - i).toNat = cs
  induction cs with
  | nil => exact .nil
  | cons c cs ih => exact .cons (.int _) ih
theorem re_listRg1 {p p2 pos2 : Pos} (hc : X.calm = true) (hg : Gl X "list") (hm : X.mg "list" = none) (hg2 : Gl X "range") (hm2 : X.mg "range" = none) (ha : RB X a ra) (hs : starEach [a] X.env = (false, eval a X.env) :: starEach [] X.env := by rfl)
    (na : starEach [.Call (.Name "range" p2) [a] [] pos2] X.env = (false, eval (.Call (.Name "range" p2) [a] [] pos2) X.env) :: starEach [] X.env := by rfl) : RE X (.Call (.Name "list" p) [.Call (.Name "range" p2) [a] [] pos2] [] pos) (rListRg1 .list ra) :=
  .of (pe_listRg hc hg hm (prg_1 hg2 hm2 ha.h hs) na) fun σ H Q ⟨P, O, Z, env, q, l, w, k⟩ => by
    refine ⟨P, O, Z, env, _, l, w, fun v e1 w1 Z1 H1 x s1 l1 p1 => ?_⟩
    obtain ⟨j, rfl, ⟨h1, h2⟩, w1⟩ := w1
    refine ⟨j, p1.int l1, ⟨by omega, by omega, by omega, by omega, by omega⟩, fun p hp => k _ e1 w1 Z1 _ _ (s1.trans (stp_new hp)) (l1.new hp) (mk_lst l1 (rgV_rp 0 j) ?_ hp)⟩
    rw [rgV_length, sizeLine_eq]; omega
theorem re_listRg2 {p p2 pos2 : Pos} (hc : X.calm = true) (hg : Gl X "list") (hm : X.mg "list" = none) (hg2 : Gl X "range") (hm2 : X.mg "range" = none) (ha : RB X a ra) (hb : RB X b rb) (hs : starEach [a, b] X.env = (false, eval a X.env) :: starEach [b] X.env := by rfl) (hs2 : starEach [b] X.env = (false, eval b X.env) :: starEach [] X.env := by rfl) (hp : (backTo pos2 (starEach [b] X.env)).any (·.1) = false := by rfl)
    (na : starEach [.Call (.Name "range" p2) [a, b] [] pos2] X.env = (false, eval (.Call (.Name "range" p2) [a, b] [] pos2) X.env) :: starEach [] X.env := by rfl) : RE X (.Call (.Name "list" p) [.Call (.Name "range" p2) [a, b] [] pos2] [] pos) (rListRg2 .list ra rb) :=
  .of (pe_listRg hc hg hm (prg_2 hg2 hm2 ha.h hb.h hs hs2 hp) na) fun σ H Q ⟨P, O, Z, env, q, l, w, k⟩ => by
    refine ⟨P, O, Z, env, _, l, w, fun v e1 w1 Z1 H1 x s1 l1 p1 => ?_⟩
    refine ⟨P, O, Z1, e1, _, l1, w1, fun u e2 w2 Z2 H2 y s2 l2 p2 => ?_⟩
    obtain ⟨rfl, i, j, rfl, rfl, ⟨h1, h2, h3, h4, h5⟩, w2⟩ := w2
    refine ⟨i, j, (p1.later s2).int l2, p2.int l2, ⟨by omega, by omega, by omega, by omega, by omega⟩, fun p hp => k _ _ w2 Z2 _ _ ((s1.trans s2).trans (stp_new hp)) (l2.new hp) (mk_lst l2 (rgV_rp i j) ?_ hp)⟩
    rw [rgV_length, sizeLine_eq]; omega
end
end R
/-! The pure layer, part 10: methods, owned lists, a, b = x, y. -/
namespace R
open PySem PySem.Spec PyProof.Rows L2
section
variable {K : Ct} {P : Addr → Prop} {O : List Addr} {Z : List Rng} {env : Ev} {σ : L2.St} {H : Hp}
theorem own_ext (l : Rl K P O Z env σ H) {a : Addr} (ha : a ∈ O) (o : HO) : ∀ b u, ¬ UU P O Z b → H b = some u → upd H a o b = some u := fun b u n e => by
  rw [upd_ne]
  · exact e
  · rintro rfl
    exact n (.inr (.inl ha))
theorem stp_own {a : Addr} (ha : a ∈ O) (o : HO) : Stp O Z H Z (upd H a o) := by
  refine ⟨fun b u e n _ => ?_, ⟨[], by simp, by simp⟩, fun b n => ?_⟩
  · rw [upd_ne (fun q => n (by rw [q]; exact ha))]; exact e
  · by_cases q : b = a
    · rw [q, upd_same]; simp
    · rw [upd_ne q]; exact n
/-- an owned container's content is another one -/
theorem Rl.pokeOwn (l : Rl K P O Z env σ H) {i : Nat} {a : Addr} {d d' : PyData} {o : HO} (e : env[i]? = some (.own d)) (h : σ[i]? = some (some (.ref a))) (r : RpOwn K (UU P O Z) (upd H a o) a d') : Rl K P O Z (env.set i (.own d')) σ (upd H a o) := by
  have hi : i < env.length := (List.getElem?_eq_some_iff.mp e).1
  obtain ⟨a', q1, ha, _⟩ := l.own i d e
  rw [h] at q1
  cases q1
  have out : ∀ {j : Nat} {s : Slot}, (env.set i (.own d'))[j]? = some s → (i = j ∧ s = .own d') ∨ (i ≠ j ∧ env[j]? = some s) := fun {j s} q => by
    by_cases e : i = j
    · subst e
      rw [List.getElem?_set_self hi] at q
      cases q
      exact .inl ⟨rfl, rfl⟩
    · rw [List.getElem?_set_ne e] at q
      exact .inr ⟨e, q⟩
  have wasOwn : ∀ {j : Nat} {f : PyData}, (env.set i (.own d'))[j]? = some (.own f) → ∃ g, env[j]? = some (.own g) := fun {j f} q => by
    rcases out q with ⟨rfl, _⟩ | ⟨_, q⟩
    · exact ⟨_, e⟩
    · exact ⟨_, q⟩
  have th : ∀ b, H b ≠ none → upd H a o b ≠ none := (stp_own (Z := Z) ha o).there
  refine ⟨by simpa using l.len, fun j v q => ?_, fun j f q => ?_, fun j m f g b q1 q2 q3 q4 => ?_, fun b q => ⟨(l.dis b q).1, (l.dis b q).2.1, th b (l.dis b q).2.2⟩, fun b q => th b (l.prot b q), ⟨fun z hz => ⟨(l.rng.1 z hz).1.keep fun b u e q => ?_, (l.rng.1 z hz).2⟩, l.rng.2⟩⟩
  · rcases out q with ⟨_, e⟩ | ⟨_, q⟩
    · cases e
    · obtain ⟨x, h1, h2⟩ := l.slot j v q
      exact ⟨x, h1, h2.mono (own_ext l ha o) (fun _ _ q => q) fun _ _ q => q⟩
  · rcases out q with ⟨rfl, e⟩ | ⟨ne, q⟩
    · cases e
      exact ⟨a, h, ha, r⟩
    · obtain ⟨b, h1, h2, h3⟩ := l.own j f q
      refine ⟨b, h1, h2, h3.mono (fun u w => ?_) (own_ext l ha o) fun _ _ q => q⟩
      rw [upd_ne]
      · exact w
      · rintro rfl
        exact ne (l.inj i j d f b e q h h1)
  · obtain ⟨f', w1⟩ := wasOwn q1
    obtain ⟨g', w2⟩ := wasOwn q2
    exact l.inj j m f' g' b w1 w2 q3 q4
  · rw [upd_ne]
    · exact e
    · rintro rfl
      exact (l.dis b ha).2.1 ⟨z, hz, q⟩
end
section
variable {X : Cx} {e a b o : Expr} {es : List Expr} {r ra rb : RE1} {rs : RA1} {pos apos cpos : Pos}
/-! ### methods that read -/
/-- o.m(..) of a list, a text -/
def rMt (ok : PV → Prop) (s : PV → List PV → (PV → Prop) → Prop) (ra : RE1) (rs : RA1) : RE1 := fun env q => ra env fun v e1 => ok v ∧ rs e1 fun vs e2 => e2 = e1 ∧ s v vs fun z => q z e2
def rMt0 (s : PV → List PV → (PV → Prop) → Prop) (ra : RE1) : RE1 := fun env q => ra env fun v e1 => s v [] fun z => q z e1
def BrM (X : Cx) (rr : V → List V → Hp → VK → Prop) (s : PV → List PV → (PV → Prop) → Prop) : Prop := ∀ {P O Z env σ H x v xs vs} {qz : PV → Prop} {Q : VK}, Rl X.ct P O Z env σ H → RpB X.ct (UU P O Z) Z env σ H x v → RpBs X.ct (UU P O Z) Z env σ H xs vs → s v vs qz →
  (∀ z, qz z → ∀ Z' H' xz, Stp O Z H Z' H' → Rl X.ct P O Z' env σ H' → RpV X.ct (UU P O Z') Z' H' xz z → Q xz H') → rr x xs H Q
/-- the receiver's type -/
def BrTy (X : Cx) (T : String) (ok : PV → Prop) : Prop := ∀ {P O Z env σ H x v}, Rl X.ct P O Z env σ H → RpB X.ct (UU P O Z) Z env σ H x v → ok v → tyV X.K T x H
def okL (v : PV) : Prop := ∃ ds, v = .d (.list ds)
def okS (v : PV) : Prop := ∃ z, v = .d (.str z)
theorem ty_L : BrTy X "list" okL := by
  rintro P O Z env σ H x v l p ⟨ds, rfl⟩
  obtain ⟨a, xs, rfl, h1, _⟩ := p.lst l
  exact .inl ⟨rfl, xs, .of h1⟩
theorem ty_S : BrTy X "str" okS := by
  rintro P O Z env σ H x v l p ⟨ds, rfl⟩
  rw [p.str l]
  rfl
theorem re_mt {name : Str} {T : String} {rr : V → List V → Hp → VK → Prop} {ok : PV → Prop} {s : PV → List PV → (PV → Prop) → Prop} (ty : BrTy X T ok) (br : BrM X rr s) (h : PE X (.Call (.Attribute o name apos) (e :: es) [] cpos) (tBM X.K T rr (tRB X.ct ra) (tRAB X.ct rs))) : RE X (.Call (.Attribute o name apos) (e :: es) [] cpos) (rMt ok s ra rs) :=
  .of h fun σ H Q ⟨P, O, Z, env, q, l, w, k⟩ => by
    refine ⟨P, O, Z, env, _, l, w, fun v e1 w1 Z1 H1 x s1 l1 p1 => ?_⟩
    refine ⟨ty l1 p1 w1.1, P, O, Z1, e1, _, l1, w1.2, fun vs e2 w2 Z2 H2 xs s2 l2 p2 => ?_⟩
    obtain ⟨rfl, w2⟩ := w2
    exact br l2 (p1.later s2) p2 w2 fun z hz Z' H' xz s3 l3 p3 => k z _ hz Z' H' xz ((s1.trans s2).trans s3) l3 p3
theorem re_mt0 {name : Str} {T : String} {rr : V → List V → Hp → VK → Prop} {ok : PV → Prop} {s : PV → List PV → (PV → Prop) → Prop} (ty : BrTy X T ok) (hok : ∀ v q, s v [] q → ok v) (br : BrM X rr s) (h : PE X (.Call (.Attribute o name apos) [] [] cpos) (tBM0 X.K T rr (tRB X.ct ra))) : RE X (.Call (.Attribute o name apos) [] [] cpos) (rMt0 s ra) :=
  .of h fun σ H Q ⟨P, O, Z, env, q, l, w, k⟩ => by
    refine ⟨P, O, Z, env, _, l, w, fun v e1 w1 Z1 H1 x s1 l1 p1 => ?_⟩
    exact ⟨ty l1 p1 (hok _ _ w1), br l1 p1 .nil w1 fun z hz Z' H' xz s3 l3 p3 => k z _ hz Z' H' xz (s1.trans s3) l3 p3⟩
theorem RpBs.later {K : Ct} {P : Addr → Prop} {O : List Addr} {Z Z' : List Rng} {env : Ev} {σ : L2.St} {H H' : Hp} (s : Stp O Z H Z' H') : ∀ {xs : List V} {vs : List PV}, RpBs K (UU P O Z) Z env σ H xs vs → RpBs K (UU P O Z') Z' env σ H' xs vs
  | _, _, .nil => .nil
  | _, _, .cons r t => .cons (r.later s) (RpBs.later s t)
/-- the first place of an equal one -/
def idxD (ds : List PyData) (y : PyData) : Option Nat := ds.findIdx? fun z => PyData.eqv z y
def sIndex : PV → List PV → (PV → Prop) → Prop
  | .d (.list ds), [.d y], q => (SeqAt.shaped (.list ds) = true ∧ SeqAt.shaped y = true) ∧ ∃ j, idxD ds y = some j ∧ q (.d (.int (j : Int)))
  | _, _, _ => False
theorem idx_of {ds : List PyData} {y : PyData} {j : Nat} (h : idxD ds y = some j) : ∃ z, ds[j]? = some z ∧ PyData.eqv z y = true ∧ ∀ (m : Nat) (z' : PyData), m < j → ds[m]? = some z' → PyData.eqv z' y = false := by
  obtain ⟨hj, h1, h2⟩ := List.findIdx?_eq_some_iff_getElem.mp h
  refine ⟨ds[j], by simp [hj], h1, fun m z' hm e => ?_⟩
  have q := h2 m hm
  have hml : m < ds.length := by omega
  rw [List.getElem?_eq_getElem hml] at e
  cases e
  simpa using q
theorem br_index : BrM X (rIndexD X.K) sIndex := by
  intro P O Z env σ H x v xs vs qz Q l px ps hs k
  unfold sIndex at hs
  split at hs
  · obtain ⟨⟨h1, h2⟩, j, hj, hs⟩ := hs
    obtain ⟨y, rfl, py⟩ := ps.one
    have dl := px.dp l (SeqAt.canLay_of_shaped h1)
    obtain ⟨a, us, rfl, _⟩ := px.lst l
    obtain ⟨z, z1, z2, z3⟩ := idx_of hj
    exact ⟨a, y, _, _, j, z, rfl, rfl, dl, py.dp l (SeqAt.canLay_of_shaped h2), h1, h2, z1, z2, z3, k _ hs Z H _ .refl l (.int _)⟩
  · exact hs.elim
theorem re_index (hu : X.A.units + 65 < cLine) (ho : RB X o ra) (ha : RAB X [e] rs)
    (h : PE X (.Call (.Attribute o "index" apos) [e] [] cpos) (tBM X.K "list" (rIndexD X.K) (tRB X.ct ra) (tRAB X.ct rs)) := by exact pe_bm PySem.F.plainAttrs_list PySem.F.slot_list_index PySem.F.type_list_index (mt_indexD (by assumption)) ho.h ha.h) : RE X (.Call (.Attribute o "index" apos) [e] [] cpos) (rMt okL sIndex ra rs) :=
  re_mt ty_L br_index h

/-! ### owned lists -/
/-- x.append(e); the statement -/
def rAppendTo (i : Nat) (re : RE1) : RS1 := fun env E => (∃ ds, env[i]? = some (.own (.list ds))) ∧ re env fun v e1 => ∃ ds d, e1[i]? = some (.own (.list ds)) ∧ v = .d d ∧ ds.length < sizeLine ∧ E.nx (e1.set i (.own (.list (ds ++ [d]))))
theorem rs_append {i : Nat} {x : Str} {p : Pos} {re : RE1} (hN : X.N[i]? = some x) (hv : Vis X.env.scope x) (he : RE X e re) (hd : (x == ("__debug__" : Str)) = false := by decide) (hcd : (x == ("__classdict__" : Str)) = false := by decide)
    (h : PE X (.Call (.Attribute (.Name x p) "append" apos) [e] [] cpos) (tBM X.K "list" rAppend (tVar i) (tCons (tR X.ct re) tNil)) := by exact pe_bm PySem.F.plainAttrs_list PySem.F.slot_list_append PySem.F.type_list_append mt_append (pe_var (by assumption) (by assumption) (by assumption) (by assumption)) (pa_cons he.h pa_nil))
    (hs : swapsWith (.Call (.Attribute (.Name x p) "append" apos) [e] [] cpos) none pos.line X.env = pure false := by rfl) : RS X (.Expr (.Call (.Attribute (.Name x p) "append" apos) [e] [] cpos) pos) (rAppendTo i re) :=
  .of (ps_expr h hs) fun D σ H ⟨P, O, Z, env, E, l, ⟨⟨ds0, e0⟩, w⟩, k⟩ => by
    obtain ⟨a, h1, h2, us, h3, h4, h5⟩ := l.own i _ e0
    refine ⟨.ref a, h1, .inl ⟨rfl, us, .of h3⟩, P, O, Z, env, _, l, w, fun v e1 w1 Z1 H1 y s1 l1 p1 => ?_⟩
    obtain ⟨ds, d, e2, rfl, hz, w1⟩ := w1
    obtain ⟨a', q1, q2, ws, q3, q4, q5⟩ := l1.own i _ e2
    rw [h1] at q1
    cases q1
    have hz' : ws.length < sizeLine := by rw [q5.length]; exact hz
    refine ⟨a, ws, y, rfl, rfl, q3, hz', ?_⟩
    have l2 := l1.pokeOwn (d' := .list (ds ++ [d])) (o := .lst (ws ++ [y])) e2 h1 ⟨ws ++ [y], upd_same, by rw [List.length_append, List.length_singleton]; omega, RpAll.mono (own_ext l1 q2 _) (fun _ _ q => q) _ _ (q5.app (.one p1))⟩
    exact k.nx _ w1 O Z1 σ _ (s1.trans (stp_own q2 _)).q l2
/-- x.extend(e) of a list -/
def rExtendTo (i : Nat) (re : RE1) : RS1 := fun env E => (∃ ds, env[i]? = some (.own (.list ds))) ∧ re env fun v e1 => ∃ ds fs, e1[i]? = some (.own (.list ds)) ∧ v = .d (.list fs) ∧ ds.length + fs.length ≤ sizeLine ∧ E.nx (e1.set i (.own (.list (ds ++ fs))))
theorem rs_extend {i : Nat} {x : Str} {p : Pos} {re : RE1} (hN : X.N[i]? = some x) (hv : Vis X.env.scope x) (he : RE X e re) (hd : (x == ("__debug__" : Str)) = false := by decide) (hcd : (x == ("__classdict__" : Str)) = false := by decide)
    (h : PE X (.Call (.Attribute (.Name x p) "extend" apos) [e] [] cpos) (tBM X.K "list" rExtend (tVar i) (tCons (tR X.ct re) tNil)) := by exact pe_bm PySem.F.plainAttrs_list PySem.F.slot_list_extend PySem.F.type_list_extend mt_extend (pe_var (by assumption) (by assumption) (by assumption) (by assumption)) (pa_cons he.h pa_nil))
    (hs : swapsWith (.Call (.Attribute (.Name x p) "extend" apos) [e] [] cpos) none pos.line X.env = pure false := by rfl) : RS X (.Expr (.Call (.Attribute (.Name x p) "extend" apos) [e] [] cpos) pos) (rExtendTo i re) :=
  .of (ps_expr h hs) fun D σ H ⟨P, O, Z, env, E, l, ⟨⟨ds0, e0⟩, w⟩, k⟩ => by
    obtain ⟨a, h1, h2, us, h3, h4, h5⟩ := l.own i _ e0
    refine ⟨.ref a, h1, .inl ⟨rfl, us, .of h3⟩, P, O, Z, env, _, l, w, fun v e1 w1 Z1 H1 y s1 l1 p1 => ?_⟩
    obtain ⟨ds, fs, e2, rfl, hz, w1⟩ := w1
    obtain ⟨a', q1, q2, ws, q3, q4, q5⟩ := l1.own i _ e2
    rw [h1] at q1
    cases q1
    obtain ⟨b, us2, rfl, b1, b2, b3⟩ := RpB.lst (.inl p1) l1
    have hz' : ws.length + us2.length ≤ sizeLine := by rw [q5.length, b3.length]; exact hz
    refine ⟨a, b, ws, us2, rfl, rfl, q3, b1, hz', ?_⟩
    have l2 := l1.pokeOwn (d' := .list (ds ++ fs)) (o := .lst (ws ++ us2)) e2 h1 ⟨ws ++ us2, upd_same, by rw [List.length_append]; omega, RpAll.mono (own_ext l1 q2 _) (fun _ _ q => q) _ _ (q5.app b3)⟩
    exact k.nx _ w1 O Z1 σ _ (s1.trans (stp_own q2 _)).q l2
/-- x.pop(), the last: a value -/
def rPopOf (i : Nat) : RE1 := fun env q => ∃ ds d, env[i]? = some (.own (.list (ds ++ [d]))) ∧ q (.d d) (env.set i (.own (.list ds)))
theorem re_pop {i : Nat} {x : Str} {p : Pos} (hN : X.N[i]? = some x) (hv : Vis X.env.scope x) (hd : (x == ("__debug__" : Str)) = false := by decide) (hcd : (x == ("__classdict__" : Str)) = false := by decide)
    (h : PE X (.Call (.Attribute (.Name x p) "pop" apos) [] [] cpos) (tBM0 X.K "list" rPop (tVar i)) := by exact pe_bm0 PySem.F.plainAttrs_list PySem.F.slot_list_pop PySem.F.type_list_pop mt_pop (pe_var (by assumption) (by assumption) (by assumption) (by assumption))) : RE X (.Call (.Attribute (.Name x p) "pop" apos) [] [] cpos) (rPopOf i) :=
  .of h fun σ H Q ⟨P, O, Z, env, q, l, ⟨ds, d, e0, w⟩, k⟩ => by
    obtain ⟨a, h1, h2, us, h3, h4, h5⟩ := l.own i _ e0
    refine ⟨.ref a, h1, .inl ⟨rfl, us, .of h3⟩, ?_⟩
    have hl : us.length = ds.length + 1 := by rw [h5.length]; simp
    obtain ⟨y, y1, y2⟩ := h5.get (i := us.length - 1) (d := d) (by rw [hl]; simp)
    refine ⟨a, us, y, rfl, rfl, h3, y1, ?_⟩
    have rd : RpAll X.ct (UU P O Z) H us.dropLast ds := by
      have := h5.take ds.length
      rw [List.take_left] at this
      rw [List.dropLast_eq_take, hl]
      exact this
    have l2 := l.pokeOwn (d' := .list ds) (o := .lst us.dropLast) e0 h1 ⟨us.dropLast, upd_same, by rw [List.length_dropLast]; omega, RpAll.mono (own_ext l h2 _) (fun _ _ q => q) _ _ rd⟩
    exact k _ _ w Z _ y (stp_own h2 _) l2 (Rp.mono (own_ext l h2 _) (fun _ _ q => q) _ _ y2)
/-- x.pop(0) of a constant place, or any -/
def rPopAtOf (i : Nat) (re : RE1) : RE1 := fun env q => (∃ ds, env[i]? = some (.own (.list ds))) ∧ re env fun v e1 => ∃ ds j k d, e1[i]? = some (.own (.list ds)) ∧ v = .d (.int j) ∧ (-(2 ^ 63) ≤ j ∧ j < 2 ^ 63) ∧ seqIndex? j ds.length = some k ∧ ds[k]? = some d ∧ q (.d d) (e1.set i (.own (.list (ds.eraseIdx k))))
theorem RpAll.erase {K : Ct} {U : Addr → Prop} {H : Hp} : ∀ {ds : List PyData} {vs : List V} (n : Nat), RpAll K U H vs ds → RpAll K U H (vs.eraseIdx n) (ds.eraseIdx n)
  | [], _, n, h => by cases h; exact .nil
  | d :: ds, _, 0, h => by
    cases h with
    | cons r t => exact t
  | d :: ds, _, n + 1, h => by
    cases h with
    | cons r t => exact .cons r (RpAll.erase n t)
theorem re_popAt {i : Nat} {x : Str} {p : Pos} {re : RE1} (hN : X.N[i]? = some x) (hv : Vis X.env.scope x) (he : RE X e re) (hd : (x == ("__debug__" : Str)) = false := by decide) (hcd : (x == ("__classdict__" : Str)) = false := by decide)
    (h : PE X (.Call (.Attribute (.Name x p) "pop" apos) [e] [] cpos) (tBM X.K "list" rPopAt (tVar i) (tCons (tR X.ct re) tNil)) := by exact pe_bm PySem.F.plainAttrs_list PySem.F.slot_list_pop PySem.F.type_list_pop mt_popAt (pe_var (by assumption) (by assumption) (by assumption) (by assumption)) (pa_cons he.h pa_nil)) : RE X (.Call (.Attribute (.Name x p) "pop" apos) [e] [] cpos) (rPopAtOf i re) :=
  .of h fun σ H Q ⟨P, O, Z, env, q, l, ⟨⟨ds0, e0⟩, w⟩, k⟩ => by
    obtain ⟨a, h1, h2, us, h3, h4, h5⟩ := l.own i _ e0
    refine ⟨.ref a, h1, .inl ⟨rfl, us, .of h3⟩, P, O, Z, env, _, l, w, fun v e1 w1 Z1 H1 y s1 l1 p1 => ?_⟩
    obtain ⟨ds, j, kk, d, e2, rfl, ⟨j1, j2⟩, hk, hd, w1⟩ := w1
    obtain ⟨a', q1, q2, ws, q3, q4, q5⟩ := l1.own i _ e2
    rw [h1] at q1
    cases q1
    cases p1
    obtain ⟨y, y1, y2⟩ := q5.get hd
    refine ⟨a, ws, j, kk, y, rfl, rfl, q3, j1, j2, by rw [q5.length]; exact hk, y1, ?_⟩
    have l2 := l1.pokeOwn (d' := .list (ds.eraseIdx kk)) (o := .lst (ws.eraseIdx kk)) e2 h1 ⟨ws.eraseIdx kk, upd_same, by have := L2.len_erase ws kk; omega, RpAll.mono (own_ext l1 q2 _) (fun _ _ q => q) _ _ (q5.erase kk)⟩
    exact k _ _ w1 Z1 _ y (s1.trans (stp_own q2 _)) l2 (Rp.mono (own_ext l1 q2 _) (fun _ _ q => q) _ _ y2)

/-! ### a, b = x, y -/
theorem rs_par2 {i j : Nat} {x y : Str} {rs : RA1} {px py pt : Pos} {kt k2 pt2} (hc : X.calm = true) (hN : X.N.Nodup) (hi : X.N[i]? = some x) (hj : X.N[j]? = some y) (hij : i ≠ j)
    (hx : X.env.scope.names.lookup x = some .local) (hy : X.env.scope.names.lookup y = some .local) (ha : RA X [a, b] rs)
    (hw : swappedStores [.Tuple [.Name x px, .Name y py] kt pt] (.Tuple [a, b] k2 pt2) X.env = pure (some [x, y]))
    (hs : swapsWithSole [.Tuple [.Name x px, .Name y py] kt pt] (.Tuple [a, b] k2 pt2) pos.line X.env = pure false := by rfl) : RS X (.Assign [.Tuple [.Name x px, .Name y py] kt pt] (.Tuple [a, b] k2 pt2) pos) (rPar2 i j rs) :=
  .of (ps_par hc hN hi hj hij hx hy ha.h hw hs) fun _ _ _ => par2R
theorem rs_par3 {i j m : Nat} {x y z : Str} {c : Expr} {rs : RA1} {px py pz pt : Pos} {kt k2 pt2} (hc : X.calm = true) (hN : X.N.Nodup) (hi : X.N[i]? = some x) (hj : X.N[j]? = some y) (hl : X.N[m]? = some z) (hij : i ≠ j) (hil : i ≠ m) (hjl : j ≠ m)
    (hx : X.env.scope.names.lookup x = some .local) (hy : X.env.scope.names.lookup y = some .local) (hz : X.env.scope.names.lookup z = some .local) (ha : RA X [a, b, c] rs)
    (hw : swappedStores [.Tuple [.Name x px, .Name y py, .Name z pz] kt pt] (.Tuple [a, b, c] k2 pt2) X.env = pure (some [x, y, z]))
    (hs : swapsWithSole [.Tuple [.Name x px, .Name y py, .Name z pz] kt pt] (.Tuple [a, b, c] k2 pt2) pos.line X.env = pure false := by rfl) : RS X (.Assign [.Tuple [.Name x px, .Name y py, .Name z pz] kt pt] (.Tuple [a, b, c] k2 pt2) pos) (rPar3 i j m rs) :=
  .of (ps_par3 hc hN hi hj hl hij hil hjl hx hy hz ha.h hw hs) fun _ _ _ => par3R
end
end R
/-! The pure layer, part 11: dict(pairs), sorted. -/
namespace R
open PySem PySem.Spec PyProof.Rows L2
/-! ### dict(pairs) -/
def dput (ds : List (PyData × PyData)) (k v : PyData) : List (PyData × PyData) := if (ds.any fun p => keyEq p.1 k) = true then ds.map (fun p => if keyEq p.1 k = true then (p.1, v) else p) else ds ++ [(k, v)]
def dmerge (ds es : List (PyData × PyData)) : List (PyData × PyData) := es.foldl (fun acc p => dput acc p.1 p.2) ds
def pairD : PyData → Option (PyData × PyData)
  | .tuple [k, v] => some (k, v)
  | _ => none
def pairsD : List PyData → Option (List (PyData × PyData))
  | [] => some []
  | d :: ds => match pairD d, pairsD ds with
    | some p, some ps => some (p :: ps)
    | _, _ => none
section
variable {K : Ct} {U : Addr → Prop} {H : Hp}
theorem RpKv.app : ∀ {ds es : List (PyData × PyData)} {vs us : List (Key × V)}, RpKv K U H vs ds → RpKv K U H us es → RpKv K U H (vs ++ us) (ds ++ es)
  | [], _, _, _, h, t => by cases h; exact t
  | d :: ds, _, _, _, h, t => by
    cases h with
    | cons r q => exact .cons r (RpKv.app q t)
theorem RpKv.any : ∀ {ds : List (PyData × PyData)} {vs : List (Key × V)} (k : Key), RpKv K U H vs ds → (vs.any fun kv => decide (kv.1 = k)) = ds.any fun p => keyEq p.1 (kD k)
  | [], _, k, h => by cases h; rfl
  | d :: ds, _, k, h => by
    cases h with
    | cons r q => simp only [List.any_cons, keyEq_kD, RpKv.any k q]
theorem RpKv.map {v : V} {d : PyData} (h : Rp K U H v d) (k : Key) : ∀ {ds : List (PyData × PyData)} {vs : List (Key × V)}, RpKv K U H vs ds → RpKv K U H (vs.map fun kv => if kv.1 = k then (kv.1, v) else kv) (ds.map fun p => if keyEq p.1 (kD k) = true then (p.1, d) else p)
  | [], _, h => by cases h; exact .nil
  | e :: ds, _, h => by
    cases h with
    | cons r q =>
      rename_i j x kvs e
      simp only [List.map_cons, keyEq_kD]
      by_cases c : j = k
      · simp only [c, if_pos, decide_true]
        exact .cons h (RpKv.map h k q)
      · simp only [c, if_false, decide_false, Bool.false_eq_true]
        exact .cons r (RpKv.map h k q)
theorem RpKv.put {v : V} {d : PyData} {ds : List (PyData × PyData)} {vs : List (Key × V)} (r : RpKv K U H vs ds) (k : Key) (h : Rp K U H v d) : RpKv K U H (putK vs k v) (dput ds (kD k) d) := by
  unfold putK dput
  rw [r.any k]
  split
  · exact r.map h k
  · exact r.app (.cons h .nil)
theorem RpKv.merge : ∀ {es : List (PyData × PyData)} {us : List (Key × V)} {ds : List (PyData × PyData)} {vs : List (Key × V)}, RpKv K U H us es → RpKv K U H vs ds → RpKv K U H (mergeK vs us) (dmerge ds es)
  | [], _, ds, vs, h, r => by cases h; exact r
  | e :: es, _, ds, vs, h, r => by
    cases h with
    | cons q t =>
      rename_i k v kvs d
      have g := RpKv.merge t (r.put k q)
      exact g
/-- the same over nested keys -/
def putN (xs : List (NestedKey × Addr × V)) (k : NestedKey) (a : Addr) (v : V) : List (NestedKey × Addr × V) :=
  if (xs.any fun x => decide (x.1 = k)) = true then xs.map (fun x => if x.1 = k then (x.1, x.2.1, v) else x) else xs ++ [(k, a, v)]
def mergeN (xs ys : List (NestedKey × Addr × V)) : List (NestedKey × Addr × V) := ys.foldl (fun acc y => putN acc y.1 y.2.1 y.2.2) xs
theorem RpNk.app : ∀ {ds es : List (PyData × PyData)} {vs us : List (NestedKey × Addr × V)}, RpNk K U H vs ds → RpNk K U H us es → RpNk K U H (vs ++ us) (ds ++ es)
  | [], _, _, _, h, t => by cases h; exact t
  | d :: ds, _, _, _, h, t => by
    cases h with
    | cons r1 r2 r3 r4 q => exact .cons r1 r2 r3 r4 (RpNk.app q t)
theorem keyEq_nk {e f : PyData} {j k : NestedKey} (h1 : nk e = some j) (h2 : nk f = some k) : keyEq e f = decide (j = k) := by simp [keyEq, h1, h2]
theorem RpNk.any {e : PyData} {k : NestedKey} (he : nk e = some k) : ∀ {ds : List (PyData × PyData)} {vs : List (NestedKey × Addr × V)}, RpNk K U H vs ds → (vs.any fun x => decide (x.1 = k)) = ds.any fun p => keyEq p.1 e
  | [], _, h => by cases h; rfl
  | d :: ds, _, h => by
    cases h with
    | cons r1 r2 r3 r4 q => simp only [List.any_cons, keyEq_nk r2 he, RpNk.any he q]
theorem RpNk.map {v : V} {d e : PyData} {k : NestedKey} (he : nk e = some k) (h : Rp K U H v d) : ∀ {ds : List (PyData × PyData)} {vs : List (NestedKey × Addr × V)}, RpNk K U H vs ds → RpNk K U H (vs.map fun x => if x.1 = k then (x.1, x.2.1, v) else x) (ds.map fun p => if keyEq p.1 e = true then (p.1, d) else p)
  | [], _, h => by cases h; exact .nil
  | f :: ds, _, h => by
    cases h with
    | cons r1 r2 r3 r4 q =>
      simp only [List.map_cons, keyEq_nk r2 he]
      split
      · rename_i c
        rw [if_pos (by simpa using c)]
        exact .cons r1 r2 r3 h (RpNk.map he h q)
      · rename_i c
        rw [if_neg (by simpa using c)]
        exact .cons r1 r2 r3 r4 (RpNk.map he h q)
theorem RpNk.put {v : V} {d e : PyData} {k : NestedKey} {a : Addr} {ds : List (PyData × PyData)} {vs : List (NestedKey × Addr × V)} (r : RpNk K U H vs ds) (ha : Rp K U H (.ref a) e) (he : nk e = some k) (hd : k.depth ≤ 8) (h : Rp K U H v d) : RpNk K U H (putN vs k a v) (dput ds e d) := by
  unfold putN dput
  rw [r.any he]
  split
  · exact r.map he h
  · exact r.app (.cons ha he hd h .nil)
theorem RpNk.merge : ∀ {es : List (PyData × PyData)} {us : List (NestedKey × Addr × V)} {ds : List (PyData × PyData)} {vs : List (NestedKey × Addr × V)}, RpNk K U H us es → RpNk K U H vs ds → RpNk K U H (mergeN vs us) (dmerge ds es)
  | [], _, ds, vs, h, r => by cases h; exact r
  | e :: es, _, ds, vs, h, r => by
    cases h with
    | cons q1 q2 q3 q4 t =>
      have g := RpNk.merge t (r.put q1 q2 q3 q4)
      exact g
theorem length_putN (xs : List (NestedKey × Addr × V)) (k : NestedKey) (a : Addr) (v : V) : (putN xs k a v).length ≤ xs.length + 1 := by
  unfold putN
  split <;> simp
theorem length_mergeN : ∀ (ys xs : List (NestedKey × Addr × V)), (mergeN xs ys).length ≤ xs.length + ys.length
  | [], xs => by show xs.length ≤ xs.length + 0; omega
  | p :: r, xs => by
    have h1 := length_mergeN r (putN xs p.1 p.2.1 p.2.2)
    have h2 := length_putN xs p.1 p.2.1 p.2.2
    show (mergeN (putN xs p.1 p.2.1 p.2.2) r).length ≤ _
    rw [List.length_cons]; omega
theorem mergeN_ne : ∀ (ys xs : List (NestedKey × Addr × V)), (xs ≠ [] ∨ ys ≠ []) → mergeN xs ys ≠ []
  | [], xs, h => h.elim id fun q => absurd rfl q
  | p :: r, xs, h => by
    have h1 : putN xs p.1 p.2.1 p.2.2 ≠ [] := by
      unfold putN
      split
      · rename_i c
        intro e
        rw [List.map_eq_nil_iff.mp e] at c
        cases c
      · simp
    have g := mergeN_ne r _ (.inl h1)
    exact g
abbrev NkP : List (NestedKey × Addr × V) → List (NestedKey × Addr × Value) → Prop := Paired (fun x y => x.1 = y.1 ∧ x.2.1 = y.2.1 ∧ RelV x.2.2 y.2.2)
theorem NkP.app {xs : List (NestedKey × Addr × V)} {ys : List (NestedKey × Addr × Value)} {us : List (NestedKey × Addr × V)} {ws : List (NestedKey × Addr × Value)} (h : NkP xs ys) (t : NkP us ws) : NkP (xs ++ us) (ys ++ ws) := by
  induction h with
  | nil => exact t
  | cons p _ ih => exact .cons p ih
theorem NkP.map {v : V} {u : Value} (k : NestedKey) (r : RelV v u) {xs : List (NestedKey × Addr × V)} {ys : List (NestedKey × Addr × Value)} (h : NkP xs ys) : NkP (xs.map fun x => if x.1 = k then (x.1, x.2.1, v) else x) (ys.map (putAt k u)) := by
  induction h with
  | nil => exact .nil
  | @cons x y l m p t ih =>
    obtain ⟨e1, e2, e3⟩ := p
    rw [List.map_cons, List.map_cons]
    refine .cons ?_ ih
    unfold putAt
    rw [← e1]
    split
    · exact ⟨rfl, e2, r⟩
    · exact ⟨e1, e2, e3⟩
theorem NkP.put {v : V} {u : Value} (k : NestedKey) (a : Addr) (r : RelV v u) {xs : List (NestedKey × Addr × V)} {ys : List (NestedKey × Addr × Value)} (h : NkP xs ys) : NkP (putN xs k a v) (storedH ys k a u) := by
  have e : (xs.any fun x => decide (x.1 = k)) = (atKey ys k).isSome := by
    induction h with
    | nil => rfl
    | @cons x y l m p t ih =>
      obtain ⟨e1, _, _⟩ := p
      by_cases c : x.1 = k
      · simp [atKey, List.find?_cons, ← e1, c]
      · simp only [List.any_cons, ih, atKey, List.find?_cons, ← e1, c, decide_false, Bool.false_or]
  unfold putN storedH
  rw [e]
  split
  · exact NkP.map k r h
  · exact h.app (.cons ⟨rfl, rfl, r⟩ .nil)
theorem NkP.merge {us : List (NestedKey × Addr × V)} {ws : List (NestedKey × Addr × Value)} (h : NkP us ws) : ∀ {xs : List (NestedKey × Addr × V)} {ys : List (NestedKey × Addr × Value)}, NkP xs ys → NkP (mergeN xs us) (storedAllH ys ws) := by
  induction h with
  | nil => intro xs ys t; exact t
  | @cons x y l m p q ih =>
    intro xs ys t
    obtain ⟨e1, e2, e3⟩ := p
    have := t.put y.1 y.2.1 e3
    have g := ih this
    unfold mergeN storedAllH at g ⊢
    rw [List.foldl_cons, List.foldl_cons, e1, e2]
    exact g
end
end R
/-! The pure layer, part 12: the calls dict(..), sorted(..). -/
namespace R
open PySem PySem.Spec PyProof.Rows L2
section
variable {X : Cx} {pins : List (Addr × Obj)} {σ : L2.St} {H : Hp} {s : Shared} {U : Addr → Prop}
theorem pairD_eq {d : PyData} {p : PyData × PyData} (h : pairD d = some p) : d = .tuple [p.1, p.2] := by
  unfold pairD at h
  split at h
  · cases h; rfl
  · cases h
theorem pairs_nk (I : Inv X pins σ H s) : ∀ {ds : List PyData} {us : List V} {es : List (PyData × PyData)} {its : List Value}, RpAll X.ct U H us ds → pairsD ds = some es → (es.all fun p => tupK p.1) = true → Vals us its →
    ∃ (zs : List (NestedKey × Addr × V)) (ps : List (NestedKey × Addr × Value)) (Ts : List Addr), RpNk X.ct U H zs es ∧ NkP zs ps ∧ its = Ts.map Value.ref ∧ Paired (fun T p => PairAt s.heap T (.ref p.2.1) p.2.2) Ts ps ∧ ∀ x ∈ ps, (nestedKind X.prog X.w).is s.heap x.1 x.2.1
  | [], _, es, _, r, e, _, v => by
    cases r
    cases v
    cases e
    exact ⟨[], [], [], .nil, .nil, rfl, .nil, fun _ h => nomatch h⟩
  | d :: ds, _, es, _, r, e, t, v => by
    cases r with
    | cons r1 r2 =>
      cases v with
      | cons v1 v2 =>
        unfold pairsD at e
        split at e
        · rename_i p ps0 e1 e2
          cases e
          rw [List.all_cons, Bool.and_eq_true] at t
          obtain ⟨zs, ps, Ts, g1, g2, g3, g4, g5⟩ := pairs_nk I r2 e2 t.2 v2
          obtain rfl := pairD_eq e1
          cases r1 with
          | tup w z ra =>
            rename_i T xs0
            cases v1
            obtain ⟨its0, rv, ht, _⟩ := I.tuple (w.elim (fun x => .inl x.2) .inr)
            cases ra with
            | cons q1 q2 =>
              cases q2 with
              | cons q2 q3 =>
                cases q3
                obtain ⟨u1, u2, rfl, ru1, ru2⟩ := vals2 rv
                obtain ⟨b, rfl⟩ := tupK_ref t.1 q1
                obtain ⟨k, k1, k2⟩ := tupK_nk t.1
                cases ru1
                refine ⟨(k, b, _) :: zs, (k, b, u2) :: ps, T :: Ts, .cons q1 k1 k2 q2 g1, .cons ⟨rfl, rfl, ru2⟩ g2, by rw [g3]; rfl, .cons (.inl ht) g4, fun x hx => ?_⟩
                rcases List.mem_cons.mp hx with rfl | hx
                · exact ⟨Rp.nested I _ _ _ _ q1 rfl k1, k2⟩
                · exact g5 x hx
        · cases e
theorem pairs_kv : ∀ {ds : List PyData} {us : List V} {es : List (PyData × PyData)}, RpAll X.ct U H us ds → pairsD ds = some es → (es.all fun p => simpleK p.1) = true →
    ∃ (ps : List Addr) (kvs : List (Key × V)), us = ps.map V.ref ∧ Paired (fun p kv => SqT X.K H p [kV kv.1, kv.2]) ps kvs ∧ RpKv X.ct U H kvs es
  | [], _, es, r, e, _ => by
    cases r
    cases e
    exact ⟨[], [], rfl, .nil, .nil⟩
  | d :: ds, _, es, r, e, t => by
    cases r with
    | cons r1 r2 =>
      unfold pairsD at e
      split at e
      · rename_i p ps0 e1 e2
        cases e
        rw [List.all_cons, Bool.and_eq_true] at t
        obtain ⟨ps, kvs, g1, g2, g3⟩ := pairs_kv r2 e2 t.2
        obtain rfl := pairD_eq e1
        cases r1 with
        | tup w z ra =>
          rename_i T xs0
          cases ra with
          | cons q1 q2 =>
            cases q2 with
            | cons q2 q3 =>
              cases q3
              rename_i x1 x2
              obtain ⟨p1, p2⟩ := p
              obtain ⟨k, hk⟩ := simpleK_kD t.1
              simp only at hk
              subst hk
              obtain rfl := simpleK_V q1
              exact ⟨T :: ps, (k, x2) :: kvs, by rw [g1]; rfl, .cons (w.elim (fun x => .inl x.2) .inr) g2, .cons q2 g3⟩
      · cases e
end
theorem paired_at {α β : Type} {R : α → β → Prop} : ∀ {xs : List α} {ys : List β}, Paired R xs ys → ∀ (i : Nat) (y : β), ys[i]? = some y → ∃ x, xs[i]? = some x ∧ R x y
  | _, _, .nil, i, y, e => by simp at e
  | _, _, .cons r t, 0, y, e => by
    simp at e
    subst e
    exact ⟨_, rfl, r⟩
  | _, _, .cons r t, i + 1, y, e => by
    obtain ⟨x, h1, h2⟩ := paired_at t i y (by simpa using e)
    exact ⟨x, by simpa using h1, h2⟩
section
variable {X : Cx} {e : Expr} {es : List Expr} {rs : RA1} {pos : Pos}
/-- dict(x): of pairs, of a dict -/
def sDict : SA
  | [.d (.list ds)], q => ∃ es, pairsD ds = some es ∧ ((es.all fun p => simpleK p.1) || (es.all fun p => tupK p.1)) = true ∧ q (.d (.dict (dmerge [] es)))
  | [.d (.dict ds)], q => (ds.all fun p => simpleK p.1) = true ∧ q (.d (.dict ds))
  | _, _ => False
def rrDict (X : Cx) : List V → Hp → VK → Prop := fun xs H Q => (∃ (a : Addr) (ps : List Addr) (kvs : List (Key × V)), xs = [.ref a] ∧ SqL X.K H a (ps.map V.ref) ∧ Paired (fun p kv => SqT X.K H p [kV kv.1, kv.2]) ps kvs ∧ ∀ p, H p = none → Q (.ref p) (upd H p (.dK (mergeK [] kvs)))) ∨
  (∃ a us ds es U, xs = [.ref a] ∧ SqL X.K H a us ∧ RpAll X.ct U H us ds ∧ pairsD ds = some es ∧ (es.all fun p => tupK p.1) = true ∧ es ≠ [] ∧ ∀ zs, zs ≠ [] → RpNk X.ct U H zs (dmerge [] es) → zs.length ≤ sizeLine → ∀ p, H p = none → Q (.ref p) (upd H p (ndHO X.ct p zs))) ∨
  ∃ (a : Addr) (kvs : List (Key × V)), xs = [.ref a] ∧ Rd H a (.dK kvs) ∧ ∀ p, H p = none → Q (.ref p) (upd H p (.dK kvs))
theorem nd_new {K : Ct} {H : Hp} {h : Heap} {a : Addr} {zs : List (NestedKey × Addr × V)} {ps : List (NestedKey × Addr × Value)} (hp : NkP zs ps) (hs : (a == sysModules) = false) (hd : h.DictOfH (nestedKind K.P K.w) a ps) : ObjOk K.P K.w H h a (ndHO K a zs) := by
  obtain ⟨o, es, ep, h1, h2, h3, h4, h5, h6⟩ := hd
  refine ⟨⟨ps, hp, hs, o, es, ep, h1, h2, h3, h4, h6⟩, ⟨o, h1⟩, fun g1 g2 x k => ?_⟩
  obtain ⟨vs, p, e, o, es, ep, q1, q2⟩ := x
  exact ⟨vs, p, e, o, es, ep, k o q1, q2⟩
theorem call_dictG (hc : X.calm = true) (hu : X.A.units + 66 < cLine) : CallR X (.type "dict") (rrDict X) := by
  refine (call_dictP hc).or (CallR.or ?_ call_dictD)
  intro pins s σ H xs us Q I r h
  obtain ⟨a, vs, ds, es, U, rfl, hq, hr, he, ht, hne, q⟩ := h
  obtain ⟨u, rfl, ru⟩ := vals1 r
  cases ru
  obtain ⟨its, rv, pl, hz⟩ := I.list hq
  obtain ⟨zs, ps, Ts, g1, g2, g3, g4, g5⟩ := pairs_nk I hr he ht rv
  have hl : ps.length = Ts.length := (Paired.length g4).symm
  have hlz : zs.length = ps.length := Paired.length g2
  have hli : its.length = ps.length := by rw [g3, List.length_map, hl]
  have hlv : vs.length = ps.length := by rw [rv.length, hli]
  have P := PairArg.list (prog := X.prog) (w := X.w) a its.toArray (fun j => Ts.getD j 0) (ps.map fun p => (Value.ref p.2.1, p.2.2))
  refine call_dict_pairsH (knd := nestedKind X.prog X.w) (ps := ps) P (I.ok.hd hc) (by show X.A.units + 1 + 1 + 8 < cLine; omega) ⟨?_, ?_⟩ ⟨by rw [List.length_map], fun i key v e => ?_⟩ ?_ (by rw [List.length_map, ← hlv]; exact hz) fun h' tk hd' kp => ?_
  · obtain ⟨o, n, ho, hc, hd, hdat⟩ := pl
    exact ⟨o, n, ho, hc, hd, hdat⟩
  · refine ⟨by rw [List.size_toArray, List.length_map, hli], fun j k v e => ?_⟩
    rw [List.getElem?_map] at e
    obtain ⟨p, e1, e2⟩ := Option.map_eq_some_iff.mp e
    cases e2
    obtain ⟨T, t1, t2⟩ := paired_at g4 j p e1
    have et : Ts.getD j 0 = T := by simp [List.getD, t1]
    refine ⟨?_, by show PairAt s.heap (Ts.getD j 0) _ _; rw [et]; exact t2⟩
    show its.toArray[j]? = some (Value.ref (Ts.getD j 0))
    rw [et, g3]
    simp [t1]
  · have e' : (ps.map fun p => (Value.ref p.2.1, p.2.2))[i]? = some (key, v) := e
    rw [List.getElem?_map] at e'
    obtain ⟨p, e1, e2⟩ := Option.map_eq_some_iff.mp e'
    cases e2
    exact ⟨p.1, p.2.1, e1, rfl⟩
  · intro h' hk x hx
    exact nestedKind_stays.stays (fun b o vs n e _ => hk b o (Nat.ne_of_lt (Heap.lt_size e)) (fun q => nomatch q) e) (g5 x hx)
  · have hm : (s.heap.objs.size == sysModules) = false := beq_eq_false_iff_ne.mpr (Nat.ne_of_gt I.big)
    have hzs : zs ≠ [] := by
      intro e
      subst e
      cases g1
      exact hne rfl
    have rm : RpNk X.ct U H (mergeN [] zs) (dmerge [] es) := RpNk.merge g1 .nil
    have zl : (mergeN [] zs).length ≤ sizeLine := Nat.le_trans (length_mergeN zs []) (by rw [List.length_nil, Nat.zero_add, hlz, ← hlv]; exact hz)
    exact ⟨.ref s.heap.objs.size, upd H s.heap.objs.size (ndHO X.ct s.heap.objs.size (mergeN [] zs)), I.laid (t' := tk) (fun b o e => kp b o (fun q => nomatch q) e) (Nat.le_refl _) (nd_new (K := X.ct) (NkP.merge g2 .nil) hm hd'), rfl, q _ (mergeN_ne zs [] (.inr hzs)) rm zl _ (I.hok.fresh (Nat.le_refl _))⟩
theorem mk_dct {K : Ct} {P : Addr → Prop} {O : List Addr} {Z : List Rng} {env : Ev} {σ : L2.St} {H : Hp} {p : Addr} {xs : List (Key × V)} {ds : List (PyData × PyData)} (l : Rl K P O Z env σ H) (h : RpKv K (UU P O Z) H xs ds) (z : xs.length ≤ sizeLine) (n : H p = none) : Rp K (UU P O Z) (upd H p (.dK xs)) (.ref p) (.dict ds) :=
  have st : Stp O Z H Z (upd H p (.dK xs)) := stp_new n
  .dct (l.fresh n) upd_same z (RpKv.mono st.ext st.uu _ _ h)
theorem mk_dcn {K : Ct} {P : Addr → Prop} {O : List Addr} {Z : List Rng} {env : Ev} {σ : L2.St} {H : Hp} {p : Addr} {xs : List (NestedKey × Addr × V)} {ds : List (PyData × PyData)} (l : Rl K P O Z env σ H) (h : RpNk K (UU P O Z) H xs ds) (ne : xs ≠ []) (z : xs.length ≤ sizeLine) (n : H p = none) : Rp K (UU P O Z) (upd H p (ndHO K p xs)) (.ref p) (.dict ds) :=
  have st : Stp O Z H Z (upd H p (ndHO K p xs)) := stp_new n
  .dcn ne (l.fresh n) upd_same z (RpNk.mono st.ext st.uu _ _ h)
theorem RpAll.kvlen {K : Ct} {U : Addr → Prop} {H : Hp} {vs : List (Key × V)} {ds : List (PyData × PyData)} (h : RpKv K U H vs ds) : vs.length = ds.length := h.length
theorem pairsD_len : ∀ {ds : List PyData} {es : List (PyData × PyData)}, pairsD ds = some es → es.length = ds.length
  | [], _, e => by cases e; rfl
  | d :: ds, _, e => by
    unfold pairsD at e
    split at e
    · rename_i p ps e1 e2
      cases e
      simp [pairsD_len e2]
    · cases e
theorem br_dict : BrA X (rrDict X) sDict := by
  intro P O Z env σ H xs vs qz Q l px hs k
  unfold sDict at hs
  split at hs
  · obtain ⟨es, e, ok, hs⟩ := hs
    obtain ⟨x, rfl, h⟩ := px.one
    obtain ⟨a, us, rfl, h1, z1, r1⟩ := h.lst l
    by_cases c : (es.all fun p => simpleK p.1) = true
    · obtain ⟨ps, kvs, g1, g2, g3⟩ := pairs_kv r1 e c
      subst g1
      refine .inl ⟨a, ps, kvs, rfl, .of h1, g2, fun p hp => k _ hs Z _ _ (stp_new hp) (l.new hp) (mk_dct l (RpKv.merge g3 .nil) ?_ hp)⟩
      refine Nat.le_trans (length_mergeK kvs []) ?_
      rw [List.length_nil, Nat.zero_add, g3.length, pairsD_len e, ← r1.length]
      exact z1
    · have c' : (es.all fun p => tupK p.1) = true := by simpa [c] using ok
      refine .inr (.inl ⟨a, us, _, es, _, rfl, .of h1, r1, e, c', ?_, fun zs ne rz zl p hp => k _ hs Z _ _ (stp_new hp) (l.new hp) (mk_dcn l rz ne zl hp)⟩)
      rintro rfl
      simp at c
  · obtain ⟨x, rfl, h⟩ := px.one
    obtain ⟨a, rfl, hd⟩ := h.dctAt l
    obtain ⟨kvs, h1, h2, h3⟩ := hd.simple hs.1
    exact .inr (.inr ⟨a, kvs, rfl, .inl h1, fun p hp => k _ hs.2 Z _ _ (stp_new hp) (l.new hp) (mk_dct l h3 h2 hp)⟩)
  · exact hs.elim
theorem re_dictC {p : Pos} (hc : X.calm = true) (hu : X.A.units + 66 < cLine) (hg : Gl X "dict") (hm : X.mg "dict" = none) (ha : RAB X (e :: es) rs) (h : PE X (.Call (.Name "dict" p) (e :: es) [] pos) (tCB (rrDict X) (tRAB X.ct rs)) := by exact pe_callTy (call_dictG (by assumption) (by assumption)) (by assumption) (by assumption) boot_dict ha.h) : RE X (.Call (.Name "dict" p) (e :: es) [] pos) (rBi sDict rs) :=
  re_callTy (call_dictG hc hu) br_dict hg hm boot_dict ha (h := h)
end
end R
/-! The pure layer, part 13: sorted. -/
namespace R
open PySem PySem.Spec PyProof.Rows L2
section
variable {α β : Type} {lt : α → α → Bool}
def ins (lt : α → α → Bool) (x : α) : List α → List α
  | [] => [x]
  | y :: l => if lt y x = true then y :: ins lt x l else x :: y :: l
def isort (lt : α → α → Bool) : List α → List α
  | [] => []
  | x :: l => ins lt x (isort lt l)
theorem ins_perm (x : α) : ∀ l : List α, (ins lt x l).Perm (x :: l)
  | [] => .refl _
  | y :: l => by
    unfold ins
    split
    · exact ((ins_perm x l).cons y).trans (.swap x y l)
    · exact .refl _
theorem isort_perm : ∀ l : List α, (isort lt l).Perm l
  | [] => .refl _
  | x :: l => (ins_perm x _).trans ((isort_perm l).cons x)
theorem ins_srtd (O : SrtO.Swo lt) (x : α) : ∀ l : List α, SrtO.Srtd lt l → SrtO.Srtd lt (ins lt x l)
  | [], _ => SrtO.srtd_one x
  | y :: l, h => by
    unfold ins
    split
    · rename_i c
      refine List.pairwise_cons.mpr ⟨fun z hz => ?_, ins_srtd O x l (List.pairwise_cons.mp h).2⟩
      rcases List.mem_cons.mp ((ins_perm x l).mem_iff.mp hz) with rfl | hz
      · exact O.asym _ _ c
      · exact SrtO.srtd_head h z hz
    · rename_i c
      have c' : lt y x = false := by simpa using c
      exact List.pairwise_cons.mpr ⟨O.le_all h c', h⟩
theorem isort_srtd (O : SrtO.Swo lt) : ∀ l : List α, SrtO.Srtd lt (isort lt l)
  | [] => List.Pairwise.nil
  | x :: l => ins_srtd O x _ (isort_srtd O l)
theorem ins_cls (O : SrtO.Swo lt) (x z : α) : ∀ l : List α, (ins lt x l).filter (SrtO.eqv lt z) = (x :: l).filter (SrtO.eqv lt z)
  | [] => rfl
  | y :: l => by
    unfold ins
    split
    · rename_i c
      have ih := ins_cls O x z l
      have no : SrtO.eqv lt z x = true → SrtO.eqv lt z y = true → False := fun h1 h2 => by
        have a := SrtO.eqv_iff.mp h1
        have b := SrtO.eqv_iff.mp h2
        have := O.ltle c a.1
        rw [b.2] at this
        cases this
      rw [List.filter_cons, ih, List.filter_cons, List.filter_cons (x := x) (xs := y :: l), List.filter_cons (x := y) (xs := l)]
      by_cases hx : SrtO.eqv lt z x = true
      · have hy : ¬ SrtO.eqv lt z y = true := fun q => no hx q
        simp [hx, hy]
      · simp [hx]
    · rfl
theorem isort_stb (O : SrtO.Swo lt) : ∀ l : List α, SrtO.Stb lt (isort lt l) l
  | [] => SrtO.Stb.refl _
  | x :: l => by
    have ih := isort_stb O l
    refine ⟨isort_perm (x :: l), fun z => ?_⟩
    show (ins lt x (isort lt l)).filter _ = _
    rw [ins_cls O x z, List.filter_cons, ih.cls z, ← List.filter_cons]
theorem ins_map {lt' : β → β → Bool} (f : α → β) (x : α) : ∀ l : List α, (∀ y ∈ l, lt y x = lt' (f y) (f x)) → (ins lt x l).map f = ins lt' (f x) (l.map f)
  | [], _ => rfl
  | y :: l, h => by
    have e := h y List.mem_cons_self
    unfold ins
    rw [List.map_cons]
    simp only [e]
    split
    · rw [List.map_cons, ins_map f x l fun z hz => h z (List.mem_cons_of_mem _ hz)]
    · rfl
theorem isort_map {lt' : β → β → Bool} (f : α → β) : ∀ l : List α, (∀ x ∈ l, ∀ y ∈ l, lt y x = lt' (f y) (f x)) → (isort lt l).map f = isort lt' (l.map f)
  | [], _ => rfl
  | x :: l, h => by
    show (ins lt x (isort lt l)).map f = ins lt' (f x) (isort lt' (l.map f))
    rw [ins_map f x _ fun y hy => h x List.mem_cons_self y (List.mem_cons_of_mem _ ((isort_perm l).mem_iff.mp hy)), isort_map f l fun a ha b hb => h a (List.mem_cons_of_mem _ ha) b (List.mem_cons_of_mem _ hb)]
end
/-! ### keys -/
abbrev SKey := List (Int ⊕ List Nat)
def key1 : PyData → Int ⊕ List Nat
  | .int i => .inl i
  | .str x => .inr x.cps.toList
  | _ => .inl 0
def keyD : PyData → SKey
  | .tuple es => es.map key1
  | d => [key1 d]
def ltK (a b : SKey) : Bool := lexLt itemOrd a b
def ltD (a b : PyData) : Bool := ltK (keyD a) (keyD b)
def sortD (ds : List PyData) : List PyData := isort ltD ds
theorem swo_ord (O : KeyOrd) {α : Type} (f : α → O.α) : SrtO.Swo fun x y => O.blt (f x) (f y) := by
  refine ⟨fun x y h => ?_, fun x y z h1 h2 => ?_⟩
  · cases e : O.blt (f y) (f x) with
    | false => rfl
    | true =>
      have := O.trans _ _ _ h e
      rw [O.irrefl] at this
      cases this
  · cases e : O.blt (f z) (f x) with
    | false => rfl
    | true =>
      rcases O.negTrans (f z) (f y) (f x) e with q | q
      · rw [h2] at q; cases q
      · rw [h1] at q; cases q
theorem swo_k {α : Type} (f : α → SKey) : SrtO.Swo fun x y => ltK (f x) (f y) := swo_ord (listOrd itemOrd) f
/-- flat tuples: at each place an int (false) or a text (true) -/
def flatSh (sh : Nat → Bool) : Nat → List PyData → Bool
  | _, [] => true
  | i, .int _ :: r => !sh i && flatSh sh (i + 1) r
  | i, .str _ :: r => sh i && flatSh sh (i + 1) r
  | _, _ => false
def okSort (ds : List PyData) : Prop := (∀ d ∈ ds, ∃ i, d = .int i) ∨ (∀ d ∈ ds, ∃ x, d = .str x) ∨ ∃ sh, ∀ d ∈ ds, ∃ e es, d = .tuple (e :: es) ∧ flatSh sh 0 (e :: es) = true
/-- a value's key -/
def kfV (h : Heap) (sh : Nat → Bool) : Value → SKey
  | .int i _ => [.inl i]
  | .str x _ => [.inr x.cps.toList]
  | .ref a => (tupKey h sh (.ref a)).getD []
  | _ => []
section
variable {X : Cx} {pins : List (Addr × Obj)} {σ : L2.St} {H : Hp} {s : Shared} {U : Addr → Prop}
theorem tupItems_of {sh : Nat → Bool} : ∀ {es : List PyData} {xs : List V} {its : List Value} (i : Nat), RpAll X.ct U H xs es → Vals xs its → flatSh sh i es = true → tupItems sh i its = some (es.map key1)
  | [], _, _, i, r, v, _ => by
    cases r
    cases v
    rfl
  | e :: es, _, _, i, r, v, f => by
    cases r with
    | cons r1 r2 =>
      cases v with
      | cons v1 v2 =>
        cases e with
        | int n =>
          cases r1
          obtain ⟨t, rfl⟩ := v1
          simp only [flatSh, Bool.and_eq_true, Bool.not_eq_true'] at f
          have ih := tupItems_of (i + 1) r2 v2 f.2
          simp [tupItems, f.1, ih, key1]
        | str x =>
          cases r1
          obtain ⟨t, rfl⟩ := v1
          simp only [flatSh, Bool.and_eq_true] at f
          have ih := tupItems_of (i + 1) r2 v2 f.2
          simp [tupItems, f.1, ih, key1]
        | _ => simp [flatSh] at f
theorem tup_at (I : Inv X pins σ H s) {es : List PyData} {x : V} {u : Value} {sh : Nat → Bool} (r : Rp X.ct U H x (.tuple es)) (v : RelV x u) (f : flatSh sh 0 es = true) : ∃ a o its n, u = .ref a ∧ s.heap.get? a = some o ∧ o.cls = .type "tuple" ∧ o.data = .seq its n ∧ tupItems sh 0 its.toList = some (es.map key1) := by
  cases r with
  | tup w z ra =>
    cases v
    obtain ⟨its, rv, ⟨o, ho, hc, n, hd⟩, _⟩ := I.tuple (w.elim (fun x => .inl x.2) .inr)
    exact ⟨_, o, its.toArray, n, rfl, ho, hc, hd, by simpa using tupItems_of 0 ra rv f⟩
theorem kf_tup {h : Heap} {a : Addr} {o : Obj} {its : Array Value} {n : Nat} {sh : Nat → Bool} {k : SKey} (ho : h.get? a = some o) (hd : o.data = .seq its n) (hk : tupItems sh 0 its.toList = some k) : kfV h sh (.ref a) = k := by
  simp [kfV, tupKey, ho, hd, hk]
end
abbrev Trp := Value × V × PyData
/-- the items as values, tracked values, data -/
structure Trips (X : Cx) (U : Addr → Prop) (H : Hp) (us : List Value) (xs : List V) (ds : List PyData) (L : List Trp) : Prop where
  u : L.map (·.1) = us
  x : L.map (·.2.1) = xs
  d : L.map (·.2.2) = ds
  r : ∀ t ∈ L, RelV t.2.1 t.1 ∧ Rp X.ct U H t.2.1 t.2.2
theorem trips {X : Cx} {U : Addr → Prop} {H : Hp} : ∀ {us : List Value} {xs : List V} {ds : List PyData}, Vals xs us → RpAll X.ct U H xs ds → ∃ L, Trips X U H us xs ds L
  | _, _, [], v, r => by
    cases r
    cases v
    exact ⟨[], rfl, rfl, rfl, fun _ h => nomatch h⟩
  | _, _, d :: ds, v, r => by
    cases r with
    | cons r1 r2 =>
      cases v with
      | cons v1 v2 =>
        obtain ⟨L, T⟩ := trips v2 r2
        refine ⟨(_, _, d) :: L, by rw [List.map_cons, T.u], by rw [List.map_cons, T.x], by rw [List.map_cons, T.d], fun t ht => ?_⟩
        rcases List.mem_cons.mp ht with rfl | ht
        · exact ⟨v1, r1⟩
        · exact T.r t ht
theorem trips_back {X : Cx} {U : Addr → Prop} {H : Hp} : ∀ {L : List Trp}, (∀ t ∈ L, RelV t.2.1 t.1 ∧ Rp X.ct U H t.2.1 t.2.2) → Vals (L.map (·.2.1)) (L.map (·.1)) ∧ RpAll X.ct U H (L.map (·.2.1)) (L.map (·.2.2))
  | [], _ => ⟨.nil, .nil⟩
  | t :: L, h => by
    obtain ⟨a, b⟩ := trips_back fun q hq => h q (List.mem_cons_of_mem _ hq)
    obtain ⟨c, d⟩ := h t List.mem_cons_self
    exact ⟨.cons c a, .cons d b⟩
end R
/-! The pure layer, part 14: sorted, the call. -/
namespace R
open PySem PySem.Spec PyProof.Rows L2
section
variable {prog : Program} {w : World} {A : Around} {E : Value → Shared → Prop} {s : Shared}
theorem sorted_coll {v : Value} {n : Nat} {Pv : Nat → Value → Prop} {ltv : Value → Value → Bool} {Q : Value → Shared → Prop} (O : SrtO.Swo ltv) (hc : Coll prog w A.in1 s v n Pv) (hz : n ≤ sizeLine)
    (hS : ∀ (h' : Heap) (tk : Nat) (acc : Array Value), ItemsOf Pv acc n → (∀ b o, s.heap.get? b = some o → h'.get? b = some o) → 2 ≤ acc.toList.length → ∀ a : Addr, (∀ o, h'.get? a = some o → o.cls ≠ .type "tuple") → (∀ b o, s.heap.get? b = some o → b ≠ a) → SrtO.SortableO prog w A.in1.in1 { s with heap := h', toks := tk } a acc.toList ltv)
    (h : ∀ (h1 h' : Heap) (tk : Nat) (acc : Array Value) (d : Addr) (out : List Value), ItemsOf Pv acc n → SrtO.Srtd ltv out → SrtO.Stb ltv out acc.toList → (∀ b o, s.heap.get? b = some o → h1.get? b = some o) → (∀ b o, h1.get? b = some o → h'.get? b = some o) → h1.objs.size ≤ d → (∃ e, h'.get? d = some (seqObj "list" out.toArray e)) → Q (.ref d) { s with heap := h', toks := tk }) :
    wpAny (model prog w) A (call (.builtin "sorted") [v]) Q E s := by
  refine Calls.call_function_entry kind_sorted plain_sorted entry_sorted (args_sorted1 _) ?_
  unfold Builtin.«sorted»
  refine wpAny_bind (m := checkCount "sorted" 1 1 _) (wpAny_pure ?_)
  refine wpAny_bind (hc _ _ fun h' tk acc hk hacc => ?_)
  have hal : acc.toList.length ≤ sizeLine := by rw [Array.length_toList, hacc.1]; exact hz
  refine wpAny_bind (wpAny_newList ?_ hal)
  have hoL : (h'.push (seqObj "list" acc.toList.toArray 0)).get? h'.objs.size = some (seqObj "list" acc.toList.toArray 0) := Heap.get?_push_size _ rfl
  have hb : ∀ b o, s.heap.get? b = some o → b < h'.objs.size := fun b o e => Heap.lt_size (hk b o e)
  show wpAny _ _ _ _ _ { s with heap := h'.push (seqObj "list" acc.toList.toArray 0), toks := tk }
  refine wpAny_bind (wpAny_holding (wpAny_call_entry slot_list_sort ⟨_, hoL, rfl⟩ entry_list_sort (SrtO.list_sort_ord (s := { s with heap := h'.push (seqObj "list" acc.toList.toArray 0), toks := tk }) O hoL hal (fun h2 => hS _ tk acc hacc (fun b o e => Heap.get?_push_of_some _ (hk b o e)) h2 _ (fun o e c => ?_) fun b o e => Nat.ne_of_lt (hb b o e)) fun out hs hbb => ⟨_, rfl, ?_⟩) (args_list_sort _)))
  · have e' : some o = some (seqObj "list" acc.toList.toArray 0) := e.symm.trans hoL
    cases e'
    exact absurd (Value.type.inj c) (by decide)
  · refine wpAny_pure ⟨_, rfl, h h' _ tk acc _ out hacc hs hbb hk (fun b o e => ?_) (Nat.le_refl _) (sortedHeap_at hoL)⟩
    rw [sortedHeap_old (Nat.ne_of_lt (Heap.lt_size e)) (by rw [size_push']; exact Nat.lt_succ_of_lt (Heap.lt_size e))]
    exact Heap.get?_push_of_some _ e
theorem coll_seq {a : Addr} {T : String} {o : Obj} {items : Array Value} {m : Nat} (hT : T = "list" ∨ T = "tuple") (ho : s.heap.get? a = some o) (hc : o.cls = .type T) (hd : o.data = .seq items m) (hz : items.size ≤ sizeLine) : Coll prog w A s (.ref a) items.size fun i v => items[i]? = some v := fun E Q h =>
  wpAny_collect_seq a hT ho hc hd (fun h' k => h h' s.toks items k ⟨rfl, fun j v e => e⟩) hz
end
/-- what is sorted, told by its items -/
def elemsD : PyData → Option (List PyData)
  | .list ds => some ds
  | .tuple ds => some ds
  | .dict ds => some (ds.map (·.1))
  | _ => none
section
variable {X : Cx} {pins : List (Addr × Obj)} {σ : L2.St} {H : Hp} {s : Shared} {U : Addr → Prop}
/-- what can be collected -/
def CollAt (X : Cx) (U : Addr → Prop) (H : Hp) (a : Addr) : PyData → Prop
  | .list ds => ∃ us, SqL X.K H a us ∧ RpAll X.ct U H us ds
  | .tuple ds => ∃ us, SqT X.K H a us ∧ RpAll X.ct U H us ds
  | .dict ds => DctAt X.ct U H a ds
  | _ => False
theorem coll_of {A : Around} (hA : A.handled = none) (I : Inv X pins σ H s) {a : Addr} {d : PyData} {ds : List PyData} (h : CollAt X U H a d) (e : elemsD d = some ds) : ∃ (n : Nat) (Pv : Nat → Value → Prop) (xs : List V), Coll X.prog X.w A s (.ref a) n Pv ∧ n ≤ sizeLine ∧ xs.length = n ∧ RpAll X.ct U H xs ds ∧ ∀ acc : Array Value, ItemsOf Pv acc n → Vals xs acc.toList := by
  have seq : ∀ {us : List V} {its : List Value}, Vals us its → ∀ acc : Array Value, ItemsOf (fun i v => its.toArray[i]? = some v) acc its.toArray.size → Vals us acc.toList := fun {us its} rv acc hacc => by
    have : acc.toList = its := by
      refine List.ext_getElem? fun j => ?_
      rw [Array.getElem?_toList]
      cases q : acc[j]? with
      | none =>
        have := Array.getElem?_eq_none_iff.mp q
        rw [hacc.1] at this
        exact (List.getElem?_eq_none (by simpa using this)).symm
      | some v => simpa using (hacc.2 j v q).symm
    rw [this]
    exact rv
  unfold elemsD at e
  split at e
  · cases e
    obtain ⟨us, hq, hr⟩ := h
    obtain ⟨its, rv, pl, hz⟩ := I.list hq
    obtain ⟨o, ho, hc, m, hd⟩ := pl.isList
    have hz' : its.toArray.size ≤ sizeLine := by rw [List.size_toArray, ← rv.length]; exact hz
    exact ⟨_, _, us, coll_seq (.inl rfl) ho hc hd hz', hz', by rw [rv.length, List.size_toArray], hr, seq rv⟩
  · cases e
    obtain ⟨us, hq, hr⟩ := h
    obtain ⟨its, rv, ⟨o, ho, hc, m, hd⟩, hz⟩ := I.tuple hq
    have hz' : its.toArray.size ≤ sizeLine := by rw [List.size_toArray, ← rv.length]; exact hz
    exact ⟨_, _, us, coll_seq (.inr rfl) ho hc hd hz', hz', by rw [rv.length, List.size_toArray], hr, seq rv⟩
  · cases e
    obtain ⟨n, Pv, OK, K, ok, hn, ks, kl, rk, hv⟩ := keys_src I h
    exact ⟨n, Pv, ks, fun E Q h => PySem.W.kdu_collect K hA ok hn h, hn, kl, rk, hv⟩
  · cases e
/-- values that sort by their keys -/
theorem srt_of {A : Around} {ds : List PyData} (I : Inv X pins σ H s) (ok : okSort ds) :
    ∃ sh, (∀ x u d, Rp X.ct U H x d → RelV x u → d ∈ ds → kfV s.heap sh u = keyD d) ∧ ∀ (us : List Value) (xs : List V) (a : Addr) (h' : Heap) (tk : Nat), Vals xs us → RpAll X.ct U H xs ds → 2 ≤ us.length → (∀ b o, s.heap.get? b = some o → h'.get? b = some o) → (∀ b o, s.heap.get? b = some o → b ≠ a) → SrtO.SortableO X.prog X.w A { s with heap := h', toks := tk } a us fun x y => ltK (kfV s.heap sh x) (kfV s.heap sh y) := by
  have lt1 : ∀ x y : Int ⊕ List Nat, ltK [x] [y] = itemLt x y := fun x y => by
    unfold ltK
    rw [lex_cons]
    show (itemLt x y || (!itemLt y x && false)) = itemLt x y
    rw [Bool.and_false, Bool.or_false]
  rcases ok with hi | hs | ⟨sh, ht⟩
  · have all : ∀ {ds : List PyData} {xs : List V} {us : List Value}, (∀ d ∈ ds, ∃ i, d = .int i) → RpAll X.ct U H xs ds → Vals xs us → ∃ ns, IntsAre us ns := by
      intro ds
      induction ds with
      | nil =>
        intro xs us _ r v
        cases r
        cases v
        exact ⟨[], .nil⟩
      | cons d ds ih =>
        intro xs us h r v
        cases r with
        | cons r1 r2 =>
          cases v with
          | cons v1 v2 =>
            obtain ⟨ns, g⟩ := ih (fun d hd => h d (List.mem_cons_of_mem _ hd)) r2 v2
            obtain ⟨i, rfl⟩ := h d List.mem_cons_self
            cases r1
            obtain ⟨t, rfl⟩ := v1
            exact ⟨i :: ns, .cons i t g⟩
    refine ⟨fun _ => false, fun x u d hr hv hd => ?_, fun us xs a h' tk v r h2 _ _ h'' _ => ?_⟩
    · obtain ⟨i, rfl⟩ := hi d hd
      cases hr
      obtain ⟨t, rfl⟩ := hv
      rfl
    obtain ⟨ns, hI⟩ := all hi r v
    refine ⟨oneType', fun Q E hq => ?_, fun p q hp hq' => ?_⟩
    · match us, hI, h2 with
      | v1 :: v2 :: rest, hI, _ =>
        rw [keyKind_ints hI]
        exact wpAny_pure hq
      | [], _, h => exact absurd h (by decide)
      | [v], _, h => exact absurd h (by simp)
    · obtain ⟨i, t, e1⟩ := SrtO.ints_mem hI _ hp
      obtain ⟨j, t', e2⟩ := SrtO.ints_mem hI _ hq'
      show wpAny _ _ (keyLt' oneType' p.1 q.1) (fun r s' => s' = _ ∧ r = ltK (kfV s.heap _ p.1) (kfV s.heap _ q.1)) _ _
      rw [e1, e2, keyLt'_oneType]
      refine oneLt_int ⟨rfl, ?_⟩
      refine Eq.trans ?_ (lt1 (.inl _) (.inl _)).symm
      rfl
  · have all : ∀ {ds : List PyData} {xs : List V} {us : List Value}, (∀ d ∈ ds, ∃ i, d = .str i) → RpAll X.ct U H xs ds → Vals xs us → ∃ ns, StrsAre us ns := by
      intro ds
      induction ds with
      | nil =>
        intro xs us _ r v
        cases r
        cases v
        exact ⟨[], .nil⟩
      | cons d ds ih =>
        intro xs us h r v
        cases r with
        | cons r1 r2 =>
          cases v with
          | cons v1 v2 =>
            obtain ⟨ns, g⟩ := ih (fun d hd => h d (List.mem_cons_of_mem _ hd)) r2 v2
            obtain ⟨i, rfl⟩ := h d List.mem_cons_self
            cases r1
            obtain ⟨t, rfl⟩ := v1
            exact ⟨i :: ns, .cons i t g⟩
    have mem : ∀ {us : List Value} {ns : List Str}, StrsAre us ns → ∀ u ∈ us, ∃ x t, u = Value.str x t := by
      intro us ns h
      induction h with
      | nil => intro u hu; cases hu
      | cons y t _ ih =>
        intro u hu
        rcases List.mem_cons.mp hu with rfl | hu
        · exact ⟨y, t, rfl⟩
        · exact ih u hu
    refine ⟨fun _ => false, fun x u d hr hv hd => ?_, fun us xs a h' tk v r h2 _ _ h'' _ => ?_⟩
    · obtain ⟨i, rfl⟩ := hs d hd
      cases hr
      obtain ⟨t, rfl⟩ := hv
      rfl
    obtain ⟨ns, hI⟩ := all hs r v
    refine ⟨oneType', fun Q E hq => ?_, fun p q hp hq' => ?_⟩
    · match us, hI, h2 with
      | v1 :: v2 :: rest, hI, _ =>
        rw [keyKind_strs hI]
        exact wpAny_pure hq
      | [], _, h => exact absurd h (by decide)
      | [v], _, h => exact absurd h (by simp)
    · obtain ⟨i, t, e1⟩ := mem hI _ hp
      obtain ⟨j, t', e2⟩ := mem hI _ hq'
      show wpAny _ _ (keyLt' oneType' p.1 q.1) (fun r s' => s' = _ ∧ r = ltK (kfV s.heap _ p.1) (kfV s.heap _ q.1)) _ _
      rw [e1, e2, keyLt'_oneType]
      refine oneLt_str ⟨rfl, ?_⟩
      refine Eq.trans ?_ (lt1 (.inr _) (.inr _)).symm
      rfl
  · have firsts : ∀ {ds : List PyData} {xs : List V} {us : List Value}, (∀ d ∈ ds, ∃ e es, d = .tuple (e :: es) ∧ flatSh sh 0 (e :: es) = true) → RpAll X.ct U H xs ds → Vals xs us → ∃ fs, TupsOf s.heap sh us fs ∧ fs.length = us.length ∧ ∀ u ∈ us, ∃ k, tupKey s.heap sh u = some k := by
      intro ds
      induction ds with
      | nil =>
        intro xs us _ r v
        cases r
        cases v
        exact ⟨[], .nil, rfl, fun _ h => nomatch h⟩
      | cons d ds ih =>
        intro xs us h r v
        cases r with
        | cons r1 r2 =>
          cases v with
          | cons v1 v2 =>
            obtain ⟨fs, g, gl, gk⟩ := ih (fun d hd => h d (List.mem_cons_of_mem _ hd)) r2 v2
            obtain ⟨e, es, rfl, hf⟩ := h d List.mem_cons_self
            obtain ⟨a, o, its, n, rfl, ho, hc, hd, hk⟩ := tup_at I r1 v1 hf
            have hk' : tupKey s.heap sh (.ref a) = some ((e :: es).map key1) := by simp [tupKey, ho, hd, hk]
            have key : ∃ f, its[0]? = some f ∧ (sh 0 = false → ∃ k t, f = .int k t) ∧ (sh 0 = true → ∃ x t, f = .str x t) := by
              cases hl : its.toList with
              | nil => rw [hl] at hk; simp [tupItems] at hk
              | cons f r =>
                have h0 : its[0]? = some f := by rw [← Array.getElem?_toList, hl]; rfl
                rw [hl] at hk
                refine ⟨f, h0, fun q => ?_, fun q => ?_⟩
                · obtain ⟨k, t, _, rfl, _⟩ := tupItems_int q hk
                  exact ⟨k, t, rfl⟩
                · obtain ⟨k, t, _, rfl, _⟩ := tupItems_str q hk
                  exact ⟨k, t, rfl⟩
            obtain ⟨f, f0, f1, f2⟩ := key
            refine ⟨f :: fs, .cons ⟨a, o, its, n, rfl, ho, hc, hd, f0, f1, f2⟩ g, by rw [List.length_cons, List.length_cons, gl], fun u hu => ?_⟩
            rcases List.mem_cons.mp hu with rfl | hu
            · exact ⟨_, hk'⟩
            · exact gk u hu
    refine ⟨sh, fun x u d hr hv hd => ?_, fun us xs a h' tk v r h2 kp na h'' k2 => ?_⟩
    · obtain ⟨e, es, rfl, hf⟩ := ht d hd
      obtain ⟨a, o, its, n, rfl, ho, hc, hd, hk⟩ := tup_at I hr hv hf
      exact kf_tup ho hd hk
    obtain ⟨fs, hT, hl, hk⟩ := firsts ht r v
    have kt : G.KeepsTups s.heap h'' := fun b o e _ => k2 b o (na b o e) (kp b o e)
    refine ⟨tuples' true, fun Q E hq => ?_, fun p q hp hq' => ?_⟩
    · exact tup_kind (s := { s with heap := h'', toks := tk }) (by rw [hl]; omega) (G.TupsOf.keep kt hT) hq
    · obtain ⟨as, h1⟩ := hk _ hp
      obtain ⟨bs, h3⟩ := hk _ hq'
      obtain ⟨a1, o1, xs1, n1, e1, q1, q2, q3⟩ := tupKey_some h1
      obtain ⟨a2, o2, xs2, n2, e2, r1, r2, r3⟩ := tupKey_some h3
      show wpAny _ _ (keyLt' (tuples' true) p.1 q.1) (fun r s' => s' = _ ∧ r = ltK (kfV s.heap sh p.1) (kfV s.heap sh q.1)) _ _
      have c1 : kfV s.heap sh p.1 = as := by rw [e1]; exact kf_tup q1 q2 q3
      have c2 : kfV s.heap sh q.1 = bs := by rw [e2]; exact kf_tup r1 r2 r3
      rw [c1, c2, e1, e2]
      exact PySem.W.kat_lt (s := { s with heap := h'', toks := tk }) (k2 _ _ (na _ _ q1) (kp _ _ q1)) q2 (k2 _ _ (na _ _ r1) (kp _ _ r1)) r2 (tup_lex xs1.toList xs2.toList 0 as bs q3 r3 (by rw [Array.length_toList, Array.length_toList]) ⟨rfl, rfl⟩)
/-- sorted(x) -/
def rrSorted (X : Cx) : List V → Hp → VK → Prop := fun xs H Q => ∃ a d ds U, xs = [.ref a] ∧ CollAt X U H a d ∧ elemsD d = some ds ∧ okSort ds ∧ ∀ ys, RpAll X.ct U H ys (sortD ds) → ys.length ≤ sizeLine → ∀ p, H p = none → Q (.ref p) (upd H p (.lst ys))
theorem call_sortedG (hc : X.calm = true) : CallR X (.builtin "sorted") (rrSorted X) := by
  intro pins s σ H xs us Q I r h
  obtain ⟨a, d, ds, U, rfl, hq, he, ok, q⟩ := h
  obtain ⟨u, rfl, ru⟩ := vals1 r
  cases ru
  obtain ⟨n, Pv, ys, hC, hn, hl, ry, hv⟩ := coll_of (A := X.A.in1) (I.ok.hd hc) I hq he
  obtain ⟨sh, hk, hS⟩ := srt_of (A := X.A.in1.in1) (U := U) I ok
  refine sorted_coll (swo_k (kfV s.heap sh)) hC hn (fun h' tk acc hacc kp h2 a' na nb => hS _ ys a' h' tk (hv acc hacc) ry h2 kp nb) fun h1 h' tk acc d' out hacc h3 h4 kp kp2 hd hn' => ?_
  obtain ⟨L, T⟩ := trips (hv acc hacc) ry
  -- the triples, sorted
  have O : SrtO.Swo fun x y : Trp => ltK (kfV s.heap sh x.1) (kfV s.heap sh y.1) := swo_k fun t : Trp => kfV s.heap sh t.1
  have hp := isort_perm (lt := fun x y : Trp => ltK (kfV s.heap sh x.1) (kfV s.heap sh y.1)) L
  have g1 := SrtO.srtd_map (f := fun t : Trp => t.1) (lt := fun x y => ltK (kfV s.heap sh x) (kfV s.heap sh y)) (isort_srtd O L)
  have g2 := SrtO.Stb.map (swo_k (kfV s.heap sh)) (fun t : Trp => t.1) (isort_stb O L)
  rw [T.u] at g2
  have uniq : out = (isort (fun x y : Trp => ltK (kfV s.heap sh x.1) (kfV s.heap sh y.1)) L).map fun t => t.1 := SrtO.stb_uniq (swo_k (kfV s.heap sh)) h3 g1 ⟨h4.perm.trans g2.perm.symm, fun x => (h4.cls x).trans (g2.cls x).symm⟩
  have kt : ∀ t ∈ L, kfV s.heap sh t.1 = keyD t.2.2 := fun t ht => hk _ _ _ (T.r t ht).2 (T.r t ht).1 (by rw [← T.d]; exact List.mem_map.mpr ⟨t, ht, rfl⟩)
  have hd3 : (isort (fun x y : Trp => ltK (kfV s.heap sh x.1) (kfV s.heap sh y.1)) L).map (fun t => t.2.2) = sortD ds := by
    rw [isort_map (lt' := ltD) (fun t : Trp => t.2.2) L fun x hx y hy => by rw [kt x hx, kt y hy]; rfl, T.d]
    rfl
  obtain ⟨b1, b2⟩ := trips_back (X := X) (U := U) (H := H) fun t (ht : t ∈ isort (fun x y : Trp => ltK (kfV s.heap sh x.1) (kfV s.heap sh y.1)) L) => T.r t (hp.mem_iff.mp ht)
  rw [hd3] at b2
  rw [← uniq] at b1
  have hlen : ((isort (fun x y : Trp => ltK (kfV s.heap sh x.1) (kfV s.heap sh y.1)) L).map fun t => t.2.1).length ≤ sizeLine := by
    rw [List.length_map, hp.length_eq]
    have := congrArg List.length T.x
    rw [List.length_map] at this
    rw [this, hl]
    exact hn
  obtain ⟨e, he'⟩ := hn'
  have I1 : Inv X pins σ H { s with heap := h1, toks := tk } := I.kept (t' := tk) kp
  exact ⟨.ref d', _, I1.laid (t' := tk) kp2 hd (show ObjOk X.prog X.w _ _ _ (.lst _) from ⟨hlen, out, e, b1, he'⟩), rfl, q _ b2 hlen _ (I1.hok.fresh hd)⟩
def sSorted : SA
  | [.d d], q => ∃ ds, elemsD d = some ds ∧ okSort ds ∧ q (.d (.list (sortD ds)))
  | _, _ => False
theorem br_sorted : BrA X (rrSorted X) sSorted := by
  intro P O Z env σ H xs vs qz Q l px hs k
  unfold sSorted at hs
  split at hs
  · obtain ⟨ds, e, ok, hs⟩ := hs
    obtain ⟨x, rfl, h⟩ := px.one
    rename_i d
    have hx : ∃ a, x = .ref a ∧ CollAt X (UU P O Z) H a d := by
      cases d with
      | list ds =>
        obtain ⟨a, us, rfl, h1, z1, r1⟩ := h.lst l
        exact ⟨a, rfl, us, .of h1, r1⟩
      | tuple ds =>
        obtain ⟨a, us, rfl, h1, z1, r1, _⟩ := h.tup l
        exact ⟨a, rfl, us, h1, r1⟩
      | dict ds => exact h.dctAt l
      | _ => cases e
    obtain ⟨a, rfl, hx⟩ := hx
    exact ⟨a, _, ds, _, rfl, hx, e, ok, fun ys ry yl p hp => k _ hs Z _ _ (stp_new hp) (l.new hp) (mk_lst l ry yl hp)⟩
  · exact hs.elim
theorem re_sorted {e : Expr} {es : List Expr} {rs : RA1} {p pos : Pos} (hc : X.calm = true) (hg : Gl X "sorted") (hm : X.mg "sorted" = none) (ha : RAB X (e :: es) rs) (h : PE X (.Call (.Name "sorted" p) (e :: es) [] pos) (tCB (rrSorted X) (tRAB X.ct rs)) := by exact pe_callB (call_sortedG (by assumption)) (by assumption) (by assumption) boot_sorted ha.h) : RE X (.Call (.Name "sorted" p) (e :: es) [] pos) (rBi sSorted rs) :=
  re_callB (call_sortedG hc) br_sorted hg hm boot_sorted ha (h := h)
end
end R
/-! The pure layer, part 15: the drawing source. -/
namespace R
open PySem PySem.Spec PyProof.Rows L2
abbrev gD (x : Str) : TE := tDGet (tVar 0) (tC (.str x))
abbrev tI (i : Int) : TE := tC (.int i)
abbrev rGtI : R2 := rI0 fun i j => .bl (decide (j < i))
abbrev rAddI : R2 := rI0 fun i j => .int (i + j)
abbrev rMulI : R2 := rI CMul fun i j => .int (i * j)
abbrev rModI : R2 := rI (fun _ j => 0 < j) fun i j => .int (i % j)
abbrev rDivI : R2 := rI CDiv fun i j => .int (i / j)
abbrev rLtI : R2 := rI0 fun i j => .bl (decide (i < j))
abbrev cLen (K : PySem.W.Frag) (t : TE) : TE := tCB (fun xs H Q => ∃ x n, xs = [x] ∧ LenV K x H n ∧ Q (.int n) H) (tCons t tNil)
abbrev cMax (t u : TE) : TE := tCB (fun xs H Q => ∃ i j, xs = [.int i, .int j] ∧ Q (.int (if j > i then j else i)) H) (tCons t (tCons u tNil))
abbrev cInt (t : TE) : TE := tCB (fun xs H Q => (∃ i, xs = [.int i] ∧ Q (.int i) H) ∨ ∃ k, xs = [.bl k] ∧ Q (.int (if k then 1 else 0)) H) (tCons t tNil)
abbrev pD (x : Str) (t : TE) : TS := sDPut (tVar 0) (tC (.str x)) t
def tPick (K : PySem.W.Frag) : TS :=
  tSeq (tWhile (tAnd (tTest (tOp rGtI (tVar 1) (tI 1))) (tAnd (tTest (tOp rLtI (gD "left") (tI 2))) (tTest (tOp rGtI (cLen K (gD "cells")) (tI 0))))) (pD "left" (tBM0 K "list" rPop (gD "cells"))))
  (tSeq (tAsg (gD "left") (gName 2))
  (tSeq (tIfS (tOr (tTest (tOp rLtI (tVar 1) (tI 2))) (tTest (tOp rGtI (tVar 2) (tI 1))))
    (tSeq (pD "left" (tOp rDivI (tVar 2) (cMax (tI 1) (tVar 1)))) (tRet (tOp rModI (cInt (tVar 2)) (cMax (tI 1) (tVar 1))))) tNext)
  (tSeq (pD "turn" (tOp rAddI (gD "turn") (tI 1)))
  (tSeq (tAsg (tOp rModI (cInt (tOp rAddI (gD "mixed") (tOp rMulI (gD "turn") (tI 104729)))) (tI 998244353)) (gName 3))
  (tSeq (tAsg (tOp rModI (cInt (tOp rAddI (tOp rMulI (tVar 3) (tVar 3)) (tOp rMulI (gD "turn") (tI 17)))) (tI 2147483647)) (gName 3))
  (tSeq (pD "mixed" (tVar 3))
  (tRet (tOp rModI (cInt (tOp rDivI (tVar 3) (tI 16))) (tVar 1)))))))))
abbrev rngK (l : Addr) (lf mx tn : Int) : List (Key × V) := [(.inr "cells", .ref l), (.inr "left", .int lf), (.inr "mixed", .int mx), (.inr "turn", .int tn)]
section
variable {l : Addr} {lf mx tn j : Int}
theorem g_cells : valV (rngK l lf mx tn) (.inr "cells") = some (.ref l) := by rfl
theorem g_left : valV (rngK l lf mx tn) (.inr "left") = some (.int lf) := by rfl
theorem g_mixed : valV (rngK l lf mx tn) (.inr "mixed") = some (.int mx) := by rfl
theorem g_turn : valV (rngK l lf mx tn) (.inr "turn") = some (.int tn) := by rfl
theorem p_left : putK (rngK l lf mx tn) (.inr "left") (.int j) = rngK l j mx tn := by rfl
theorem p_mixed : putK (rngK l lf mx tn) (.inr "mixed") (.int j) = rngK l lf j tn := by rfl
theorem p_turn : putK (rngK l lf mx tn) (.inr "turn") (.int j) = rngK l lf mx j := by rfl
end
/-- the source as it stands, all else as it was -/
structure Rs (z : Rng) (H0 H : Hp) (cs : List Int) (lf mx tn : Int) : Prop where
  a : H z.a = some (.dK (rngK z.l lf mx tn))
  l : H z.l = some (.lst (cs.map V.int))
  n : z.a ≠ z.l
  lf0 : 0 ≤ lf
  cs0 : ∀ c ∈ cs, 0 ≤ c
  mx0 : 0 ≤ mx
  mx1 : mx < 2147483647
  tn0 : 0 ≤ tn
  oth : ∀ b, b ≠ z.a → b ≠ z.l → H b = H0 b
section
variable {z : Rng} {H0 H : Hp} {cs : List Int} {lf mx tn j : Int} {σ : L2.St} {Q : VK} {K : PySem.W.Frag} {D : Ends}
theorem Rs.setA (r : Rs z H0 H cs lf mx tn) {lf' mx' tn' : Int} (h1 : 0 ≤ lf') (h2 : 0 ≤ mx') (h3 : mx' < 2147483647) (h4 : 0 ≤ tn') : Rs z H0 (upd H z.a (.dK (rngK z.l lf' mx' tn'))) cs lf' mx' tn' :=
  ⟨upd_same, by rw [upd_ne (Ne.symm r.n)]; exact r.l, r.n, h1, r.cs0, h2, h3, h4, fun b b1 b2 => by rw [upd_ne b1]; exact r.oth b b1 b2⟩
theorem Rs.setL (r : Rs z H0 H cs lf mx tn) {cs' : List Int} (h : ∀ c ∈ cs', 0 ≤ c) : Rs z H0 (upd H z.l (.lst (cs'.map V.int))) cs' lf mx tn :=
  ⟨by rw [upd_ne r.n]; exact r.a, upd_same, r.n, r.lf0, h, r.mx0, r.mx1, r.tn0, fun b b1 b2 => by rw [upd_ne b2]; exact r.oth b b1 b2⟩
theorem Rs.gL (r : Rs z H0 H cs lf mx tn) (h0 : σ[0]? = some (some (.ref z.a))) (q : Q (.int lf) H) : gD "left" σ H Q := ⟨_, h0, z.a, _, rfl, by rw [← g_left (l := z.l) (lf := lf) (mx := mx) (tn := tn)]; exact DGet.k (k := .inr "left") r.a, q⟩
theorem Rs.gC (r : Rs z H0 H cs lf mx tn) (h0 : σ[0]? = some (some (.ref z.a))) (q : Q (.ref z.l) H) : gD "cells" σ H Q := ⟨_, h0, z.a, _, rfl, by rw [← g_cells (l := z.l) (lf := lf) (mx := mx) (tn := tn)]; exact DGet.k (k := .inr "cells") r.a, q⟩
theorem Rs.gM (r : Rs z H0 H cs lf mx tn) (h0 : σ[0]? = some (some (.ref z.a))) (q : Q (.int mx) H) : gD "mixed" σ H Q := ⟨_, h0, z.a, _, rfl, by rw [← g_mixed (l := z.l) (lf := lf) (mx := mx) (tn := tn)]; exact DGet.k (k := .inr "mixed") r.a, q⟩
theorem Rs.gT (r : Rs z H0 H cs lf mx tn) (h0 : σ[0]? = some (some (.ref z.a))) (q : Q (.int tn) H) : gD "turn" σ H Q := ⟨_, h0, z.a, _, rfl, by rw [← g_turn (l := z.l) (lf := lf) (mx := mx) (tn := tn)]; exact DGet.k (k := .inr "turn") r.a, q⟩
theorem Rs.pL (r : Rs z H0 H cs lf mx tn) (h0 : σ[0]? = some (some (.ref z.a))) (q : D.nx σ (upd H z.a (.dK (rngK z.l j mx tn)))) : ∃ v, σ[0]? = some (some v) ∧ ∃ a H4, v = .ref a ∧ DPut H a (.str "left") (.int j) H4 ∧ D.nx σ H4 :=
  ⟨_, h0, z.a, _, rfl, DPut.k (k := .inr "left") r.a (show 4 < sizeLine by decide), by rw [p_left]; exact q⟩
theorem Rs.pM (r : Rs z H0 H cs lf mx tn) (h0 : σ[0]? = some (some (.ref z.a))) (q : D.nx σ (upd H z.a (.dK (rngK z.l lf j tn)))) : ∃ v, σ[0]? = some (some v) ∧ ∃ a H4, v = .ref a ∧ DPut H a (.str "mixed") (.int j) H4 ∧ D.nx σ H4 :=
  ⟨_, h0, z.a, _, rfl, DPut.k (k := .inr "mixed") r.a (show 4 < sizeLine by decide), by rw [p_mixed]; exact q⟩
theorem Rs.pT (r : Rs z H0 H cs lf mx tn) (h0 : σ[0]? = some (some (.ref z.a))) (q : D.nx σ (upd H z.a (.dK (rngK z.l lf mx j)))) : ∃ v, σ[0]? = some (some v) ∧ ∃ a H4, v = .ref a ∧ DPut H a (.str "turn") (.int j) H4 ∧ D.nx σ H4 :=
  ⟨_, h0, z.a, _, rfl, DPut.k (k := .inr "turn") r.a (show 4 < sizeLine by decide), by rw [p_turn]; exact q⟩
def max1 (many : Int) : Int := if many > 1 then many else 1
theorem tPick_ok {many : Int} (r : Rs z H0 H cs lf mx tn) (hm : many < 1073741824) (q : ∀ (v : Int) (H' : Hp) (cs' : List Int) (lf' mx' tn' : Int), 0 ≤ v → v < max1 many → Rs z H0 H' cs' lf' mx' tn' → Q (.int v) H') (E : L2.St → Hp → Prop) :
    tPick K { nx := E, rt := Q } [some (.ref z.a), some (.int many), none, none] H := by
  have mp : 0 < max1 many := by unfold max1; split <;> omega
  have ml : max1 many < 1073741824 := by unfold max1; split <;> omega
  refine ⟨fun m σ H' => σ = [some (.ref z.a), some (.int many), none, none] ∧ ∃ cs' lf', cs'.length = m ∧ Rs z H0 H' cs' lf' mx tn, ⟨cs.length, rfl, cs, lf, rfl, r⟩, ?_⟩
  rintro m σ H1 ⟨rfl, cs1, lf1, hl, r1⟩
  -- the test
  have exit : ∀ H1 : Hp, ∀ cs1 lf1, Rs z H0 H1 cs1 lf1 mx tn → (tSeq (tAsg (gD "left") (gName 2))
      (tSeq (tIfS (tOr (tTest (tOp rLtI (tVar 1) (tI 2))) (tTest (tOp rGtI (tVar 2) (tI 1))))
        (tSeq (pD "left" (tOp rDivI (tVar 2) (cMax (tI 1) (tVar 1)))) (tRet (tOp rModI (cInt (tVar 2)) (cMax (tI 1) (tVar 1))))) tNext)
      (tSeq (pD "turn" (tOp rAddI (gD "turn") (tI 1)))
      (tSeq (tAsg (tOp rModI (cInt (tOp rAddI (gD "mixed") (tOp rMulI (gD "turn") (tI 104729)))) (tI 998244353)) (gName 3))
      (tSeq (tAsg (tOp rModI (cInt (tOp rAddI (tOp rMulI (tVar 3) (tVar 3)) (tOp rMulI (gD "turn") (tI 17)))) (tI 2147483647)) (gName 3))
      (tSeq (pD "mixed" (tVar 3))
      (tRet (tOp rModI (cInt (tOp rDivI (tVar 3) (tI 16))) (tVar 1))))))))) { nx := E, rt := Q } [some (.ref z.a), some (.int many), none, none] H1 := by
    intro H1 cs1 lf1 r1
    refine r1.gL rfl ?_
    have tail : ¬ many < 2 → (tSeq (pD "turn" (tOp rAddI (gD "turn") (tI 1)))
      (tSeq (tAsg (tOp rModI (cInt (tOp rAddI (gD "mixed") (tOp rMulI (gD "turn") (tI 104729)))) (tI 998244353)) (gName 3))
      (tSeq (tAsg (tOp rModI (cInt (tOp rAddI (tOp rMulI (tVar 3) (tVar 3)) (tOp rMulI (gD "turn") (tI 17)))) (tI 2147483647)) (gName 3))
      (tSeq (pD "mixed" (tVar 3))
      (tRet (tOp rModI (cInt (tOp rDivI (tVar 3) (tI 16))) (tVar 1))))))) { nx := E, rt := Q } [some (.ref z.a), some (.int many), some (.int lf1), none] H1 := by
      intro h2
      have e1 : max1 many = many := by unfold max1; rw [if_pos (by omega)]
      refine r1.gT rfl ⟨tn, 1, rfl, rfl, r1.pT rfl ?_⟩
      have r2 := r1.setA (lf' := lf1) (mx' := mx) (tn' := tn + 1) r1.lf0 r1.mx0 r1.mx1 (by have := r1.tn0; omega)
      refine r2.gM rfl (r2.gT rfl ⟨tn + 1, 104729, rfl, rfl, .inr ⟨by decide, by decide⟩, mx, (tn + 1) * 104729, rfl, rfl, .inl ⟨_, rfl, _, 998244353, rfl, rfl, (by show (0 : Int) < 998244353; decide), ?_⟩⟩)
      have a0 : 0 ≤ (mx + (tn + 1) * 104729) % 998244353 := Int.emod_nonneg _ (by decide)
      have a1 : (mx + (tn + 1) * 104729) % 998244353 < 998244353 := Int.emod_lt_of_pos _ (by decide)
      refine ⟨.int ((mx + (tn + 1) * 104729) % 998244353), rfl, .int ((mx + (tn + 1) * 104729) % 998244353), rfl, _, _, rfl, rfl, .inl ⟨by omega, by omega⟩, ?_⟩
      generalize (mx + (tn + 1) * 104729) % 998244353 = A
      refine r2.gT rfl ⟨tn + 1, 17, rfl, rfl, .inr ⟨by decide, by decide⟩, A * A, (tn + 1) * 17, rfl, rfl, .inl ⟨_, rfl, _, 2147483647, rfl, rfl, (by show (0 : Int) < 2147483647; decide), ?_⟩⟩
      have b0 : 0 ≤ (A * A + (tn + 1) * 17) % 2147483647 := Int.emod_nonneg _ (by decide)
      have b1 : (A * A + (tn + 1) * 17) % 2147483647 < 2147483647 := Int.emod_lt_of_pos _ (by decide)
      refine ⟨.int ((A * A + (tn + 1) * 17) % 2147483647), rfl, r2.pM rfl ?_⟩
      have r3 := r2.setA (lf' := lf1) (mx' := (A * A + (tn + 1) * 17) % 2147483647) (tn' := tn + 1) r1.lf0 b0 b1 (by have := r1.tn0; omega)
      refine ⟨.int ((A * A + (tn + 1) * 17) % 2147483647), rfl, _, 16, rfl, rfl, ⟨by decide, by decide⟩, .inl ⟨_, rfl, .int many, rfl, _, many, rfl, rfl, (by show 0 < many; omega), ?_⟩⟩
      refine q _ _ _ _ _ _ (Int.emod_nonneg _ (by omega)) ?_ r3
      rw [e1]
      exact Int.emod_lt_of_pos _ (by omega)
    have back : (tSeq (pD "left" (tOp rDivI (tVar 2) (cMax (tI 1) (tVar 1)))) (tRet (tOp rModI (cInt (tVar 2)) (cMax (tI 1) (tVar 1))))) { nx := E, rt := Q } [some (.ref z.a), some (.int many), some (.int lf1), none] H1 := by
      have hd : 0 ≤ lf1 / max1 many := Int.ediv_nonneg r1.lf0 (by omega)
      refine ⟨.int lf1, rfl, .int many, rfl, 1, many, rfl, lf1, max1 many, rfl, rfl, ⟨mp, ml⟩, r1.pL rfl ?_⟩
      have r2 := r1.setA (lf' := lf1 / max1 many) (mx' := mx) (tn' := tn) hd r1.mx0 r1.mx1 r1.tn0
      refine ⟨.int lf1, rfl, .inl ⟨_, rfl, .int many, rfl, 1, many, rfl, lf1, max1 many, rfl, rfl, mp, ?_⟩⟩
      exact q _ _ _ _ _ _ (Int.emod_nonneg _ (by omega)) (Int.emod_lt_of_pos _ mp) r2
    refine ⟨.int many, rfl, many, 2, rfl, rfl, _, rfl, ?_⟩
    by_cases h2 : many < 2
    · rw [decide_eq_true h2]
      exact back
    · rw [decide_eq_false h2]
      refine ⟨.int lf1, rfl, lf1, 1, rfl, rfl, _, rfl, ?_⟩
      by_cases h3 : 1 < lf1
      · rw [decide_eq_true h3]
        exact back
      · rw [decide_eq_false h3]
        exact tail h2
  refine ⟨.int many, rfl, many, 1, rfl, rfl, _, rfl, ?_⟩
  by_cases h1 : 1 < many
  · rw [decide_eq_true h1]
    refine r1.gL rfl ⟨lf1, 2, rfl, rfl, _, rfl, ?_⟩
    by_cases h2 : lf1 < 2
    · rw [decide_eq_true h2]
      refine r1.gC rfl ⟨.ref z.l, _, rfl, .inl ⟨_, .of r1.l, rfl⟩, _, 0, rfl, rfl, _, rfl, ?_⟩
      rcases List.eq_nil_or_concat cs1 with e | ⟨cs2, c, e⟩
      · subst e
        exact exit _ _ _ r1
      · rw [List.concat_eq_append] at e
        subst e
        have h3 : (0 : Int) < (((cs2 ++ [c]).map V.int).length : Int) := by simp
        rw [decide_eq_true h3]
        refine ⟨_, fun _ _ x => x, ?_⟩
        refine r1.gC rfl ⟨.inl ⟨rfl, _, .of r1.l⟩, z.l, _, .int c, rfl, rfl, r1.l, by simp, ?_⟩
        have ed : ((cs2 ++ [c]).map V.int).dropLast = cs2.map V.int := by simp
        rw [ed]
        have r2 := r1.setL (cs' := cs2) fun x hx => r1.cs0 x (List.mem_append_left _ hx)
        refine r2.pL rfl ?_
        have r3 := r2.setA (lf' := c) (mx' := mx) (tn' := tn) (r1.cs0 c (by simp)) r1.mx0 r1.mx1 r1.tn0
        exact ⟨cs2.length, by rw [← hl]; simp, rfl, cs2, c, rfl, r3⟩
    · rw [decide_eq_false h2]
      exact exit _ _ _ r1
  · rw [decide_eq_false h1]
    exact exit _ _ _ r1
end
end R
/-! The pure layer, part 16: the drawing source's two defs. -/
namespace R
open PySem PySem.Spec PyProof.Rows L2
abbrev cAbs (t : TE) : TE := tCB (fun xs H Q => ∃ i, xs = [.int i] ∧ Q (.int (if i < 0 then -i else i)) H) (tCons t tNil)
def tSource (K : PySem.W.Frag) : TS :=
  tSeq (tAsg (tI 11) (gName 1))
  (tSeq (tFor (iSeq K (tVar 0)) (gName 2) (tAsg (tOp rModI (cInt (tOp rAddI (tOp rAddI (tOp rMulI (tVar 1) (tI 69069)) (tOp rMulI (tVar 2) (tI 31))) (tI 5))) (tI 2147483629)) (gName 1)))
  (tRet (tDisp [(tC (.str "cells"), tRevL K (tLc (iSeq K (tVar 0)) (gName 2) (fun _ H Q => Q true H) (cAbs (tVar 2)) [2])), (tC (.str "left"), tI 1), (tC (.str "mixed"), tVar 1), (tC (.str "turn"), tI 0)])))
/-- the promises -/
def cPick : Spec := fun args q => ∃ (i : Nat) (many : Int), args = [.src i, .d (.int many)] ∧ many < 1073741824 ∧ ∀ v : Int, 0 ≤ v → v < max1 many → q (.d (.int v))
def cSource : Spec := fun args q => args = [.scr] ∧ ∀ i, q (.src i)
abbrev NP : List Str := ["source", "many", "left", "mixed"]
abbrev NS : List Str := ["script", "mixed", "cell"]
theorem pick_law {K : Ct} {vs : List V} {H : Hp} {Q : VK} {E : XK} (h : spR K 2 cPick vs H Q E) : tPick K.K { nx := fun _ H' => Q .non H', rt := Q } (start NP vs) H := by
  obtain ⟨P, Z, args, q, hn, hp, g, ra, ⟨i, many, rfl, hm, hq⟩, hk⟩ := h
  cases ra with
  | cons r1 r2 =>
    cases r2 with
    | cons r2 r3 =>
      cases r3
      obtain ⟨z, hz, rfl⟩ := r1
      cases r2
      have hzm : z ∈ Z := List.mem_of_getElem? hz
      obtain ⟨⟨zn, cs, lf, mx, tn, h1, h2, b1, b2, b3, b4, b5⟩, np1, np2⟩ := g.1 z hzm
      have r0 : Rs z H H cs lf mx tn := ⟨h1, h2, zn, b1, b2, b3, b4, b5, fun _ _ _ => rfl⟩
      refine tPick_ok r0 hm (fun v H' cs' lf' mx' tn' v0 v1 r => ?_) _
      have keep : ∀ b o, H b = some o → ¬ (b = z.a ∨ b = z.l) → H' b = some o := fun b o e n => by
        rw [r.oth b (fun q => n (.inl q)) (fun q => n (.inr q))]; exact e
      have st : Stp [] Z H Z H' := by
        refine ⟨fun b o e _ nz => keep b o e fun q => nz ⟨z, hzm, q⟩, ⟨[], by simp, by simp⟩, fun b n => ?_⟩
        by_cases q1 : b = z.a
        · rw [q1, r.a]; simp
        · by_cases q2 : b = z.l
          · rw [q2, r.l]; simp
          · rw [r.oth b q1 q2]; exact n
      refine hk _ (hq v v0 v1) Z H' _ st ⟨fun y hy => ?_, g.2⟩ (.int v)
      refine ⟨?_, (g.1 y hy).2⟩
      by_cases e : y = z
      · subst e
        exact ⟨r.n, cs', lf', mx', tn', r.a, r.l, r.lf0, r.cs0, r.mx0, r.mx1, r.tn0⟩
      · have dis : y.a ≠ z.a ∧ y.a ≠ z.l ∧ y.l ≠ z.a ∧ y.l ≠ z.l := by
          obtain ⟨j, hj⟩ := List.mem_iff_getElem?.mp hy
          have hj' := List.getElem?_eq_some_iff.mp hj
          have hi' := List.getElem?_eq_some_iff.mp hz
          obtain ⟨lj, ej⟩ := hj'
          obtain ⟨li, ei⟩ := hi'
          rcases Nat.lt_trichotomy j i with c | c | c
          · have := List.pairwise_iff_getElem.mp g.2 j i lj li c
            rw [ej, ei] at this
            exact this
          · subst c
            exact absurd (ej.symm.trans ei) e
          · have := List.pairwise_iff_getElem.mp g.2 i j li lj c
            rw [ej, ei] at this
            exact ⟨fun q => this.1 q.symm, fun q => this.2.2.1 q.symm, fun q => this.2.1 q.symm, fun q => this.2.2.2 q.symm⟩
        exact (g.1 y hy).1.keep fun b o eb q => keep b o eb fun w => by
          rcases q with rfl | rfl
          · rcases w with w | w
            · exact dis.1 w
            · exact dis.2.1 w
          · rcases w with w | w
            · exact dis.2.2.1 w
            · exact dis.2.2.2 w
theorem sql_grow {K : PySem.W.Frag} {H H' : Hp} {a : Addr} {xs : List V} (h : SqL K H a xs) (k : ∀ o, H a = some o → H' a = some o) : SqL K H' a xs := by
  rcases h with (h | ⟨o, h⟩) | h
  · exact .inl (.inl (k _ h))
  · exact .inl (.inr ⟨o, k _ h⟩)
  · exact .inr h
theorem tSource_ok {K : PySem.W.Frag} {H : Hp} {a : Addr} {ns : List Int} {Q : VK} (hS : SqL K H a (ns.map V.int)) (hl : ns.length ≤ 63) (E : L2.St → Hp → Prop)
    (q : ∀ (H' : Hp) (z : Rng) (cs : List Int) (mx : Int), (∀ b o, H b = some o → H' b = some o) → H z.a = none → H z.l = none → z.a ≠ z.l → H' z.a = some (.dK (rngK z.l 1 mx 0)) → H' z.l = some (.lst (cs.map V.int)) → (∀ c ∈ cs, 0 ≤ c) → 0 ≤ mx → mx < 2147483647 → Q (.ref z.a) H') :
    tSource K { nx := E, rt := Q } [some (.ref a), none, none] H := by
  have hln : (ns.map V.int).length ≤ sizeLine := by rw [List.length_map, sizeLine_eq]; omega
  refine ⟨_, rfl, .inl ⟨a, _, rfl, hS, ?_⟩⟩
  refine for_it (walk_list (xs := ns.map V.int)) (fun i σ H' => H' = H ∧ ∃ (mx : Int) (c : Option V), σ = [some (.ref a), some (.int mx), c] ∧ 0 ≤ mx ∧ mx < 2147483647) ⟨rfl, 11, none, rfl, by decide, by decide⟩ ?_ ?_ ?_
  · rintro i σ H' hi ⟨rfl, _⟩
    exact hS
  · rintro i x σ H1 H2 hi ⟨rfl, mx, c, rfl, m0, m1⟩ ⟨rfl, y⟩
    rw [List.getElem?_map] at y
    obtain ⟨n, _, rfl⟩ := Option.map_eq_some_iff.mp y
    refine ⟨.int mx, rfl, mx, 69069, rfl, rfl, .inr ⟨by decide, by decide⟩, .int n, rfl, n, 31, rfl, rfl, .inr ⟨by decide, by decide⟩, mx * 69069, n * 31, rfl, rfl, mx * 69069 + n * 31, 5, rfl, rfl, .inl ⟨_, rfl, _, 2147483629, rfl, rfl, (by show (0 : Int) < 2147483629; decide), ?_⟩⟩
    exact ⟨rfl, (mx * 69069 + n * 31 + 5) % 2147483629, some (.int n), rfl, Int.emod_nonneg _ (by decide), Int.lt_trans (Int.emod_lt_of_pos _ (by decide)) (by decide)⟩
  · rintro σ H' ⟨rfl, mx, c, rfl, m0, m1⟩
    intro p hp
    have k1 : ∀ b o, H' b = some o → upd H' p (.dK []) b = some o := fun b o e => by rw [upd_ne (ne_of_none e hp)]; exact e
    refine ⟨_, rfl, .inl ⟨a, _, rfl, sql_grow hS (k1 a), ?_⟩⟩
    intro D hD
    have pD : p ≠ D := fun e => by rw [← e, upd_same] at hD; cases hD
    have hD0 : H' D = none := by rw [upd_ne (Ne.symm pD)] at hD; exact hD
    refine lc_it (g := gName 2) (tt := fun _ H Q => Q true H) (te := cAbs (tVar 2)) (vs := [2]) (D := D) (σ := [some (.ref a), some (.int mx), c]) (walk_list (K := K) (a := a) (xs := ns.map V.int)) (fun i H2 => ∃ cs : List Int, H2 = upd (upd H' p (.dK [])) D (.lst (cs.map V.int)) ∧ cs.length = i ∧ ∀ c ∈ cs, 0 ≤ c) ⟨[], rfl, rfl, by simp⟩ ?_ ?_ ?_
    · rintro i H2 hi ⟨cs, rfl, _⟩
      exact sql_grow hS fun o e => by rw [upd_ne (ne_of_none (k1 a o e) hD)]; exact k1 a o e
    · rintro i x H2 H3 hi ⟨cs, rfl, hcl, hc⟩ ⟨rfl, y⟩
      rw [List.getElem?_map] at y
      obtain ⟨n, _, rfl⟩ := Option.map_eq_some_iff.mp y
      refine ⟨rfl, ?_⟩
      refine ⟨.int n, rfl, n, rfl, cs.map V.int, upd_same, by rw [List.length_map, hcl]; omega, cs ++ [if n < 0 then -n else n], ?_, by simp [hcl], ?_⟩
      · rw [upd_upd]
        simp
      · intro c hcm
        rcases List.mem_append.mp hcm with h | h
        · exact hc c h
        · have : c = if n < 0 then -n else n := by simpa using h
          rw [this]
          split <;> omega
    · rintro H2 ⟨cs, rfl, hcl, hc⟩
      refine ⟨D, cs.map V.int, rfl, .of upd_same, fun L hL => ?_⟩
      have pL : p ≠ L := fun e => by rw [← e, upd_ne pD, upd_same] at hL; cases hL
      have DL : D ≠ L := fun e => by rw [← e, upd_same] at hL; cases hL
      refine ⟨_, rfl, ?_⟩
      refine ⟨by rw [upd_ne pL, upd_ne pD, upd_same], [(.inr "cells", .ref L), (.inr "left", .int 1), (.inr "mixed", .int mx), (.inr "turn", .int 0)], rfl, by show 4 ≤ 15; decide, ?_⟩
      have em : mergeK ([] : List (Key × V)) [(.inr "cells", .ref L), (.inr "left", .int 1), (.inr "mixed", .int mx), (.inr "turn", .int 0)] = rngK L 1 mx 0 := by rfl
      rw [em]
      have hL0 : H' L = none := by rw [upd_ne (Ne.symm DL), upd_ne (Ne.symm pL)] at hL; exact hL
      refine q _ ⟨p, L⟩ cs.reverse mx (fun b o e => ?_) hp hL0 pL upd_same ?_ (fun c h => hc c (List.mem_reverse.mp h)) m0 m1
      · rw [upd_ne (ne_of_none e hp), upd_ne (ne_of_none e hL0), upd_ne (ne_of_none e hD0)]
        exact k1 b o e
      · rw [upd_ne (Ne.symm pL), upd_same, List.map_reverse]
theorem source_law {K : Ct} {vs : List V} {H : Hp} {Q : VK} {E : XK} (h : spR K 1 cSource vs H Q E) : tSource K.K { nx := fun _ H' => Q .non H', rt := Q } (start NS vs) H := by
  obtain ⟨P, Z, args, q, hn, hp, g, ra, ⟨rfl, hq⟩, hk⟩ := h
  cases ra with
  | cons r1 r2 =>
    cases r2
    obtain ⟨a, ns, rfl, hs, hl⟩ := r1
    have hS : SqL K.K H a (ns.map V.int) := by
      rcases hs with h | h
      · exact .inl h.2
      · exact h H
    refine tSource_ok hS hl _ fun H' z cs mx k z1 z2 zn h1 h2 h3 h4 h5 => ?_
    have st : Stp [] Z H (Z ++ [z]) H' := ⟨fun b o e _ _ => k b o e, ⟨[z], rfl, fun y hy => by
      have : y = z := by simpa using hy
      rw [this]; exact ⟨z1, z2⟩⟩, fun b n => by
      cases e : H b with
      | none => exact absurd e n
      | some o => rw [k b o e]; simp⟩
    have inH : ∀ y ∈ Z, H y.a ≠ none ∧ H y.l ≠ none := fun y hy => by
      obtain ⟨⟨_, cs, lf, mx, tn, e1, e2, _⟩, _⟩ := g.1 y hy
      rw [e1, e2]; simp
    refine hk _ (hq Z.length) (Z ++ [z]) H' _ st ⟨fun y hy => ?_, ?_⟩ ⟨z, by simp, rfl⟩
    · rcases List.mem_append.mp hy with hy | hy
      · exact ⟨(g.1 y hy).1.keep fun b o e _ => k b o e, (g.1 y hy).2⟩
      · have : y = z := by simpa using hy
        subst this
        exact ⟨⟨zn, cs, 1, mx, 0, h1, h2, by decide, h3, h4, h5, by decide⟩, fun w => hp _ w z1, fun w => hp _ w z2⟩
    · refine List.pairwise_append.mpr ⟨g.2, by simp, fun y hy x hx => ?_⟩
      have : x = z := by simpa using hx
      subst this
      obtain ⟨i1, i2⟩ := inH y hy
      exact ⟨fun e => i1 (by rw [e]; exact z1), fun e => i1 (by rw [e]; exact z2), fun e => i2 (by rw [e]; exact z1), fun e => i2 (by rw [e]; exact z2)⟩
end R
/-! The pure layer, part 17: defs as callees; the forms that are printed. -/
namespace R
open PySem PySem.Spec PyProof.Rows L2
/-- a def that keeps a promise, as it is called -/
structure Cal (P : Program) (w : World) (K : PySem.W.Frag) (mg : Str → Option Value) (base : Heap) (k : Nat) (x : Str) (ps : List Str) (C : Spec) : Prop where
  ex : ∃ f fd, FnOk P w K mg base CX0 k f fd ps (spR ⟨K, P, w⟩ ps.length C) ∧ mg x = some (.ref f) ∧ PySem.W.keepIn K (.ref f) = true ∧ Binds K fd ps []
/-- the def's object -/
def DefAt (K : PySem.W.Frag) (mg : Str → Option Value) (x : Str) (params : Arguments) (body : List Stmt) (scope : Scope) : Prop := ∃ f fd, FunD K x x params body scope [] [] f fd ∧ mg x = some (.ref f)
/-- what a body of such a derivation does -/
def semC (N : List Str) (r : RS1) : Spec := fun args q => r (stE N args) { nx := fun _ => q (.d .none), rt := q }
/-- how the arguments are bound -/
def BindOk (x : Str) (params : Arguments) (body : List Stmt) (scope : Scope) (ps : List Str) : Prop := ∀ (kV doc pm : Value) (an : Option Addr) (cdv ct : Value) (us : List Value), us.length = ps.length → bindArgs (PySem.W.fnOf x x params body scope .none kV doc pm an cdv ct) ⟨us, []⟩ = pure (ps.zip us)
section
variable {P : Program} {w : World} {K : PySem.W.Frag} {mg : Str → Option Value} {base : Heap} {x : Str} {params : Arguments} {body : List Stmt} {scope : Scope} {N ps : List Str} {k : Nat}
abbrev XF (P : Program) (w : World) (K : PySem.W.Frag) (mg : Str → Option Value) (base : Heap) (N : List Str) (x : Str) (scope : Scope) (f : Addr) (cdv : Value) (A : Around) (outer : List PySem.Env) (s : Shared) (H : Hp) (E : XK) : Cx := (cxOf CX0 P w K mg base N x scope f cdv A outer s H E).nox
theorem okF (D : DefAt K mg x params body scope) (S : FnScope N ps scope) (B : BindOk x params body scope ps) (r : RS1) (hb : ∀ (f : Addr) (cdv : Value) (A : Around) (outer : List PySem.Env) (s : Shared) (H : Hp) (E : XK), Room k (A.deeper (envOfC x scope s.heap.objs.size f cdv)) → RSs (XF P w K mg base N x scope f cdv A outer s H E) body r) :
    FnOk P w K mg base CX0 (k + 1) D.choose D.choose_spec.choose ps (spR ⟨K, P, w⟩ ps.length (semC N r)) :=
  okR D.choose_spec.choose_spec.1 S r (fun cdv A outer s H E hr => hb _ cdv A outer s H E hr) fun args q _ h => h
theorem okD (D : DefAt K mg x params body scope) (S : FnScope N ps scope) (B : BindOk x params body scope ps) (r : RS1) (hb : ∀ (f : Addr) (cdv : Value) (A : Around) (outer : List PySem.Env) (s : Shared) (H : Hp) (E : XK), Room k (A.deeper (envOfC x scope s.heap.objs.size f cdv)) → RSs (XF P w K mg base N x scope f cdv A outer s H E) body r) :
    Cal P w K mg base (k + 1) x ps (semC N r) :=
  ⟨_, _, okF D S B r hb, D.choose_spec.choose_spec.2, D.choose_spec.choose_spec.1.kp, D.choose_spec.choose_spec.1.bindsN B⟩
/-- .. by a walk of the layer below -/
theorem okT (D : DefAt K mg x params body scope) (S : FnScope N ps scope) (B : BindOk x params body scope ps) {C : Spec} (t : TS) (hb : ∀ (f : Addr) (cdv : Value) (A : Around) (outer : List PySem.Env) (s : Shared) (H : Hp) (E : XK), Room k (A.deeper (envOfC x scope s.heap.objs.size f cdv)) → PSs (XF P w K mg base N x scope f cdv A outer s H E) body t)
    (law : ∀ (vs : List V) (H : Hp) (Q : VK) (E : XK), spR ⟨K, P, w⟩ ps.length C vs H Q E → t { nx := fun _ H' => Q .non H', rt := Q } (start N vs) H) : Cal P w K mg base (k + 1) x ps C := by
  obtain ⟨f, fd, F, hm⟩ := D
  refine ⟨f, fd, F.ok S (fun vs H Q E h => ?_) (fun cdv A outer s H vs Q E hr h => ⟨t, PSs.nox (hb f cdv A outer s H E hr), law vs H Q E h⟩), hm, F.kp, F.bindsN B⟩
  obtain ⟨_, _, _, _, h, _⟩ := h
  exact h
theorem Cal.mono {j : Nat} {C : Spec} (c : Cal P w K mg base j x ps C) (h : j ≤ k) : Cal P w K mg base k x ps C := by
  obtain ⟨f, fd, F, r⟩ := c
  exact ⟨f, fd, F.mono h, r⟩
end
section
variable {X : Cx} {e a b o : Expr} {es : List Expr} {r ra rb : RE1} {rs : RA1} {pos apos cpos : Pos}
theorem re_callC {k : Nat} {ps : List Str} {C : Spec} {x : Str} {p : Pos} (c : Cal X.prog X.w X.K X.mg X.base k x ps C) (hr : Room k X.A) (ha : RA X (e :: es) rs) (hg : Gl X x := by rfl) (hdb : (x == ("__debug__" : Str)) = false := by decide) (he : starEach (e :: es) X.env = (false, eval e X.env) :: starEach es X.env := by rfl) (hpl : (backTo pos (starEach es X.env)).any (·.1) = false := by rfl) {n : Nat} (hn : ps.length = n := by rfl) :
    RE X (.Call (.Name x p) (e :: es) [] pos) (rCall n C rs) := by
  obtain ⟨f, fd, F, hm, hk, hb⟩ := c
  subst hn
  exact re_call F hr hg hm hk hb ha hdb he hpl
theorem re_callC0 {k : Nat} {C : Spec} {x : Str} {p : Pos} (c : Cal X.prog X.w X.K X.mg X.base k x [] C) (hr : Room k X.A) (hg : Gl X x := by rfl) (hdb : (x == ("__debug__" : Str)) = false := by decide) :
    RE X (.Call (.Name x p) [] [] pos) (rCall 0 C rNil) := by
  obtain ⟨f, fd, F, hm, hk, hb⟩ := c
  exact re_call0 F hr hg hm hk hb hdb
def rrMax2 : List V → Hp → VK → Prop := fun xs H Q => ∃ i j, xs = [.int i, .int j] ∧ Q (.int (if j > i then j else i)) H
def rrMin2 : List V → Hp → VK → Prop := fun xs H Q => ∃ i j, xs = [.int i, .int j] ∧ Q (.int (if j < i then j else i)) H
def rrAbs : List V → Hp → VK → Prop := fun xs H Q => ∃ i, xs = [.int i] ∧ Q (.int (if i < 0 then -i else i)) H
def rrInt1 : List V → Hp → VK → Prop := fun xs H Q => (∃ i, xs = [.int i] ∧ Q (.int i) H) ∨ ∃ k, xs = [.bl k] ∧ Q (.int (if k then 1 else 0)) H
/-- names -/
theorem v (i : Nat) {x : Str} (hN : X.N[i]? = some x := by rfl) (hv : Vis X.env.scope x := by first | exact Or.inl rfl | exact Or.inr (Or.inl rfl) | exact Or.inr (Or.inr rfl)) (hd : (x == ("__debug__" : Str)) = false := by decide) (hcd : (x == ("__classdict__" : Str)) = false := by decide) : RE X (.Name x pos) (rVar i) := re_var hN hv hd hcd
theorem vB (i : Nat) {x : Str} (hN : X.N[i]? = some x := by rfl) (hv : Vis X.env.scope x := by first | exact Or.inl rfl | exact Or.inr (Or.inl rfl) | exact Or.inr (Or.inr rfl)) (hd : (x == ("__debug__" : Str)) = false := by decide) (hcd : (x == ("__classdict__" : Str)) = false := by decide) : RB X (.Name x pos) (rVar i) := (re_var hN hv hd hcd).bb
theorem vO (i : Nat) {x : Str} (hN : X.N[i]? = some x := by rfl) (hv : Vis X.env.scope x := by first | exact Or.inl rfl | exact Or.inr (Or.inl rfl) | exact Or.inr (Or.inr rfl)) (hd : (x == ("__debug__" : Str)) = false := by decide) (hcd : (x == ("__classdict__" : Str)) = false := by decide) : RB X (.Name x pos) (rOwn i) := rb_own hN hv hd hcd
theorem gN (i : Nat) {x : Str} (hN : X.N.Nodup) (hi : X.N[i]? = some x := by rfl) (hx : Loc X.env.scope x := by first | exact Or.inl rfl | exact Or.inr rfl) (hf : X.fn x = true ∨ X.env.scope.names.lookup x = some .local := by first | exact .inr rfl | exact .inl rfl) : RG X (.Name x pos) [i] (rgName i) := rg_name hN hi hx hf
theorem re_max2 {p : Pos} (hm : X.mg "max" = none) (hc : X.calm = true) (ha : RAB X (e :: es) rs) (hg : Gl X "max" := by rfl) (h : PE X (.Call (.Name "max" p) (e :: es) [] pos) (tCB rrMax2 (tRAB X.ct rs)) := by exact pe_callB (call_max2 (by assumption)) (by assumption) (by assumption) boot_max ha.h) : RE X (.Call (.Name "max" p) (e :: es) [] pos) (rBi sMax2 rs) := re_callB (call_max2 hc) br_max2 hg hm boot_max ha (h := h)
theorem re_min2 {p : Pos} (hm : X.mg "min" = none) (hc : X.calm = true) (ha : RAB X (e :: es) rs) (hg : Gl X "min" := by rfl) (h : PE X (.Call (.Name "min" p) (e :: es) [] pos) (tCB rrMin2 (tRAB X.ct rs)) := by exact pe_callB (call_min2 (by assumption)) (by assumption) (by assumption) boot_min ha.h) : RE X (.Call (.Name "min" p) (e :: es) [] pos) (rBi sMin2 rs) := re_callB (call_min2 hc) br_min2 hg hm boot_min ha (h := h)
theorem re_abs {p : Pos} (hm : X.mg "abs" = none) (ha : RAB X (e :: es) rs) (hg : Gl X "abs" := by rfl) (h : PE X (.Call (.Name "abs" p) (e :: es) [] pos) (tCB rrAbs (tRAB X.ct rs)) := by exact pe_callB call_abs (by assumption) (by assumption) boot_abs ha.h) : RE X (.Call (.Name "abs" p) (e :: es) [] pos) (rBi sAbs rs) := re_callB call_abs br_abs hg hm boot_abs ha (h := h)
theorem re_int1 {p : Pos} (hm : X.mg "int" = none) (ha : RAB X (e :: es) rs) (hg : Gl X "int" := by rfl) (h : PE X (.Call (.Name "int" p) (e :: es) [] pos) (tCB rrInt1 (tRAB X.ct rs)) := by exact pe_callTy call_int1 (by assumption) (by assumption) boot_int ha.h) : RE X (.Call (.Name "int" p) (e :: es) [] pos) (rBi sInt1 rs) := re_callTy call_int1 br_int1 hg hm boot_int ha (h := h)
end
end R
/-! The pure layer, part 18: the forms that are printed, calls and methods. -/
namespace R
open PySem PySem.Spec PyProof.Rows L2
section
variable {X : Cx} {e a b o : Expr} {es : List Expr} {r ra rb re : RE1} {rs : RA1} {pos apos cpos : Pos}
theorem cB {id : String} {rr : List V → Hp → VK → Prop} {s : SA} {x : Str} {p : Pos} (hc : CallR X (.builtin id) rr) (br : BrA X rr s) (hv : bootBuiltins x = some (.builtin id)) (hm : X.mg x = none) (ha : RAB X (e :: es) rs) (hg : Gl X x := by rfl) (hn : x ≠ "__name__" := by decide) (hdb : (x == ("__debug__" : Str)) = false := by decide)
    (he : starEach (e :: es) X.env = (false, eval e X.env) :: starEach es X.env := by rfl) (hpl : (backTo pos (starEach es X.env)).any (·.1) = false := by rfl) : RE X (.Call (.Name x p) (e :: es) [] pos) (rBi s rs) :=
  re_callB hc br hg hm hv ha hn hdb (h := pe_callB hc hg hm hv ha.h hn hdb he hpl)
theorem cT {T : String} {rr : List V → Hp → VK → Prop} {s : SA} {x : Str} {p : Pos} (hc : CallR X (.type T) rr) (br : BrA X rr s) (hv : bootBuiltins x = some (.type T)) (hm : X.mg x = none) (ha : RAB X (e :: es) rs) (hg : Gl X x := by rfl) (hn : x ≠ "__name__" := by decide) (hdb : (x == ("__debug__" : Str)) = false := by decide)
    (he : starEach (e :: es) X.env = (false, eval e X.env) :: starEach es X.env := by rfl) (hpl : (backTo pos (starEach es X.env)).any (·.1) = false := by rfl) : RE X (.Call (.Name x p) (e :: es) [] pos) (rBi s rs) :=
  re_callTy hc br hg hm hv ha hn hdb (h := pe_callTy hc hg hm hv ha.h hn hdb he hpl)
/-- o.m(e, ..) -/
theorem cM {name : Str} {T id : String} {rr : V → List V → Hp → VK → Prop} {ok : PV → Prop} {s : PV → List PV → (PV → Prop) → Prop} (pa : PlainAttrs T) (slot : PySem.Slot T name id) (hty : typeOf (.builtin id) = pure (.type "method_descriptor")) (hm : MtR X id rr) (ty : BrTy X T ok) (br : BrM X rr s) (ho : RB X o ra) (ha : RAB X (e :: es) rs)
    (hbase : attributeBase o name X.env (eval o X.env) = eval o X.env := by rfl)
    (hfew : ((backTo cpos (starEach (e :: es) X.env)).all (fun x => !x.1) && (backToKw cpos (keywordEach [] X.env)).all (fun x => x.1.isSome)
      && decide ((e :: es).length + ([] : List Keyword).length + (if ([] : List Keyword).isEmpty then 0 else 1) < 30)) = true := by rfl)
    (hline : (apos.endLine == cpos.line) = true := by rfl) (hs : starEach (e :: es) X.env = (false, eval e X.env) :: starEach es X.env := by rfl) (hplain : (backTo cpos (starEach es X.env)).any (·.1) = false := by rfl) : RE X (.Call (.Attribute o name apos) (e :: es) [] cpos) (rMt ok s ra rs) :=
  re_mt ty br (pe_bm pa slot hty hm ho.h ha.h hbase hfew hline hs hplain)
theorem cM0 {name : Str} {T id : String} {rr : V → List V → Hp → VK → Prop} {ok : PV → Prop} {s : PV → List PV → (PV → Prop) → Prop} (pa : PlainAttrs T) (slot : PySem.Slot T name id) (hty : typeOf (.builtin id) = pure (.type "method_descriptor")) (hm : MtR X id rr) (ty : BrTy X T ok) (hok : ∀ v q, s v [] q → ok v) (br : BrM X rr s) (ho : RB X o ra)
    (hbase : attributeBase o name X.env (eval o X.env) = eval o X.env := by rfl) (hline : (apos.endLine == cpos.line) = true := by rfl) : RE X (.Call (.Attribute o name apos) [] [] cpos) (rMt0 s ra) :=
  re_mt0 ty hok br (pe_bm0 pa slot hty hm ho.h hbase hline)
theorem cIndex (hu : X.A.units + 65 < cLine) (ho : RB X o ra) (ha : RAB X [e] rs)
    (hbase : attributeBase o "index" X.env (eval o X.env) = eval o X.env := by rfl)
    (hfew : ((backTo cpos (starEach [e] X.env)).all (fun x => !x.1) && (backToKw cpos (keywordEach [] X.env)).all (fun x => x.1.isSome)
      && decide (([e] : List Expr).length + ([] : List Keyword).length + (if ([] : List Keyword).isEmpty then 0 else 1) < 30)) = true := by rfl)
    (hline : (apos.endLine == cpos.line) = true := by rfl) (hs : starEach [e] X.env = (false, eval e X.env) :: starEach [] X.env := by rfl) (hplain : (backTo cpos (starEach [] X.env)).any (·.1) = false := by rfl) : RE X (.Call (.Attribute o "index" apos) [e] [] cpos) (rMt okL sIndex ra rs) :=
  cM PySem.F.plainAttrs_list PySem.F.slot_list_index PySem.F.type_list_index (mt_indexD hu) ty_L br_index ho ha hbase hfew hline hs hplain
/-! ### owned lists -/
theorem sApp (i : Nat) {x : Str} {p : Pos} (he : RE X e re) (hN : X.N[i]? = some x := by rfl) (hv : Vis X.env.scope x := by first | exact Or.inl rfl | exact Or.inr (Or.inl rfl) | exact Or.inr (Or.inr rfl)) (hd : (x == ("__debug__" : Str)) = false := by decide) (hcd : (x == ("__classdict__" : Str)) = false := by decide)
    (hbase : attributeBase (.Name x p) "append" X.env (eval (.Name x p) X.env) = eval (.Name x p) X.env := by rfl)
    (hfew : ((backTo cpos (starEach [e] X.env)).all (fun x => !x.1) && (backToKw cpos (keywordEach [] X.env)).all (fun x => x.1.isSome)
      && decide (([e] : List Expr).length + ([] : List Keyword).length + (if ([] : List Keyword).isEmpty then 0 else 1) < 30)) = true := by rfl)
    (hline : (apos.endLine == cpos.line) = true := by rfl) (hss : starEach [e] X.env = (false, eval e X.env) :: starEach [] X.env := by rfl) (hplain : (backTo cpos (starEach [] X.env)).any (·.1) = false := by rfl)
    (hs : swapsWith (.Call (.Attribute (.Name x p) "append" apos) [e] [] cpos) none pos.line X.env = pure false := by rfl) : RS X (.Expr (.Call (.Attribute (.Name x p) "append" apos) [e] [] cpos) pos) (rAppendTo i re) :=
  rs_append hN hv he hd hcd (pe_bm PySem.F.plainAttrs_list PySem.F.slot_list_append PySem.F.type_list_append mt_append (pe_var hN hv hd hcd) (pa_cons he.h pa_nil hss) hbase hfew hline hss hplain) hs
theorem sExt (i : Nat) {x : Str} {p : Pos} (he : RE X e re) (hN : X.N[i]? = some x := by rfl) (hv : Vis X.env.scope x := by first | exact Or.inl rfl | exact Or.inr (Or.inl rfl) | exact Or.inr (Or.inr rfl)) (hd : (x == ("__debug__" : Str)) = false := by decide) (hcd : (x == ("__classdict__" : Str)) = false := by decide)
    (hbase : attributeBase (.Name x p) "extend" X.env (eval (.Name x p) X.env) = eval (.Name x p) X.env := by rfl)
    (hfew : ((backTo cpos (starEach [e] X.env)).all (fun x => !x.1) && (backToKw cpos (keywordEach [] X.env)).all (fun x => x.1.isSome)
      && decide (([e] : List Expr).length + ([] : List Keyword).length + (if ([] : List Keyword).isEmpty then 0 else 1) < 30)) = true := by rfl)
    (hline : (apos.endLine == cpos.line) = true := by rfl) (hss : starEach [e] X.env = (false, eval e X.env) :: starEach [] X.env := by rfl) (hplain : (backTo cpos (starEach [] X.env)).any (·.1) = false := by rfl)
    (hs : swapsWith (.Call (.Attribute (.Name x p) "extend" apos) [e] [] cpos) none pos.line X.env = pure false := by rfl) : RS X (.Expr (.Call (.Attribute (.Name x p) "extend" apos) [e] [] cpos) pos) (rExtendTo i re) :=
  rs_extend hN hv he hd hcd (pe_bm PySem.F.plainAttrs_list PySem.F.slot_list_extend PySem.F.type_list_extend mt_extend (pe_var hN hv hd hcd) (pa_cons he.h pa_nil hss) hbase hfew hline hss hplain) hs
theorem ePop (i : Nat) {x : Str} {p : Pos} (hN : X.N[i]? = some x := by rfl) (hv : Vis X.env.scope x := by first | exact Or.inl rfl | exact Or.inr (Or.inl rfl) | exact Or.inr (Or.inr rfl)) (hd : (x == ("__debug__" : Str)) = false := by decide) (hcd : (x == ("__classdict__" : Str)) = false := by decide)
    (hbase : attributeBase (.Name x p) "pop" X.env (eval (.Name x p) X.env) = eval (.Name x p) X.env := by rfl) (hline : (apos.endLine == cpos.line) = true := by rfl) : RE X (.Call (.Attribute (.Name x p) "pop" apos) [] [] cpos) (rPopOf i) :=
  re_pop hN hv hd hcd (pe_bm0 PySem.F.plainAttrs_list PySem.F.slot_list_pop PySem.F.type_list_pop mt_pop (pe_var hN hv hd hcd) hbase hline)
theorem ePopAt (i : Nat) {x : Str} {p : Pos} (he : RE X e re) (hN : X.N[i]? = some x := by rfl) (hv : Vis X.env.scope x := by first | exact Or.inl rfl | exact Or.inr (Or.inl rfl) | exact Or.inr (Or.inr rfl)) (hd : (x == ("__debug__" : Str)) = false := by decide) (hcd : (x == ("__classdict__" : Str)) = false := by decide)
    (hbase : attributeBase (.Name x p) "pop" X.env (eval (.Name x p) X.env) = eval (.Name x p) X.env := by rfl)
    (hfew : ((backTo cpos (starEach [e] X.env)).all (fun x => !x.1) && (backToKw cpos (keywordEach [] X.env)).all (fun x => x.1.isSome)
      && decide (([e] : List Expr).length + ([] : List Keyword).length + (if ([] : List Keyword).isEmpty then 0 else 1) < 30)) = true := by rfl)
    (hline : (apos.endLine == cpos.line) = true := by rfl) (hss : starEach [e] X.env = (false, eval e X.env) :: starEach [] X.env := by rfl) (hplain : (backTo cpos (starEach [] X.env)).any (·.1) = false := by rfl) : RE X (.Call (.Attribute (.Name x p) "pop" apos) [e] [] cpos) (rPopAtOf i re) :=
  re_popAt hN hv he hd hcd (pe_bm PySem.F.plainAttrs_list PySem.F.slot_list_pop PySem.F.type_list_pop mt_popAt (pe_var hN hv hd hcd) (pa_cons he.h pa_nil hss) hbase hfew hline hss hplain)
end
end R
/-! The pure layer, part 19: loops whose own names are forgotten at each turn. -/
namespace R
open PySem PySem.Spec PyProof.Rows L2
theorem Rl.weak {K : Ct} {P : Addr → Prop} {O : List Addr} {Z : List Rng} {env : Ev} {σ : L2.St} {H : Hp} (l : Rl K P O Z env σ H) (vs : List Nat) : Rl K P O Z (wipeE env vs) σ H := by
  refine ⟨by rw [wipeE_length]; exact l.len, fun i v e => ?_, fun i d e => ?_, fun i j d e a h1 h2 h3 h4 => ?_, l.dis, l.prot, l.rng⟩
  · exact l.slot i v (wipeE_some (s := .val v) (by simp) e).1
  · exact l.own i d (wipeE_some (s := .own d) (by simp) e).1
  · exact l.inj i j d e a (wipeE_some (s := .own d) (by simp) h1).1 (wipeE_some (s := .own e) (by simp) h2).1 h3 h4
section
variable {X : Cx} {st : Stmt} {sts : List Stmt} {r r' : RS1} {e c : Expr} {ra re : RE1} {rt : RT1} {pos : Pos}
def forStepW (is : List Nat) (rg : RG1) (rb : RS1) (E : REnds) (x : PyData) (e : Ev) (k : Ev → Prop) : Prop := rg (.d x) e fun e2 => rb e2 { E with nx := fun e' => k (wipeE e' is), ct := fun e' => k (wipeE e' is), bk := fun e' => E.nx (wipeE e' is) }
def rForW (is : List Nat) (ri : RI1) (rg : RG1) (rb : RS1) : RS1 := fun env E => ri env fun xs e1 => forGo (forStepW is rg rb E) xs (wipeE e1 is) E.nx
theorem rs_forW {is : List Nat} {tg iter : Expr} {body : List Stmt} {ts : List Nat} {ri : RI1} {rg : RG1} {rb : RS1} (hp : PassesOwn (model X.prog X.w) X.A X.env X.xe) (hc : X.calm = true) (hi : RI X tg iter ri) (hg : RG X tg ts rg) (hb : RSs X body rb) (hs : ∀ x, foldedSetIterable iter X.env x = pure x := by intro _; rfl) :
    RS X (.For tg iter body [] pos) (rForW is ri rg rb) := .of (ps_for hp hc hi.h hg.h hb.h hs) fun D σ H ⟨P, O, Z, env, E, l, w, k⟩ => by
  refine ⟨P, O, Z, env, _, l, w, fun xs e1 w1 Z1 H1 J s1 l1 ⟨le, G, Y, W, hG⟩ => ?_⟩
  have k1 := k.later s1.q
  have ext : ∀ {O' : List Addr} {Z' : List Rng} {H' : Hp}, Stq O Z1 H1 O' Z' H' → ∀ a o, ¬ UU P O Z1 a → H1 a = some o → H' a = some o := fun s a o n q => s.s.keep a o q (fun w => n (.inr (.inl w))) fun w => n (.inr (.inr w))
  have uu0 : ∀ {O' : List Addr} {Z' : List Rng} {H' : Hp}, Stq O Z1 H1 O' Z' H' → ∀ a, H1 a ≠ none → UU P O' Z' a → UU P O Z1 a := fun s a n q => by
    rcases q with q | q | q
    · exact .inl q
    · rcases s.o a q with w | w
      · exact .inr (.inl w)
      · exact absurd w n
    · exact .inr (.inr (s.s.zad q n))
  refine for_it W (fun i σ' H' => ∃ O' Z' e', Stq O Z1 H1 O' Z' H' ∧ Rl X.ct P O' Z' e' σ' H' ∧ forGo (forStepW is rg rb E) (xs.drop i) e' E.nx) ?_ ?_ ?_ ?_
  · exact ⟨O, Z1, _, .refl, l1.weak is, w1⟩
  · rintro i σ' H' hi ⟨O', Z', e', s2, l2, g2⟩
    exact (hG H' (UU P O' Z') (ext s2) (uu0 s2) fun a n q => l2.fresh n q).1
  · rintro i x σ2 H2 H3 hi ⟨O', Z', e', s2, l2, g2⟩ y
    obtain ⟨grow, hd⟩ := (hG H2 (UU P O' Z') (ext s2) (uu0 s2) fun a n q => l2.fresh n q).2 i x H3 hi y
    have gt : xs.drop i = xs[i] :: xs.drop (i + 1) := List.drop_eq_getElem_cons hi
    rw [gt] at g2
    have rx := hd xs[i] (by simp [hi])
    have l3 := l2.grow grow
    have th : ∀ a, H2 a ≠ none → H3 a ≠ none := fun a n => by
      cases q : H2 a with
      | none => exact absurd q n
      | some o => rw [grow a o q]; simp
    have s3 : Stq O Z1 H1 O' Z' H3 := ⟨⟨fun a o q n z => grow _ _ (s2.s.keep a o q n z), s2.s.more, fun a n => th a (s2.s.there a n)⟩, s2.o⟩
    refine ⟨P, O', Z', e', .d xs[i], _, l3, rx, g2, fun e2 g3 σ3 l4 _ => ?_⟩
    refine ⟨P, O', Z', e2, _, l4, g3, ⟨fun e q O4 Z4 σ4 H4 s4 l5 => ⟨O4, Z4, wipeE e is, s3.trans s4, l5.weak is, q⟩, (k1.later s3).rt, fun e q O4 Z4 σ4 H4 s4 l5 => (k1.later s3).nx _ q O4 Z4 σ4 H4 s4 (l5.weak is), fun e q O4 Z4 σ4 H4 s4 l5 => ⟨O4, Z4, wipeE e is, s3.trans s4, l5.weak is, q⟩⟩⟩
  · rintro σ' H' ⟨O', Z', e', s2, l2, g2⟩
    rw [List.drop_length] at g2
    exact k1.nx e' g2 O' Z' σ' H' s2 l2
def rWhileW (is : List Nat) (rt : RT1) (rb : RS1) : RS1 := fun env E => ∃ W : Nat → Ev → Prop, (∃ m, W m (wipeE env is)) ∧ ∀ m e, W m e → rt e fun b e1 => if b = true then rb e1 { E with nx := fun e2 => ∃ m', m' < m ∧ W m' (wipeE e2 is), ct := fun e2 => ∃ m', m' < m ∧ W m' (wipeE e2 is), bk := fun e2 => E.nx (wipeE e2 is) } else E.nx e1
theorem rs_whileW {is : List Nat} {body : List Stmt} {rb : RS1} (hp : PassesOwn (model X.prog X.w) X.A X.env X.xe) (hc : RT X c rt) (hb : RSs X body rb) : RS X (.While c body [] pos) (rWhileW is rt rb) := .of (ps_while hp hc.h hb.h) fun D σ H ⟨P, O, Z, env, E, l, ⟨W, ⟨m0, w0⟩, turn⟩, k⟩ => by
  refine ⟨fun m σ' H' => ∃ O' Z' e', Stq O Z H O' Z' H' ∧ Rl X.ct P O' Z' e' σ' H' ∧ W m e', ⟨m0, O, Z, _, .refl, l.weak is, w0⟩, ?_⟩
  rintro m σ1 H1 ⟨O1, Z1, e1, s1, l1, w1⟩
  refine ⟨P, O1, Z1, e1, _, l1, turn m e1 w1, fun b e2 w2 Z2 H2 s2 l2 => ?_⟩
  have s12 : Stq O Z H O1 Z2 H2 := s1.trans s2.q
  cases b with
  | true =>
    rw [if_pos rfl] at w2
    show ∃ N : L2.St → Hp → Prop, _
    refine ⟨fun σ' H' => ∃ m', m' < m ∧ ∃ O' Z' e', Stq O Z H O' Z' H' ∧ Rl X.ct P O' Z' e' σ' H' ∧ W m' e', fun σ' H' q => q, P, O1, Z2, e2, _, l2, w2, ?_⟩
    exact ⟨fun e ⟨m', q1, q2⟩ O4 Z4 σ4 H4 s4 l5 => ⟨m', q1, O4, Z4, wipeE e is, s12.trans s4, l5.weak is, q2⟩, (k.later s12).rt, fun e q O4 Z4 σ4 H4 s4 l5 => (k.later s12).nx _ q O4 Z4 σ4 H4 s4 (l5.weak is), fun e ⟨m', q1, q2⟩ O4 Z4 σ4 H4 s4 l5 => ⟨m', q1, O4, Z4, wipeE e is, s12.trans s4, l5.weak is, q2⟩⟩
  | false =>
    rw [if_neg Bool.false_ne_true] at w2
    show D.nx _ _
    exact k.nx e2 w2 O1 Z2 σ1 H2 s12 l2
end
end R
/-! The typed layer, part 0: Lean values as data. -/
namespace R
open PySem
/-- a tuple of any length, of like items -/
structure Vec (τ : Type) where
  l : List τ
  deriving DecidableEq, Inhabited
/-- a dict, by its items in their order -/
structure Dct (κ ν : Type) where
  l : List (κ × ν)
  deriving DecidableEq, Inhabited
structure T1 (α : Type) where
  a : α
  deriving DecidableEq, Inhabited
structure T3 (α β γ : Type) where
  a : α
  b : β
  c : γ
  deriving DecidableEq, Inhabited
structure T4 (α β γ δ : Type) where
  a : α
  b : β
  c : γ
  d : δ
  deriving DecidableEq, Inhabited
structure T5 (α β γ δ ε : Type) where
  a : α
  b : β
  c : γ
  d : δ
  e : ε
  deriving DecidableEq, Inhabited
class Enc (τ : Type) where
  enc : τ → PyData
open Enc (enc)
instance : Enc Int := ⟨.int⟩
instance : Enc Bool := ⟨.bool⟩
instance : Enc Str := ⟨.str⟩
instance : Enc Unit := ⟨fun _ => .none⟩
instance : Enc PyData := ⟨id⟩
section
variable {τ α β γ δ ε κ ν : Type} [Enc τ] [Enc α] [Enc β] [Enc γ] [Enc δ] [Enc ε] [Enc κ] [Enc ν]
def encOpt : Option τ → PyData
  | none => .none
  | some a => enc a
instance : Enc (Option τ) := ⟨encOpt⟩
instance : Enc (List τ) := ⟨fun xs => .list (xs.map enc)⟩
instance : Enc (Vec τ) := ⟨fun xs => .tuple (xs.l.map enc)⟩
instance : Enc (α × β) := ⟨fun p => .tuple [enc p.1, enc p.2]⟩
instance : Enc (T1 α) := ⟨fun p => .tuple [enc p.a]⟩
instance : Enc (T3 α β γ) := ⟨fun p => .tuple [enc p.a, enc p.b, enc p.c]⟩
instance : Enc (T4 α β γ δ) := ⟨fun p => .tuple [enc p.a, enc p.b, enc p.c, enc p.d]⟩
instance : Enc (T5 α β γ δ ε) := ⟨fun p => .tuple [enc p.a, enc p.b, enc p.c, enc p.d, enc p.e]⟩
instance : Enc (Dct κ ν) := ⟨fun d => .dict (d.l.map fun p => (enc p.1, enc p.2))⟩
/-- == is the likeness of Lean -/
class Lawful (τ : Type) [Enc τ] [DecidableEq τ] : Prop where
  eqv : ∀ a b : τ, PyData.eqv (enc a) (enc b) = decide (a = b)
/-- never None -/
class NotNone (τ : Type) [Enc τ] : Prop where
  nn : ∀ a : τ, enc a ≠ .none
end
/-- how deep -/
class Dep (τ : Type) [Enc τ] where
  n : Nat
  dep : ∀ a : τ, (enc a).depth ≤ n
instance : Dep Int := ⟨0, fun _ => Nat.le_refl _⟩
instance : Dep Bool := ⟨0, fun _ => Nat.le_refl _⟩
instance : Dep Str := ⟨0, fun _ => Nat.le_refl _⟩
instance : Dep Unit := ⟨0, fun _ => Nat.le_refl _⟩
theorem depAll {α : Type} {f : α → PyData} {n : Nat} (h : ∀ a, (f a).depth ≤ n) : ∀ xs : List α, PyData.depthAll (xs.map f) ≤ n
  | [] => Nat.zero_le _
  | x :: xs => Nat.max_le.mpr ⟨h x, depAll h xs⟩
section
variable {τ α β γ δ ε : Type} [Enc τ] [Enc α] [Enc β] [Enc γ] [Enc δ] [Enc ε] [Dep τ] [Dep α] [Dep β] [Dep γ] [Dep δ] [Dep ε]
instance : Dep (Option τ) := ⟨Dep.n τ, fun a => match a with
  | none => Nat.zero_le _
  | some a => Dep.dep a⟩
instance : Dep (List τ) := ⟨Dep.n τ + 1, fun xs => Nat.succ_le_succ (depAll (fun a => Dep.dep a) xs)⟩
instance : Dep (Vec τ) := ⟨Dep.n τ + 1, fun xs => Nat.succ_le_succ (depAll (fun a => Dep.dep a) xs.l)⟩
instance : Dep (α × β) := ⟨max (Dep.n α) (Dep.n β) + 1, fun p => by
  have h1 := Dep.dep p.1
  have h2 := Dep.dep p.2
  show max (enc p.1).depth (max (enc p.2).depth 0) + 1 ≤ _
  omega⟩
instance : Dep (T1 α) := ⟨Dep.n α + 1, fun p => by
  have h1 := Dep.dep p.a
  show max (enc p.a).depth 0 + 1 ≤ _
  omega⟩
instance : Dep (T3 α β γ) := ⟨max (Dep.n α) (max (Dep.n β) (Dep.n γ)) + 1, fun p => by
  have h1 := Dep.dep p.a
  have h2 := Dep.dep p.b
  have h3 := Dep.dep p.c
  show max (enc p.a).depth (max (enc p.b).depth (max (enc p.c).depth 0)) + 1 ≤ _
  omega⟩
instance : Dep (T4 α β γ δ) := ⟨max (Dep.n α) (max (Dep.n β) (max (Dep.n γ) (Dep.n δ))) + 1, fun p => by
  have h1 := Dep.dep p.a
  have h2 := Dep.dep p.b
  have h3 := Dep.dep p.c
  have h4 := Dep.dep p.d
  show max (enc p.a).depth (max (enc p.b).depth (max (enc p.c).depth (max (enc p.d).depth 0))) + 1 ≤ _
  omega⟩
instance : Dep (T5 α β γ δ ε) := ⟨max (Dep.n α) (max (Dep.n β) (max (Dep.n γ) (max (Dep.n δ) (Dep.n ε)))) + 1, fun p => by
  have h1 := Dep.dep p.a
  have h2 := Dep.dep p.b
  have h3 := Dep.dep p.c
  have h4 := Dep.dep p.d
  have h5 := Dep.dep p.e
  show max (enc p.a).depth (max (enc p.b).depth (max (enc p.c).depth (max (enc p.d).depth (max (enc p.e).depth 0)))) + 1 ≤ _
  omega⟩
end
/-- data that may be laid: texts of code points -/
def layT {τ : Type} [Enc τ] (a : τ) : Prop := (enc a).canLay0 = true
theorem shaped_of {τ : Type} [Enc τ] [Dep τ] {a : τ} (h : layT a) (hd : Dep.n τ ≤ 64 := by decide) : SeqAt.shaped (enc a) = true :=
  Bool.and_eq_true_iff.mpr ⟨h, decide_eq_true (Nat.le_trans (Dep.dep a) hd)⟩
/-- types without texts -/
class NoStr (τ : Type) [Enc τ] : Prop where
  lay : ∀ a : τ, layT a
instance : NoStr Int := ⟨fun _ => rfl⟩
instance : NoStr Bool := ⟨fun _ => rfl⟩
instance : NoStr Unit := ⟨fun _ => rfl⟩
theorem layAll {α : Type} {f : α → PyData} : ∀ {xs : List α}, (∀ a ∈ xs, (f a).canLay0 = true) → PyData.canLayAll0 (xs.map f) = true
  | [], _ => rfl
  | x :: xs, h => by
    show ((f x).canLay0 && PyData.canLayAll0 (xs.map f)) = true
    rw [h x List.mem_cons_self, layAll fun a ha => h a (List.mem_cons_of_mem _ ha)]
    rfl
section
variable {τ α β γ δ ε : Type} [Enc τ] [Enc α] [Enc β] [Enc γ] [Enc δ] [Enc ε]
theorem lay_list {xs : List τ} (h : ∀ a ∈ xs, layT a) : layT xs := layAll h
theorem lay_vec {xs : Vec τ} (h : ∀ a ∈ xs.l, layT a) : layT xs := layAll h
theorem lay_pair {p : α × β} (h1 : layT p.1) (h2 : layT p.2) : layT p := by
  show ((enc p.1).canLay0 && ((enc p.2).canLay0 && true)) = true
  rw [show (enc p.1).canLay0 = true from h1, show (enc p.2).canLay0 = true from h2]
  rfl
theorem lay_some {a : τ} (h : layT a) : layT (some a) := h
theorem lay_none : layT (none : Option τ) := rfl
instance [NoStr τ] : NoStr (Option τ) := ⟨fun a => match a with
  | none => rfl
  | some a => NoStr.lay a⟩
instance [NoStr τ] : NoStr (List τ) := ⟨fun xs => lay_list fun a _ => NoStr.lay a⟩
instance [NoStr τ] : NoStr (Vec τ) := ⟨fun xs => lay_vec fun a _ => NoStr.lay a⟩
instance [NoStr α] [NoStr β] : NoStr (α × β) := ⟨fun p => lay_pair (NoStr.lay p.1) (NoStr.lay p.2)⟩
instance [NoStr α] : NoStr (T1 α) := ⟨fun p => by
  show ((enc p.a).canLay0 && true) = true
  rw [show (enc p.a).canLay0 = true from NoStr.lay p.a]; rfl⟩
instance [NoStr α] [NoStr β] [NoStr γ] : NoStr (T3 α β γ) := ⟨fun p => by
  show ((enc p.a).canLay0 && ((enc p.b).canLay0 && ((enc p.c).canLay0 && true))) = true
  rw [show (enc p.a).canLay0 = true from NoStr.lay p.a, show (enc p.b).canLay0 = true from NoStr.lay p.b, show (enc p.c).canLay0 = true from NoStr.lay p.c]; rfl⟩
instance [NoStr α] [NoStr β] [NoStr γ] [NoStr δ] : NoStr (T4 α β γ δ) := ⟨fun p => by
  show ((enc p.a).canLay0 && ((enc p.b).canLay0 && ((enc p.c).canLay0 && ((enc p.d).canLay0 && true)))) = true
  rw [show (enc p.a).canLay0 = true from NoStr.lay p.a, show (enc p.b).canLay0 = true from NoStr.lay p.b, show (enc p.c).canLay0 = true from NoStr.lay p.c, show (enc p.d).canLay0 = true from NoStr.lay p.d]; rfl⟩
end
/-! ### likeness -/
instance : Lawful Int := ⟨fun a b => by
  show (a == b) = decide (a = b)
  rfl⟩
instance : Lawful Bool := ⟨fun a b => by cases a <;> cases b <;> rfl⟩
instance : Lawful Str := ⟨fun a b => by
  show (a == b) = decide (a = b)
  rfl⟩
instance : Lawful Unit := ⟨fun a b => rfl⟩
instance : NotNone Int := ⟨fun _ h => nomatch h⟩
instance : NotNone Bool := ⟨fun _ h => nomatch h⟩
instance : NotNone Str := ⟨fun _ h => nomatch h⟩
section
variable {τ α β γ δ ε κ ν : Type} [Enc τ] [Enc α] [Enc β] [Enc γ] [Enc δ] [Enc ε] [Enc κ] [Enc ν]
instance : NotNone (List τ) := ⟨fun _ h => nomatch h⟩
instance : NotNone (Vec τ) := ⟨fun _ h => nomatch h⟩
instance : NotNone (α × β) := ⟨fun _ h => nomatch h⟩
instance : NotNone (T1 α) := ⟨fun _ h => nomatch h⟩
instance : NotNone (T3 α β γ) := ⟨fun _ h => nomatch h⟩
instance : NotNone (T4 α β γ δ) := ⟨fun _ h => nomatch h⟩
instance : NotNone (T5 α β γ δ ε) := ⟨fun _ h => nomatch h⟩
instance : NotNone (Dct κ ν) := ⟨fun _ h => nomatch h⟩
theorem eqv_none_l {d : PyData} (h : d ≠ .none) : PyData.eqv .none d = false := by cases d <;> first | rfl | exact absurd rfl h
theorem eqv_none_r {d : PyData} (h : d ≠ .none) : PyData.eqv d .none = false := by cases d <;> first | rfl | exact absurd rfl h
variable [DecidableEq τ] [DecidableEq α] [DecidableEq β] [DecidableEq γ] [DecidableEq δ] [DecidableEq ε]
theorem eqv_all [Lawful τ] : ∀ xs ys : List τ, PyData.eqvAll (xs.map enc) (ys.map enc) = decide (xs = ys)
  | [], [] => rfl
  | [], _ :: _ => rfl
  | _ :: _, [] => rfl
  | x :: xs, y :: ys => by
    show (PyData.eqv (enc x) (enc y) && PyData.eqvAll (xs.map enc) (ys.map enc)) = _
    rw [Lawful.eqv, eqv_all xs ys]
    by_cases h : x = y <;> by_cases h2 : xs = ys <;> simp [h, h2]
instance [Lawful τ] : Lawful (List τ) := ⟨fun xs ys => eqv_all xs ys⟩
instance [Lawful τ] : Lawful (Vec τ) := ⟨fun xs ys => by
  show PyData.eqvAll (xs.l.map enc) (ys.l.map enc) = _
  rw [eqv_all]
  cases xs; cases ys
  simp⟩
instance [Lawful τ] [NotNone τ] : Lawful (Option τ) := ⟨fun a b => match a, b with
  | none, none => rfl
  | none, some b => by
    show PyData.eqv .none (enc b) = _
    rw [eqv_none_l (NotNone.nn b)]
    rfl
  | some a, none => by
    show PyData.eqv (enc a) .none = _
    rw [eqv_none_r (NotNone.nn a)]
    rfl
  | some a, some b => by
    show PyData.eqv (enc a) (enc b) = _
    rw [Lawful.eqv]
    simp⟩
instance [Lawful α] [Lawful β] : Lawful (α × β) := ⟨fun p q => by
  show (PyData.eqv (enc p.1) (enc q.1) && (PyData.eqv (enc p.2) (enc q.2) && true)) = _
  rw [Lawful.eqv, Lawful.eqv]
  obtain ⟨a, b⟩ := p
  obtain ⟨c, d⟩ := q
  by_cases h : a = c <;> by_cases h2 : b = d <;> simp [h, h2]⟩
instance [Lawful α] : Lawful (T1 α) := ⟨fun p q => by
  show (PyData.eqv (enc p.a) (enc q.a) && true) = _
  rw [Lawful.eqv]
  cases p; cases q
  simp⟩
instance [Lawful α] [Lawful β] [Lawful γ] : Lawful (T3 α β γ) := ⟨fun p q => by
  show (PyData.eqv (enc p.a) (enc q.a) && (PyData.eqv (enc p.b) (enc q.b) && (PyData.eqv (enc p.c) (enc q.c) && true))) = _
  rw [Lawful.eqv, Lawful.eqv, Lawful.eqv]
  obtain ⟨a, b, c⟩ := p
  obtain ⟨a', b', c'⟩ := q
  by_cases h : a = a' <;> by_cases h2 : b = b' <;> by_cases h3 : c = c' <;> simp [h, h2, h3]⟩
instance [Lawful α] [Lawful β] [Lawful γ] [Lawful δ] : Lawful (T4 α β γ δ) := ⟨fun p q => by
  show (PyData.eqv (enc p.a) (enc q.a) && (PyData.eqv (enc p.b) (enc q.b) && (PyData.eqv (enc p.c) (enc q.c) && (PyData.eqv (enc p.d) (enc q.d) && true)))) = _
  rw [Lawful.eqv, Lawful.eqv, Lawful.eqv, Lawful.eqv]
  obtain ⟨a, b, c, d⟩ := p
  obtain ⟨a', b', c', d'⟩ := q
  by_cases h : a = a' <;> by_cases h2 : b = b' <;> by_cases h3 : c = c' <;> by_cases h4 : d = d' <;> simp [h, h2, h3, h4]⟩
end
/-- == of any two values -/
def eqT {τ : Type} [Enc τ] (a b : τ) : Bool := PyData.eqv (enc a) (enc b)
theorem eqT_eq {τ : Type} [Enc τ] [DecidableEq τ] [Lawful τ] (a b : τ) : eqT a b = decide (a = b) := Lawful.eqv a b
end R
/-! The typed layer, part 1: what a reading makes of typed values. -/
namespace R
open PySem PySem.Spec PyProof.Rows L2
open Enc (enc)
/-- in env, r tells v, and changes nothing -/
structure OkE (r : RE1) (env : Ev) (v : PyData) : Prop where
  ok : ∀ q : PV → Ev → Prop, q (.d v) env → r env q
structure OkT (r : RT1) (env : Ev) (b : Bool) : Prop where
  ok : ∀ q : Bool → Ev → Prop, q b env → r env q
structure OkA (r : RA1) (env : Ev) (vs : List PyData) : Prop where
  ok : ∀ q : List PV → Ev → Prop, q (vs.map .d) env → r env q
structure OkI (r : RI1) (env : Ev) (xs : List PyData) : Prop where
  ok : ∀ q : List PyData → Ev → Prop, q xs env → r env q
structure OkG (r : RG1) (v : PyData) (env env' : Ev) : Prop where
  ok : ∀ q : Ev → Prop, q env' → r (.d v) env q
structure OkGs (r : RGs1) (vs : List PyData) (env env' : Ev) : Prop where
  ok : ∀ q : Ev → Prop, q env' → r (vs.map .d) env q
structure OkO (r : RO1) (env : Ev) (o : Option Int) : Prop where
  ok : ∀ q : Option Int → Ev → Prop, q o env → r env q
/-- a def's promise: of these arguments it makes v -/
structure OkC (C : R.Spec) (args : List PV) (v : PyData) : Prop where
  ok : ∀ q : PV → Prop, q (.d v) → C args q
section
variable {env env' env'' : Ev} {v w u : PyData} {r ra rb : RE1} {rs : RA1} {vs : List PyData}
theorem OkE.cast (h : OkE r env v) (e : w = v) : OkE r env w := e ▸ h
/-! ### leaves -/
theorem oC {d : PyData} : OkE (rC d) env d := ⟨fun q h => h⟩
theorem oV {i : Nat} (h : env[i]? = some (.val (.d v))) : OkE (rVar i) env v := ⟨fun q k => ⟨_, h, k⟩⟩
theorem oO {i : Nat} (h : env[i]? = some (.own v)) : OkE (rOwn i) env v := ⟨fun q k => ⟨_, h, k⟩⟩
theorem oBin {s : S2} (ha : OkE ra env v) (hb : OkE rb env w) (h : ∀ q : PV → Prop, q (.d u) → s (.d v) (.d w) q) : OkE (rBin s ra rb) env u :=
  ⟨fun q k => ha.ok _ (hb.ok _ ⟨rfl, h _ k⟩)⟩
theorem oUn {s : S1} (ha : OkE ra env v) (h : ∀ q : PV → Prop, q (.d u) → s (.d v) q) : OkE (rUn s ra) env u := ⟨fun q k => ha.ok _ (h _ k)⟩
/-! ### numbers -/
section
variable {i j : Int}
theorem oAddI (ha : OkE ra env (enc i)) (hb : OkE rb env (enc j)) : OkE (rBin sAdd ra rb) env (enc (i + j)) := oBin ha hb fun _ k => k
theorem oSubI (ha : OkE ra env (enc i)) (hb : OkE rb env (enc j)) : OkE (rBin sSub ra rb) env (enc (i - j)) := oBin ha hb fun _ k => k
theorem oMulI (ha : OkE ra env (enc i)) (hb : OkE rb env (enc j)) (h : CMul i j) : OkE (rBin sMul ra rb) env (enc (i * j)) := oBin ha hb fun _ k => ⟨h, k⟩
theorem oDivI (ha : OkE ra env (enc i)) (hb : OkE rb env (enc j)) (h : CDiv i j) : OkE (rBin sFdiv ra rb) env (enc (i / j)) := oBin ha hb fun _ k => ⟨h, k⟩
theorem oModI (ha : OkE ra env (enc i)) (hb : OkE rb env (enc j)) (h : 0 < j) : OkE (rBin sMod ra rb) env (enc (i % j)) := oBin ha hb fun _ k => ⟨h, k⟩
theorem oNegI (ha : OkE ra env (enc i)) : OkE (rUn sNeg ra) env (enc (-i)) := oUn ha fun _ k => k
theorem oLtI (ha : OkE ra env (enc i)) (hb : OkE rb env (enc j)) : OkE (rBin sLt ra rb) env (enc (decide (i < j))) := oBin ha hb fun _ k => k
theorem oLeI (ha : OkE ra env (enc i)) (hb : OkE rb env (enc j)) : OkE (rBin sLe ra rb) env (enc (decide (i ≤ j))) := oBin ha hb fun _ k => k
theorem oGtI (ha : OkE ra env (enc i)) (hb : OkE rb env (enc j)) : OkE (rBin sGt ra rb) env (enc (decide (j < i))) := oBin ha hb fun _ k => k
theorem oGeI (ha : OkE ra env (enc i)) (hb : OkE rb env (enc j)) : OkE (rBin sGe ra rb) env (enc (decide (j ≤ i))) := oBin ha hb fun _ k => k
end
/-! ### texts, lists -/
section
variable {τ : Type} [Enc τ] {x y : Str} {xs ys : List τ}
theorem oAddS (ha : OkE ra env (enc x)) (hb : OkE rb env (enc y)) (h : x.length + y.length ≤ sizeLine) : OkE (rBin sAdd ra rb) env (enc (x ++ y)) := oBin ha hb fun _ k => ⟨h, k⟩
theorem oAddL (ha : OkE ra env (enc xs)) (hb : OkE rb env (enc ys)) (h : xs.length + ys.length ≤ sizeLine) : OkE (rBin sAdd ra rb) env (enc (xs ++ ys)) :=
  oBin ha hb fun _ k => ⟨by rw [List.length_map, List.length_map]; exact h, by rw [← List.map_append]; exact k⟩
theorem oAddV {xs ys : Vec τ} (ha : OkE ra env (enc xs)) (hb : OkE rb env (enc ys)) (h : xs.l.length + ys.l.length ≤ sizeLine) : OkE (rBin sAdd ra rb) env (enc (Vec.mk (xs.l ++ ys.l))) :=
  oBin ha hb fun _ k => ⟨by rw [List.length_map, List.length_map]; exact h, by
    have e : enc (Vec.mk (xs.l ++ ys.l)) = .tuple (xs.l.map enc ++ ys.l.map enc) := congrArg PyData.tuple List.map_append
    rw [← e]
    exact k⟩
theorem oLtS (ha : OkE ra env (enc x)) (hb : OkE rb env (enc y)) : OkE (rBin sLt ra rb) env (enc (decide (x.cps.toList < y.cps.toList))) := oBin ha hb fun _ k => k
end
/-! ### == -/
section
variable {τ : Type} [Enc τ] {a b : τ}
/-- when two values may be compared -/
def eqOk {τ : Type} [Enc τ] (a b : τ) : Prop := EqOk (enc a) (enc b)
theorem eqOk_int {i j : Int} : eqOk i j := .inl rfl
theorem eqOk_bool {i j : Bool} : eqOk i j := .inl rfl
theorem eqOk_str {i j : Str} : eqOk i j := .inl rfl
theorem eqOk_no [NoStr τ] [Dep τ] (hd : Dep.n τ ≤ 64 := by decide) : eqOk a b := .inr ⟨shaped_of (NoStr.lay a) hd, shaped_of (NoStr.lay b) hd⟩
theorem eqOk_lay [Dep τ] (ha : layT a) (hb : layT b) (hd : Dep.n τ ≤ 64 := by decide) : eqOk a b := .inr ⟨shaped_of ha hd, shaped_of hb hd⟩
theorem oEq (ha : OkE ra env (enc a)) (hb : OkE rb env (enc b)) (h : eqOk a b) : OkE (rBin sEq ra rb) env (enc (eqT a b)) := oBin ha hb fun _ k => ⟨h, k⟩
theorem oNe (ha : OkE ra env (enc a)) (hb : OkE rb env (enc b)) (h : eqOk a b) : OkE (rBin sNe ra rb) env (enc (!eqT a b)) := oBin ha hb fun _ k => ⟨h, k⟩
theorem oIsN {a : Option τ} [NotNone τ] (ha : OkE ra env (enc a)) : OkE (rUn sIsN ra) env (enc a.isNone) := oUn ha fun q k => by
  have e : isN (enc a) = a.isNone := by
    cases a with
    | none => rfl
    | some a =>
      have := NotNone.nn a
      show isN (enc a) = false
      cases h : enc a <;> first | rfl | exact absurd h this
  show q (.d (.bool (isN (enc a))))
  rw [e]; exact k
theorem oNotN {a : Option τ} [NotNone τ] (ha : OkE ra env (enc a)) : OkE (rUn sNotN ra) env (enc a.isSome) := oUn ha fun q k => by
  have e : (!isN (enc a)) = a.isSome := by
    cases a with
    | none => rfl
    | some a =>
      have := NotNone.nn a
      show (!isN (enc a)) = true
      cases h : enc a <;> first | rfl | exact absurd h this
  show q (.d (.bool (!isN (enc a))))
  rw [e]; exact k
end
/-! ### and, or, not, if -/
section
variable {a b : Bool} {rt ru : RT1}
theorem tT (h : OkE r env (enc b)) : OkT (rTest r) env b := ⟨fun q k => h.ok _ ⟨b, rfl, k⟩⟩
theorem tAnd' (ha : OkT rt env a) (hb : a = true → OkT ru env b) : OkT (rAnd rt ru) env (a && b) := ⟨fun q k => ha.ok _ (by
  cases a with
  | true => rw [if_pos rfl]; exact (hb rfl).ok _ k
  | false => rw [if_neg Bool.false_ne_true]; exact k)⟩
theorem tOr' (ha : OkT rt env a) (hb : a = false → OkT ru env b) : OkT (rOr rt ru) env (a || b) := ⟨fun q k => ha.ok _ (by
  cases a with
  | true => rw [if_pos rfl]; exact k
  | false => rw [if_neg Bool.false_ne_true]; exact (hb rfl).ok _ k)⟩
theorem tNot' (ha : OkT rt env a) : OkT (rNot rt) env (!a) := ⟨fun q k => ha.ok _ k⟩
theorem oAnd (ha : OkE ra env (enc a)) (hb : a = true → OkE rb env (enc b)) : OkE (rAndV ra rb) env (enc (a && b)) := ⟨fun q k => ha.ok _ ⟨a, rfl, by
  cases a with
  | true => rw [if_pos rfl]; exact (hb rfl).ok _ k
  | false => rw [if_neg Bool.false_ne_true]; exact k⟩⟩
theorem oOr (ha : OkE ra env (enc a)) (hb : a = false → OkE rb env (enc b)) : OkE (rOrV ra rb) env (enc (a || b)) := ⟨fun q k => ha.ok _ ⟨a, rfl, by
  cases a with
  | true => rw [if_pos rfl]; exact k
  | false => rw [if_neg Bool.false_ne_true]; exact (hb rfl).ok _ k⟩⟩
theorem oNot (ha : OkE ra env (enc a)) : OkE (rNotV ra) env (enc (!a)) := ⟨fun q k => ha.ok _ ⟨a, rfl, k⟩⟩
theorem oIte {τ : Type} [Enc τ] {x y : τ} (hc : OkT rt env a) (hx : a = true → OkE ra env (enc x)) (hy : a = false → OkE rb env (enc y)) : OkE (rIte rt ra rb) env (enc (if a = true then x else y)) := ⟨fun q k => hc.ok _ (by
  cases a with
  | true => rw [if_pos rfl] at k ⊢; exact (hx rfl).ok _ k
  | false => rw [if_neg Bool.false_ne_true] at k ⊢; exact (hy rfl).ok _ k)⟩
/-- truth -/
def tru {τ : Type} [Enc τ] (a : τ) : Bool := truD (enc a)
theorem tTru {τ : Type} [Enc τ] {x : τ} (h : OkE r env (enc x)) (ok : TruOk (enc x)) : OkT (rTru r) env (tru x) := ⟨fun q k => h.ok _ ⟨_, rfl, ok, k⟩⟩
theorem tTruB (h : OkE r env (enc b)) : OkT (rTru r) env b := ⟨fun q k => h.ok _ ⟨_, rfl, trivial, k⟩⟩
theorem tTruI {i : Int} (h : OkE r env (enc i)) : OkT (rTru r) env (i != 0) := ⟨fun q k => h.ok _ ⟨_, rfl, trivial, k⟩⟩
theorem tTruL {τ : Type} [Enc τ] {xs : List τ} (h : OkE r env (enc xs)) : OkT (rTru r) env (!xs.isEmpty) := ⟨fun q k => h.ok _ ⟨_, rfl, trivial, by
  have e : truD (enc xs) = !xs.isEmpty := by cases xs <;> rfl
  rw [e]; exact k⟩⟩
theorem tTruV {τ : Type} [Enc τ] {xs : Vec τ} (h : OkE r env (enc xs)) : OkT (rTru r) env (!xs.l.isEmpty) := ⟨fun q k => h.ok _ ⟨_, rfl, trivial, by
  have e : truD (enc xs) = !xs.l.isEmpty := by cases xs with | mk l => cases l <;> rfl
  rw [e]; exact k⟩⟩
end
/-! ### displays, arguments -/
theorem aN : OkA rNil env [] := ⟨fun q k => k⟩
theorem aC (ha : OkE ra env v) (hr : OkA rs env vs) : OkA (rCons ra rs) env (v :: vs) := ⟨fun q k => ha.ok _ (hr.ok _ k)⟩
theorem aB (ha : OkE ra env v) (hr : OkA rs env vs) : OkA (rConsB ra rs) env (v :: vs) := ⟨fun q k => ha.ok _ (hr.ok _ ⟨rfl, k⟩)⟩
theorem aS {ds : List PyData} (ha : OkE ra env v) (hd : seqD (.d v) = some ds) (hr : OkA rs env vs) : OkA (rStar ra rs) env (ds ++ vs) := ⟨fun q k => ha.ok _ ⟨ds, hd, hr.ok _ ⟨rfl, by rw [← List.map_append]; exact k⟩⟩⟩
theorem datas_map : ∀ ds : List PyData, datas (ds.map .d) = some ds
  | [] => rfl
  | d :: ds => by
    show (datas (ds.map .d)).map (d :: ·) = _
    rw [datas_map ds]
    rfl
theorem oTup (h : OkA rs env vs) (hz : vs.length ≤ sizeLine) : OkE (rTup rs) env (.tuple vs) := ⟨fun q k => h.ok _ ⟨vs, datas_map vs, hz, k⟩⟩
theorem oLst (h : OkA rs env vs) (hz : vs.length ≤ sizeLine) : OkE (rLst rs) env (.list vs) := ⟨fun q k => h.ok _ ⟨vs, datas_map vs, hz, k⟩⟩
theorem oBi {s : SA} (h : OkA rs env vs) (hs : ∀ q : PV → Prop, q (.d v) → s (vs.map .d) q) : OkE (rBi s rs) env v := ⟨fun q k => h.ok _ (hs _ k)⟩
theorem oCall {n : Nat} {C : R.Spec} (h : OkA rs env vs) (hn : vs.length = n) (hc : OkC C (vs.map .d) v) : OkE (rCall n C rs) env v := ⟨fun q k => h.ok _ ⟨by rw [List.length_map]; exact hn, hc.ok _ k⟩⟩
end
end R
/-! The typed layer, part 2: [], slices, walks, comprehensions, builtins. -/
namespace R
open PySem PySem.Spec PyProof.Rows L2
open Enc (enc)
section
variable {env env' env'' : Ev} {v w u : PyData} {r ra rb : RE1} {rs : RA1} {vs : List PyData} {τ ρ : Type} [Enc τ] [Enc ρ]
/-! ### subscripts -/
theorem atI_map {α β : Type} (f : α → β) (xs : List α) (i : Int) : atI (xs.map f) i = (atI xs i).map f := by
  unfold atI
  rw [List.length_map]
  cases ixN xs.length i with
  | none => rfl
  | some j => simp [List.getElem?_map]
def ixT {α : Type} [Inhabited α] (xs : List α) (i : Int) : α := (atI xs i).getD default
theorem ixT_some {α : Type} [Inhabited α] {xs : List α} {i : Int} (h : (atI xs i).isSome = true) : atI xs i = some (ixT xs i) := by
  unfold ixT
  cases e : atI xs i with
  | none => rw [e] at h; cases h
  | some a => rfl
theorem oIxL [Inhabited τ] {xs : List τ} {i : Int} (ha : OkE ra env (enc xs)) (hb : OkE rb env (enc i)) (h : (atI xs i).isSome = true) : OkE (rBin sIdx ra rb) env (enc (ixT xs i)) :=
  oBin ha hb fun q k => ⟨enc (ixT xs i), by rw [atI_map, ixT_some h]; rfl, k⟩
theorem oIxV [Inhabited τ] {xs : Vec τ} {i : Int} (ha : OkE ra env (enc xs)) (hb : OkE rb env (enc i)) (h : (atI xs.l i).isSome = true) : OkE (rBin sIdx ra rb) env (enc (ixT xs.l i)) :=
  oBin ha hb fun q k => ⟨enc (ixT xs.l i), by rw [atI_map, ixT_some h]; rfl, k⟩
/-- a place of a tuple that is known -/
theorem oIxK {ds : List PyData} {i : Int} (ha : OkE ra env (.tuple ds)) (hb : OkE rb env (enc i)) (h : atI ds i = some v) : OkE (rBin sIdx ra rb) env v := oBin ha hb fun q k => ⟨v, h, k⟩
def ixS (x : Str) (i : Int) : Str := ⟨#[(atI x.cps.toList i).getD 0]⟩
theorem oIxS {x : Str} {i : Int} (ha : OkE ra env (enc x)) (hb : OkE rb env (enc i)) (hz : x.length ≤ sizeLine) (h : (atI x.cps.toList i).isSome = true) : OkE (rBin sIdx ra rb) env (enc (ixS x i)) :=
  oBin ha hb fun q k => ⟨hz, (atI x.cps.toList i).getD 0, by
    cases e : atI x.cps.toList i with
    | none => rw [e] at h; cases h
    | some a => rfl, k⟩
/-! ### slices -/
theorem sN : OkO rNoPart env none := ⟨fun q k => k⟩
theorem sP {i : Int} (h : OkE r env (enc i)) : OkO (rPart r) env (some i) := ⟨fun q k => h.ok _ ⟨i, rfl, k⟩⟩
def cutT {α : Type} (xs : List α) (lo hi : Option Int) : List α := (xs.drop (HT.sIx xs.length 0 lo)).take (HT.sIx xs.length xs.length hi - HT.sIx xs.length 0 lo)
theorem cutT_map {α β : Type} (f : α → β) (xs : List α) (lo hi : Option Int) : cutT (xs.map f) lo hi = (cutT xs lo hi).map f := by
  unfold cutT
  rw [List.length_map, ← List.map_drop, ← List.map_take]
section
variable {rl rh : RO1} {lo hi : Option Int}
theorem oCut (ha : OkE ra env v) (hl : OkO rl env lo) (hh : OkO rh env hi) (h : ∀ q : PV → Prop, q (.d w) → sCut lo hi (.d v) q) : OkE (rSlice ra rl rh) env w :=
  ⟨fun q k => ha.ok _ (hl.ok _ (hh.ok _ ⟨rfl, rfl, h _ k⟩))⟩
theorem oCutL {xs : List τ} (ha : OkE ra env (enc xs)) (hl : OkO rl env lo) (hh : OkO rh env hi) : OkE (rSlice ra rl rh) env (enc (cutT xs lo hi)) :=
  oCut ha hl hh fun q k => by
    show q (.d (.list (cutT (xs.map enc) lo hi)))
    rw [cutT_map]; exact k
theorem oCutV {xs : Vec τ} (ha : OkE ra env (enc xs)) (hl : OkO rl env lo) (hh : OkO rh env hi) : OkE (rSlice ra rl rh) env (enc (Vec.mk (cutT xs.l lo hi))) :=
  oCut ha hl hh fun q k => by
    show q (.d (.tuple (cutT (xs.l.map enc) lo hi)))
    rw [cutT_map]; exact k
theorem oCutS {x : Str} (ha : OkE ra env (enc x)) (hl : OkO rl env lo) (hh : OkO rh env hi) (hz : x.length ≤ sizeLine) : OkE (rSlice ra rl rh) env (enc (cutS x lo hi)) :=
  oCut ha hl hh fun q k => ⟨hz, k⟩
end
theorem oRev {xs : List τ} (ha : OkE ra env (enc xs)) : OkE (rUn sRev ra) env (enc xs.reverse) := oUn ha fun q k => by
  show q (.d (.list (xs.map enc).reverse))
  rw [← List.map_reverse]; exact k
/-! ### what is walked -/
def charsT (z : Str) : List Str := z.cps.toList.map fun c => ⟨#[c]⟩
theorem strD_chars (z : Str) : strD z = (charsT z).map enc := by
  unfold strD charsT
  rw [List.map_map]
  rfl
def rangeT (lo hi : Int) : List Int := (List.range (hi - lo).toNat).map fun i : Nat => lo + (i : Int)
theorem rangeD_T (lo hi : Int) : rangeD lo hi = (rangeT lo hi).map enc := by
  unfold rangeD rangeT
  rw [List.map_map]
  rfl
def enumT {α : Type} (xs : List α) : List (Int × α) := xs.zipIdx.map fun p => ((p.2 : Int), p.1)
theorem enumD_T (xs : List τ) : enumD (xs.map enc) = (enumT xs).map enc := by
  unfold enumD enumT
  rw [List.zipIdx_map, List.map_map, List.map_map]
  rfl
theorem iL {xs : List τ} (h : OkE r env (enc xs)) : OkI (riSeq r) env (xs.map enc) := ⟨fun q k => h.ok _ ⟨_, rfl, k⟩⟩
theorem iV {xs : Vec τ} (h : OkE r env (enc xs)) : OkI (riSeq r) env (xs.l.map enc) := ⟨fun q k => h.ok _ ⟨_, rfl, k⟩⟩
theorem iS {x : Str} (h : OkE r env (enc x)) (hz : x.cps.size ≤ sizeLine) : OkI (riSeq r) env ((charsT x).map enc) := ⟨fun q k => h.ok _ ⟨_, if_pos hz, by rw [strD_chars]; exact k⟩⟩
theorem iR1 {j : Int} (h : OkE r env (enc j)) (hb : -(2 ^ 62) ≤ j ∧ j ≤ 16777216) : OkI (riRng1 r) env ((rangeT 0 j).map enc) := ⟨fun q k => h.ok _ ⟨j, rfl, hb, by rw [rangeD_T]; exact k⟩⟩
theorem iR2 {i j : Int} (ha : OkE ra env (enc i)) (hb : OkE rb env (enc j)) (h : -(2 ^ 62) ≤ i ∧ i < 2 ^ 62 ∧ -(2 ^ 62) ≤ j ∧ j < 2 ^ 62 ∧ j - i ≤ 16777216) : OkI (riRng2 ra rb) env ((rangeT i j).map enc) :=
  ⟨fun q k => ha.ok _ (hb.ok _ ⟨rfl, i, j, rfl, rfl, h, by rw [rangeD_T]; exact k⟩)⟩
theorem iEL {xs : List τ} (h : OkE r env (enc xs)) : OkI (riEnum r) env ((enumT xs).map enc) := ⟨fun q k => h.ok _ ⟨_, rfl, by rw [enumD_T]; exact k⟩⟩
theorem iEV {xs : Vec τ} (h : OkE r env (enc xs)) : OkI (riEnum r) env ((enumT xs.l).map enc) := ⟨fun q k => h.ok _ ⟨_, rfl, by rw [enumD_T]; exact k⟩⟩
theorem iES {x : Str} (h : OkE r env (enc x)) (hz : x.cps.size ≤ sizeLine) : OkI (riEnum r) env ((enumT (charsT x)).map enc) := ⟨fun q k => h.ok _ ⟨_, if_pos hz, by rw [strD_chars, enumD_T]; exact k⟩⟩
/-! ### targets -/
theorem gNm {i : Nat} : OkG (rgName i) v env (env.set i (.val (.d v))) := ⟨fun q k => k⟩
theorem gNil : OkGs rgNil [] env env := ⟨fun q k => ⟨rfl, k⟩⟩
theorem gCons {g : RG1} {gs : RGs1} (h : OkG g v env env') (t : OkGs gs vs env' env'') : OkGs (rgCons g gs) (v :: vs) env env'' := ⟨fun q k => ⟨_, _, rfl, h.ok _ (t.ok _ k)⟩⟩
theorem gTup {n : Nat} {gs : RGs1} (h : OkGs gs vs env env') (hn : vs.length = n) : OkG (rgTup n gs) (.tuple vs) env env' := ⟨fun q k => ⟨vs, rfl, hn, h.ok _ k⟩⟩
/-! ### comprehensions -/
theorem compGo_ok {α : Type} [Enc α] {step : PyData → (Option PyData → Prop) → Prop} {p : α → Bool} {g : α → PyData} : ∀ {xs : List α}, (∀ x ∈ xs, ∀ k : Option PyData → Prop, k (if p x = true then some (g x) else none) → step (enc x) k) →
    ∀ (acc : List PyData) (k : List PyData → Prop), k (acc ++ (xs.filter p).map g) → compGo step (xs.map enc) acc k
  | [], _, acc, k, hk => by
    have hk' : k acc := by simpa using hk
    exact hk'
  | x :: xs, h, acc, k, hk => by
    have ih := compGo_ok (step := step) (p := p) (g := g) fun y hy => h y (List.mem_cons_of_mem x hy)
    refine h x List.mem_cons_self _ ?_
    by_cases c : p x = true
    · rw [if_pos c]
      refine ih _ _ ?_
      rw [List.filter_cons_of_pos c] at hk
      simpa using hk
    · rw [if_neg c]
      refine ih _ _ ?_
      rw [List.filter_cons_of_neg c] at hk
      exact hk
theorem oComp {α : Type} [Enc α] {is : List Nat} {ri : RI1} {rg : RG1} {rt : RT1} {re : RE1} {xs : List α} {p : α → Bool} {g : α → ρ} (hi : OkI ri env (xs.map enc)) (no : noOwn env is = true)
    (h : ∀ x ∈ xs, ∃ env2, OkG rg (enc x) (wipeE env is) env2 ∧ wipeE env2 is = wipeE env is ∧ OkT rt env2 (p x) ∧ (p x = true → OkE re env2 (enc (g x)))) : OkE (rComp is ri rg rt re) env (enc ((xs.filter p).map g)) := by
  have e : enc ((xs.filter p).map g) = .list ([] ++ (xs.filter p).map fun x => enc (g x)) := by
    show PyData.list _ = _
    rw [List.map_map, List.nil_append]
    rfl
  refine ⟨fun q k => hi.ok _ ⟨no, compGo_ok (p := p) (g := fun x => enc (g x)) (fun x hx kk hk => ?_) [] _ (by rw [e] at k; exact k)⟩⟩
  obtain ⟨env2, h1, h2, h3, h4⟩ := h x hx
  refine h1.ok _ ⟨h2, h3.ok _ ⟨rfl, ?_⟩⟩
  cases c : p x with
  | true =>
    rw [c, if_pos rfl] at hk
    rw [if_pos rfl]
    exact (h4 c).ok _ ⟨rfl, _, rfl, hk⟩
  | false =>
    rw [c, if_neg Bool.false_ne_true] at hk
    rw [if_neg Bool.false_ne_true]
    exact hk
theorem oCompA {α : Type} [Enc α] {is : List Nat} {ri : RI1} {rg : RG1} {re : RE1} {xs : List α} {g : α → ρ} (hi : OkI ri env (xs.map enc)) (no : noOwn env is = true)
    (h : ∀ x ∈ xs, ∃ env2, OkG rg (enc x) (wipeE env is) env2 ∧ wipeE env2 is = wipeE env is ∧ OkE re env2 (enc (g x))) : OkE (rComp is ri rg rYes re) env (enc (xs.map g)) := by
  have := oComp (p := fun _ => true) (g := g) (rt := rYes) (re := re) (rg := rg) hi no fun x hx => by
    obtain ⟨e2, h1, h2, h3⟩ := h x hx
    exact ⟨e2, h1, h2, ⟨fun q k => k⟩, fun _ => h3⟩
  rw [List.filter_eq_self.mpr (by simp)] at this
  exact this
/-! ### builtins -/
theorem bLenL {xs : List τ} (h : OkE ra env (enc xs)) : OkE (rBi sLen (rConsB ra rNil)) env (enc (xs.length : Int)) := oBi (aB h aN) fun q k => by
  show q (.d (.int ((xs.map enc).length : Nat)))
  rw [List.length_map]; exact k
theorem bLenV {xs : Vec τ} (h : OkE ra env (enc xs)) : OkE (rBi sLen (rConsB ra rNil)) env (enc (xs.l.length : Int)) := oBi (aB h aN) fun q k => by
  show q (.d (.int ((xs.l.map enc).length : Nat)))
  rw [List.length_map]; exact k
theorem bLenK {ds : List PyData} (h : OkE ra env (.tuple ds)) : OkE (rBi sLen (rConsB ra rNil)) env (enc (ds.length : Int)) := oBi (aB h aN) fun q k => k
theorem bLenS {x : Str} (h : OkE ra env (enc x)) (hz : x.length ≤ sizeLine) : OkE (rBi sLen (rConsB ra rNil)) env (enc (x.length : Int)) := oBi (aB h aN) fun q k => ⟨hz, k⟩
theorem bLenD {κ ν : Type} [Enc κ] [Enc ν] {d : Dct κ ν} (h : OkE ra env (enc d)) : OkE (rBi sLen (rConsB ra rNil)) env (enc (d.l.length : Int)) := oBi (aB h aN) fun q k => by
  show q (.d (.int ((d.l.map _).length : Nat)))
  rw [List.length_map]; exact k
theorem bTupL {xs : List τ} (h : OkE ra env (enc xs)) : OkE (rBi sTuple (rConsB ra rNil)) env (enc (Vec.mk xs)) := oBi (aB h aN) fun q k => k
theorem bTupT {ds : List PyData} (h : OkE ra env (.tuple ds)) : OkE (rBi sTuple (rConsB ra rNil)) env (.tuple ds) := oBi (aB h aN) fun q k => k
theorem bTupS {x : Str} (h : OkE ra env (enc x)) (hz : x.cps.size ≤ sizeLine) : OkE (rBi sTuple (rConsB ra rNil)) env (enc (Vec.mk (charsT x))) := oBi (aB h aN) fun q k => ⟨hz, by
  rw [strD_chars]; exact k⟩
theorem bTupD {κ ν : Type} [Enc κ] [Enc ν] {d : Dct κ ν} (h : OkE ra env (enc d)) : OkE (rBi sTuple (rConsB ra rNil)) env (enc (Vec.mk (d.l.map (·.1)))) := oBi (aB h aN) fun q k => by
  have e : enc (Vec.mk (d.l.map (·.1))) = .tuple ((d.l.map fun p => (enc p.1, enc p.2)).map (·.1)) := by
    show PyData.tuple _ = _
    rw [List.map_map, List.map_map]; rfl
  rw [e] at k; exact k
theorem bListL {xs : List τ} (h : OkE ra env (enc xs)) : OkE (rBi sList (rConsB ra rNil)) env (enc xs) := oBi (aB h aN) fun q k => k
theorem bListV {xs : Vec τ} (h : OkE ra env (enc xs)) : OkE (rBi sList (rConsB ra rNil)) env (enc xs.l) := oBi (aB h aN) fun q k => k
theorem bListK {ds : List PyData} (h : OkE ra env (.tuple ds)) : OkE (rBi sList (rConsB ra rNil)) env (.list ds) := oBi (aB h aN) fun q k => k
theorem bListD {κ ν : Type} [Enc κ] [Enc ν] {d : Dct κ ν} (h : OkE ra env (enc d)) : OkE (rBi sList (rConsB ra rNil)) env (enc (d.l.map (·.1))) := oBi (aB h aN) fun q k => by
  have e : enc (d.l.map (·.1)) = .list ((d.l.map fun p => (enc p.1, enc p.2)).map (·.1)) := by
    show PyData.list _ = _
    rw [List.map_map, List.map_map]; rfl
  rw [e] at k; exact k
theorem bListR1 {j : Int} (h : OkE r env (enc j)) (hb : -(2 ^ 62) ≤ j ∧ j ≤ 16777216) : OkE (rListRg1 .list r) env (enc (rangeT 0 j)) := ⟨fun q k => h.ok _ ⟨j, rfl, hb, by rw [rangeD_T]; exact k⟩⟩
theorem bListR2 {i j : Int} (ha : OkE ra env (enc i)) (hb : OkE rb env (enc j)) (h : -(2 ^ 62) ≤ i ∧ i < 2 ^ 62 ∧ -(2 ^ 62) ≤ j ∧ j < 2 ^ 62 ∧ j - i ≤ 16777216) : OkE (rListRg2 .list ra rb) env (enc (rangeT i j)) :=
  ⟨fun q k => ha.ok _ (hb.ok _ ⟨rfl, i, j, rfl, rfl, h, by rw [rangeD_T]; exact k⟩)⟩
theorem bAbs {i : Int} (h : OkE ra env (enc i)) : OkE (rBi sAbs (rConsB ra rNil)) env (enc (if i < 0 then -i else i)) := oBi (aB h aN) fun q k => k
theorem bMax {i j : Int} (ha : OkE ra env (enc i)) (hb : OkE rb env (enc j)) : OkE (rBi sMax2 (rConsB ra (rConsB rb rNil))) env (enc (max i j)) := oBi (aB ha (aB hb aN)) fun q k => by
  have e : max i j = if j > i then j else i := by
    rw [Int.max_def]
    split <;> split <;> omega
  show q (.d (.int (if j > i then j else i)))
  rw [← e]; exact k
theorem bMin {i j : Int} (ha : OkE ra env (enc i)) (hb : OkE rb env (enc j)) : OkE (rBi sMin2 (rConsB ra (rConsB rb rNil))) env (enc (min i j)) := oBi (aB ha (aB hb aN)) fun q k => by
  have e : min i j = if j < i then j else i := by
    rw [Int.min_def]
    split <;> split <;> omega
  show q (.d (.int (if j < i then j else i)))
  rw [← e]; exact k
theorem bInt {i : Int} (h : OkE ra env (enc i)) : OkE (rBi sInt1 (rConsB ra rNil)) env (enc i) := oBi (aB h aN) fun q k => k
/-! ### in -/
def inT {α : Type} [Enc α] (x : α) (xs : List α) : Bool := xs.any fun z => eqT z x
theorem inT_eq {α : Type} [Enc α] [DecidableEq α] [Lawful α] (x : α) (xs : List α) : inT x xs = decide (x ∈ xs) := by
  unfold inT
  induction xs with
  | nil => rfl
  | cons y ys ih =>
    rw [List.any_cons, ih, eqT_eq]
    by_cases h : x = y
    · simp [h]
    · have h' : ¬ y = x := fun e => h e.symm
      simp [h, h']
theorem any_map' {α : Type} [Enc α] (x : α) (xs : List α) : (xs.map enc).any (fun z => PyData.eqv z (enc x)) = inT x xs := by
  rw [List.any_map]; rfl
def inOk {α : Type} [Enc α] (x : α) (xs : List α) : Prop := SeqAt.shaped (enc x) = true ∧ SeqAt.shaped (.list (xs.map enc)) = true
theorem inOk_no {α : Type} [Enc α] [NoStr α] [Dep α] (x : α) (xs : List α) (hd : Dep.n α ≤ 63 := by decide) : inOk x xs :=
  ⟨shaped_of (NoStr.lay x) (by omega), shaped_of (τ := List α) (NoStr.lay xs) (Nat.succ_le_succ hd)⟩
theorem inOk_lay {α : Type} [Enc α] [Dep α] {x : α} {xs : List α} (h1 : layT x) (h2 : ∀ y ∈ xs, layT y) (hd : Dep.n α ≤ 63 := by decide) : inOk x xs :=
  ⟨shaped_of h1 (by omega), shaped_of (τ := List α) (lay_list h2) (Nat.succ_le_succ hd)⟩
theorem shaped_tup {ds : List PyData} (h : SeqAt.shaped (.list ds) = true) : SeqAt.shaped (.tuple ds) = true := h
theorem oInL {x : τ} {xs : List τ} (ha : OkE ra env (enc x)) (hb : OkE rb env (enc xs)) (h : inOk x xs) : OkE (rBin sIn ra rb) env (enc (inT x xs)) := oBin ha hb fun q k => ⟨h, by
  rw [any_map', Bool.false_bne]; exact k⟩
theorem oInV {x : τ} {xs : Vec τ} (ha : OkE ra env (enc x)) (hb : OkE rb env (enc xs)) (h : inOk x xs.l) : OkE (rBin sIn ra rb) env (enc (inT x xs.l)) := oBin ha hb fun q k => ⟨⟨h.1, shaped_tup h.2⟩, by
  rw [any_map', Bool.false_bne]; exact k⟩
theorem oNiL {x : τ} {xs : List τ} (ha : OkE ra env (enc x)) (hb : OkE rb env (enc xs)) (h : inOk x xs) : OkE (rBin sNotIn ra rb) env (enc (!inT x xs)) := oBin ha hb fun q k => ⟨h, by
  rw [any_map', Bool.true_bne]; exact k⟩
theorem oNiV {x : τ} {xs : Vec τ} (ha : OkE ra env (enc x)) (hb : OkE rb env (enc xs)) (h : inOk x xs.l) : OkE (rBin sNotIn ra rb) env (enc (!inT x xs.l)) := oBin ha hb fun q k => ⟨⟨h.1, shaped_tup h.2⟩, by
  rw [any_map', Bool.true_bne]; exact k⟩
/-! ### index -/
def idxT {α : Type} [Enc α] (xs : List α) (y : α) : Option Nat := xs.findIdx? fun z => eqT z y
theorem oIndex {x : τ} {xs : List τ} (ha : OkE ra env (enc xs)) (hb : OkE rb env (enc x)) (h : inOk x xs) (hs : (idxT xs x).isSome = true) : OkE (rMt okL sIndex ra (rConsB rb rNil)) env (enc (((idxT xs x).getD 0 : Nat) : Int)) :=
  ⟨fun q k => ha.ok _ ⟨⟨_, rfl⟩, (aB hb aN).ok _ ⟨rfl, ⟨h.2, h.1⟩, (idxT xs x).getD 0, by
    have e : idxD (xs.map enc) (enc x) = idxT xs x := by
      unfold idxD idxT
      rw [List.findIdx?_map]
      rfl
    rw [e]
    cases c : idxT xs x with
    | none => rw [c] at hs; cases hs
    | some j => rfl, k⟩⟩⟩
/-! ### sorted -/
def sortT {α : Type} [Enc α] (xs : List α) : List α := isort (fun a b => ltD (enc a) (enc b)) xs
theorem sortD_T {α : Type} [Enc α] (xs : List α) : sortD (xs.map enc) = (sortT xs).map enc := (isort_map (lt := fun a b : α => ltD (enc a) (enc b)) (lt' := ltD) enc xs fun _ _ _ _ => rfl).symm
class SrtOk (α : Type) [Enc α] : Prop where
  ok : ∀ xs : List α, okSort (xs.map enc)
instance : SrtOk Int := ⟨fun xs => .inl fun d hd => by
  obtain ⟨i, _, rfl⟩ := List.mem_map.mp hd
  exact ⟨i, rfl⟩⟩
instance : SrtOk Str := ⟨fun xs => .inr (.inl fun d hd => by
  obtain ⟨i, _, rfl⟩ := List.mem_map.mp hd
  exact ⟨i, rfl⟩)⟩
instance : SrtOk (Int × Int) := ⟨fun xs => .inr (.inr ⟨fun _ => false, fun d hd => by
  obtain ⟨p, _, rfl⟩ := List.mem_map.mp hd
  exact ⟨_, _, rfl, rfl⟩⟩)⟩
instance : SrtOk (T3 Int Int Int) := ⟨fun xs => .inr (.inr ⟨fun _ => false, fun d hd => by
  obtain ⟨p, _, rfl⟩ := List.mem_map.mp hd
  exact ⟨_, _, rfl, rfl⟩⟩)⟩
instance : SrtOk (Str × Str) := ⟨fun xs => .inr (.inr ⟨fun _ => true, fun d hd => by
  obtain ⟨p, _, rfl⟩ := List.mem_map.mp hd
  exact ⟨_, _, rfl, rfl⟩⟩)⟩
instance : SrtOk (Str × Int) := ⟨fun xs => .inr (.inr ⟨fun i => i == 0, fun d hd => by
  obtain ⟨p, _, rfl⟩ := List.mem_map.mp hd
  exact ⟨_, _, rfl, rfl⟩⟩)⟩
instance : SrtOk (Int × Str) := ⟨fun xs => .inr (.inr ⟨fun i => i == 1, fun d hd => by
  obtain ⟨p, _, rfl⟩ := List.mem_map.mp hd
  exact ⟨_, _, rfl, rfl⟩⟩)⟩
theorem bSort {ds : List PyData} (h : OkE ra env v) (he : elemsD v = some ds) (ok : okSort ds) : OkE (rBi sSorted (rConsB ra rNil)) env (.list (sortD ds)) := oBi (aB h aN) fun q k => ⟨ds, he, ok, k⟩
theorem bSortL [SrtOk τ] {xs : List τ} (h : OkE ra env (enc xs)) : OkE (rBi sSorted (rConsB ra rNil)) env (enc (sortT xs)) := (bSort h rfl (SrtOk.ok xs)).cast (congrArg PyData.list (sortD_T xs).symm)
theorem bSortV [SrtOk τ] {xs : Vec τ} (h : OkE ra env (enc xs)) : OkE (rBi sSorted (rConsB ra rNil)) env (enc (sortT xs.l)) := (bSort h rfl (SrtOk.ok xs.l)).cast (congrArg PyData.list (sortD_T xs.l).symm)
theorem bSortD {κ ν : Type} [Enc κ] [Enc ν] [SrtOk κ] {d : Dct κ ν} (h : OkE ra env (enc d)) : OkE (rBi sSorted (rConsB ra rNil)) env (enc (sortT (d.l.map (·.1)))) := by
  have e : (d.l.map fun p => (enc p.1, enc p.2)).map (·.1) = (d.l.map (·.1)).map enc := by
    rw [List.map_map, List.map_map]; rfl
  exact (bSort h (by show some _ = some _; rw [e]) (SrtOk.ok _)).cast (congrArg PyData.list (sortD_T _).symm)
theorem bSrtL {xs : List τ} (h : OkE ra env (enc xs)) (ok : okSort (xs.map enc)) : OkE (rBi sSorted (rConsB ra rNil)) env (enc (sortT xs)) := (bSort h rfl ok).cast (congrArg PyData.list (sortD_T xs).symm)
theorem bSrtV {xs : Vec τ} (h : OkE ra env (enc xs)) (ok : okSort (xs.l.map enc)) : OkE (rBi sSorted (rConsB ra rNil)) env (enc (sortT xs.l)) := (bSort h rfl ok).cast (congrArg PyData.list (sortD_T xs.l).symm)
theorem bSrtD {κ ν : Type} [Enc κ] [Enc ν] {d : Dct κ ν} (h : OkE ra env (enc d)) (ok : okSort ((d.l.map (·.1)).map enc)) : OkE (rBi sSorted (rConsB ra rNil)) env (enc (sortT (d.l.map (·.1)))) := by
  have e : (d.l.map fun p => (enc p.1, enc p.2)).map (·.1) = (d.l.map (·.1)).map enc := by
    rw [List.map_map, List.map_map]; rfl
  exact (bSort h (by show some _ = some _; rw [e]) ok).cast (congrArg PyData.list (sortD_T _).symm)
end
/-! ### dicts -/
class KeyT (κ : Type) [Enc κ] [DecidableEq κ] where
  simple : Bool
  ok : ∀ a : κ, (if simple then simpleK (enc a) else tupK (enc a)) = true
  eq : ∀ a b : κ, keyEq (enc a) (enc b) = decide (a = b)
instance : KeyT Int := ⟨true, fun _ => rfl, fun a b => by simp [keyEq, nk, enc]⟩
instance : KeyT Str := ⟨true, fun _ => rfl, fun a b => by simp [keyEq, nk, enc]⟩
theorem and_dec {p q : Prop} [Decidable p] [Decidable q] : decide (p ∧ q) = (decide p && decide q) := by by_cases p <;> by_cases q <;> simp [*]
instance : KeyT (Int × Int) := ⟨false, fun p => rfl, fun a b => by
  obtain ⟨a, a'⟩ := a
  obtain ⟨b, b'⟩ := b
  simp [keyEq, nk, nkAll, enc]⟩
instance : KeyT (Str × Str) := ⟨false, fun p => rfl, fun a b => by
  obtain ⟨a, a'⟩ := a
  obtain ⟨b, b'⟩ := b
  simp [keyEq, nk, nkAll, enc]⟩
instance : KeyT (Str × Int) := ⟨false, fun p => rfl, fun a b => by
  obtain ⟨a, a'⟩ := a
  obtain ⟨b, b'⟩ := b
  simp [keyEq, nk, nkAll, enc]⟩
instance : KeyT (Int × Str) := ⟨false, fun p => rfl, fun a b => by
  obtain ⟨a, a'⟩ := a
  obtain ⟨b, b'⟩ := b
  simp [keyEq, nk, nkAll, enc]⟩
section
variable {κ ν : Type} [Enc κ] [Enc ν] [DecidableEq κ] [KeyT κ] {env : Ev} {r ra rb : RE1}
abbrev encP (p : κ × ν) : PyData × PyData := (enc p.1, enc p.2)
def putT (d : List (κ × ν)) (k : κ) (v : ν) : List (κ × ν) := if (d.any fun p => decide (p.1 = k)) = true then d.map (fun p => if p.1 = k then (p.1, v) else p) else d ++ [(k, v)]
def dictT (xs : List (κ × ν)) : Dct κ ν := ⟨xs.foldl (fun d p => putT d p.1 p.2) []⟩
def getT (d : Dct κ ν) (k : κ) : Option ν := (d.l.find? fun p => decide (p.1 = k)).map (·.2)
theorem dput_T (d : List (κ × ν)) (k : κ) (v : ν) : dput (d.map encP) (enc k) (enc v) = (putT d k v).map encP := by
  unfold dput putT
  have e : ((d.map encP).any fun p => keyEq p.1 (enc k)) = d.any fun p => decide (p.1 = k) := by
    rw [List.any_map]
    congr 1
    funext p
    exact KeyT.eq p.1 k
  rw [e]
  split
  · rw [List.map_map, List.map_map]
    refine List.map_congr_left fun p _ => ?_
    show (if keyEq (enc p.1) (enc k) = true then ((enc p.1 : PyData), (enc v : PyData)) else (enc p.1, enc p.2)) = encP (if p.1 = k then (p.1, v) else p)
    rw [KeyT.eq]
    by_cases h : p.1 = k <;> simp [h, encP]
  · rw [List.map_append]
    rfl
theorem dmerge_T : ∀ (xs d : List (κ × ν)), dmerge (d.map encP) (xs.map encP) = (xs.foldl (fun d p => putT d p.1 p.2) d).map encP
  | [], d => rfl
  | x :: xs, d => by
    show dmerge (dput (d.map encP) (enc x.1) (enc x.2)) (xs.map encP) = _
    rw [dput_T, dmerge_T xs]
    rfl
theorem pairsD_T : ∀ xs : List (κ × ν), pairsD (xs.map enc) = some (xs.map encP)
  | [] => rfl
  | x :: xs => by
    show (match pairD (enc x), pairsD (xs.map enc) with
      | some p, some ps => some (p :: ps)
      | _, _ => none) = _
    rw [pairsD_T xs]
    rfl
theorem keys_ok (xs : List (κ × ν)) : (((xs.map encP).all fun p => simpleK p.1) || ((xs.map encP).all fun p => tupK p.1)) = true := by
  rw [Bool.or_eq_true]
  cases c : KeyT.simple κ with
  | true =>
    refine .inl (List.all_eq_true.mpr fun p hp => ?_)
    obtain ⟨x, _, rfl⟩ := List.mem_map.mp hp
    have := KeyT.ok x.1
    rw [c] at this
    exact this
  | false =>
    refine .inr (List.all_eq_true.mpr fun p hp => ?_)
    obtain ⟨x, _, rfl⟩ := List.mem_map.mp hp
    have := KeyT.ok x.1
    rw [c] at this
    exact this
theorem bDict {xs : List (κ × ν)} (h : OkE ra env (enc xs)) : OkE (rBi sDict (rConsB ra rNil)) env (enc (dictT xs)) := oBi (aB h aN) fun q k => ⟨xs.map encP, pairsD_T xs, keys_ok xs, by
  have e := dmerge_T xs []
  rw [show (([] : List (κ × ν)).map encP) = [] from rfl] at e
  rw [e]
  exact k⟩
theorem keyOk_T (d : Dct κ ν) (k : κ) : keyOk (d.l.map encP) (enc k) = true := by
  unfold keyOk
  have hk := KeyT.ok k
  have hd := keys_ok d.l
  cases c : KeyT.simple κ with
  | true =>
    rw [c] at hk
    have : ((d.l.map encP).all fun p => simpleK p.1) = true := List.all_eq_true.mpr fun p hp => by
      obtain ⟨x, _, rfl⟩ := List.mem_map.mp hp
      have := KeyT.ok x.1
      rw [c] at this
      exact this
    rw [this, show simpleK (enc k) = true from hk]
    rfl
  | false =>
    rw [c] at hk
    have : ((d.l.map encP).all fun p => tupK p.1) = true := List.all_eq_true.mpr fun p hp => by
      obtain ⟨x, _, rfl⟩ := List.mem_map.mp hp
      have := KeyT.ok x.1
      rw [c] at this
      exact this
    rw [this, show tupK (enc k) = true from hk, Bool.and_self, Bool.or_true]
theorem dget_T (d : Dct κ ν) (k : κ) : dget (d.l.map encP) (enc k) = (getT d k).map enc := by
  unfold dget getT
  rw [List.find?_map, Option.map_map, Option.map_map]
  have e : ((fun p : PyData × PyData => keyEq p.1 (enc k)) ∘ encP (κ := κ) (ν := ν)) = fun p => decide (p.1 = k) := funext fun p => KeyT.eq p.1 k
  rw [e]
  rfl
theorem oIxD [Inhabited ν] {d : Dct κ ν} {k : κ} (ha : OkE ra env (enc d)) (hb : OkE rb env (enc k)) (h : (getT d k).isSome = true) : OkE (rBin sIdx ra rb) env (enc ((getT d k).getD default)) :=
  oBin ha hb fun q hq => by
    have go : ∀ q : PV → Prop, q (.d (enc ((getT d k).getD default))) → keyOk (d.l.map encP) (enc k) = true ∧ ∃ x, dget (d.l.map encP) (enc k) = some x ∧ q (.d x) := fun q hq => ⟨keyOk_T d k, _, by
      rw [dget_T]
      cases e : getT d k with
      | none => rw [e] at h; cases h
      | some v => rfl, hq⟩
    exact go q hq
end
end R
/-! The typed layer, part 3: statements of defs. -/
namespace R
open PySem PySem.Spec PyProof.Rows L2
open Enc (enc)
section
variable {env env' : Ev} {v w u : PyData} {re : RE1} {rg : RG1} {rs : RA1} {rt : RT1} {r r' r1 r2 : RS1} {E : REnds} {b : Bool} {i j m : Nat}
theorem seqN (h : OkE re env v) (k : r' (env.set i (.val (.d v))) E) : rSeq (rAsg re (rgName i)) r' env E := h.ok _ k
theorem seqG (h : OkE re env v) (g : OkG rg v env env') (k : r' env' E) : rSeq (rAsg re rg) r' env E := h.ok _ (g.ok _ k)
theorem seq2 (h : OkA rs env [v, w]) (k : r' ((env.set i (.val (.d v))).set j (.val (.d w))) E) : rSeq (rPar2 i j rs) r' env E := h.ok _ ⟨_, _, rfl, k⟩
theorem seq3 (h : OkA rs env [v, w, u]) (k : r' (((env.set i (.val (.d v))).set j (.val (.d w))).set m (.val (.d u))) E) : rSeq (rPar3 i j m rs) r' env E := h.ok _ ⟨_, _, _, rfl, k⟩
theorem seqI (h : OkT rt env b) (k1 : b = true → r1 env { E with nx := fun e => r' e E }) (k2 : b = false → r2 env { E with nx := fun e => r' e E }) : rSeq (rIf rt r1 r2) r' env E := h.ok _ (by
  cases b with
  | true => rw [if_pos rfl]; exact k1 rfl
  | false => rw [if_neg Bool.false_ne_true]; exact k2 rfl)
theorem endN (h : OkE re env v) (k : E.nx (env.set i (.val (.d v)))) : rAsg re (rgName i) env E := h.ok _ k
theorem endG (h : OkE re env v) (g : OkG rg v env env') (k : E.nx env') : rAsg re rg env E := h.ok _ (g.ok _ k)
theorem endI (h : OkT rt env b) (k1 : b = true → r1 env E) (k2 : b = false → r2 env E) : rIf rt r1 r2 env E := h.ok _ (by
  cases b with
  | true => rw [if_pos rfl]; exact k1 rfl
  | false => rw [if_neg Bool.false_ne_true]; exact k2 rfl)
theorem endR (h : OkE re env v) (k : E.rt (.d v)) : rRet re env E := h.ok _ k
theorem ifT {τ : Type} {c : Bool} {x y : τ} (h : c = true) : (if c = true then x else y) = x := if_pos h
theorem ifF {τ : Type} {c : Bool} {x y : τ} (h : c = false) : (if c = true then x else y) = y := if_neg (by rw [h]; exact Bool.false_ne_true)
theorem eqL {τ : Type} [Enc τ] {q : PV → Prop} {a b : τ} (k : q (.d (enc a))) (h : a = b) : q (.d (enc b)) := h ▸ k
end
/-! ### a tuple of unknown length as a target -/
section
variable {τ : Type} [Enc τ] [Inhabited τ] {env e1 e2 e3 : Ev} {g1 g2 g3 : RG1}
theorem len2 {α : Type} [Inhabited α] {l : List α} (h : l.length = 2) : l = [ixT l 0, ixT l 1] := by
  match l, h with
  | [a, b], _ => rfl
theorem len3 {α : Type} [Inhabited α] {l : List α} (h : l.length = 3) : l = [ixT l 0, ixT l 1, ixT l 2] := by
  match l, h with
  | [a, b, c], _ => rfl
theorem gVec2 {x : Vec τ} (h : x.l.length = 2) (k1 : OkG g1 (enc (ixT x.l 0)) env e1) (k2 : OkG g2 (enc (ixT x.l 1)) e1 e2) : OkG (rgTup 2 (rgCons g1 (rgCons g2 rgNil))) (enc x) env e2 := by
  have e : enc x = .tuple [enc (ixT x.l 0), enc (ixT x.l 1)] := by
    show PyData.tuple (x.l.map enc) = _
    conv => lhs; rw [len2 h]
    rfl
  rw [e]
  exact gTup (gCons k1 (gCons k2 gNil)) rfl
theorem gVec3 {x : Vec τ} (h : x.l.length = 3) (k1 : OkG g1 (enc (ixT x.l 0)) env e1) (k2 : OkG g2 (enc (ixT x.l 1)) e1 e2) (k3 : OkG g3 (enc (ixT x.l 2)) e2 e3) : OkG (rgTup 3 (rgCons g1 (rgCons g2 (rgCons g3 rgNil)))) (enc x) env e3 := by
  have e : enc x = .tuple [enc (ixT x.l 0), enc (ixT x.l 1), enc (ixT x.l 2)] := by
    show PyData.tuple (x.l.map enc) = _
    conv => lhs; rw [len3 h]
    rfl
  rw [e]
  exact gTup (gCons k1 (gCons k2 (gCons k3 gNil))) rfl
end
/-! ### the same data by another type -/
section
variable {α β : Type} [Enc α] [Enc β] {f : α → β}
theorem map_coe (h : ∀ a, enc (f a) = enc a) (xs : List α) : enc (xs.map f) = enc xs := by
  show PyData.list _ = PyData.list _
  rw [List.map_map]
  congr 1
  exact List.map_congr_left fun a _ => h a
theorem vec_coe (h : ∀ a, enc (f a) = enc a) (xs : Vec α) : enc (Vec.mk (xs.l.map f)) = enc xs := by
  show PyData.tuple _ = PyData.tuple _
  rw [List.map_map]
  congr 1
  exact List.map_congr_left fun a _ => h a
theorem opt_coe (h : ∀ a, enc (f a) = enc a) (x : Option α) : enc (x.map f) = enc x := by
  cases x with
  | none => rfl
  | some a => exact h a
end
theorem getD_coe {α : Type} [Enc α] [Inhabited α] {x : Option α} (h : x.isSome = true) : enc (x.getD default) = enc x := by
  cases x with
  | none => cases h
  | some a => rfl
/-! ### tuples as keys -/
class NKey (κ : Type) [Enc κ] where
  key : κ → NestedKey
  nk : ∀ a, nk (enc a) = some (key a)
  inj : ∀ a b, key a = key b → a = b
  n : Nat
  dep : ∀ a, (key a).depth ≤ n
instance : NKey Int := ⟨.num, fun _ => rfl, fun _ _ h => NestedKey.num.inj h, 0, fun _ => Nat.le_refl _⟩
instance : NKey Str := ⟨.text, fun _ => rfl, fun _ _ h => NestedKey.text.inj h, 0, fun _ => Nat.le_refl _⟩
section
variable {α β γ : Type} [Enc α] [Enc β] [Enc γ] [NKey α] [NKey β] [NKey γ]
theorem nkAll_map : ∀ xs : List α, nkAll (xs.map enc) = some (xs.map NKey.key)
  | [] => rfl
  | x :: xs => by
    show (match nk (enc x), nkAll (xs.map enc) with
      | some k, some ks => some (k :: ks)
      | _, _ => none) = _
    rw [nkAll_map xs, NKey.nk x]
    rfl
theorem map_inj' : ∀ {xs ys : List α}, xs.map NKey.key = ys.map (NKey.key (κ := α)) → xs = ys
  | [], [], _ => rfl
  | [], _ :: _, h => by simp at h
  | _ :: _, [], h => by simp at h
  | x :: xs, y :: ys, h => by
    rw [List.map_cons, List.map_cons] at h
    obtain ⟨h1, h2⟩ := List.cons.inj h
    rw [NKey.inj _ _ h1, map_inj' h2]
theorem dep_map : ∀ xs : List α, NestedKey.depthAll (xs.map NKey.key) ≤ NKey.n α
  | [] => Nat.zero_le _
  | x :: xs => Nat.max_le.mpr ⟨NKey.dep x, dep_map xs⟩
instance : NKey (Vec α) := ⟨fun x => .tup (x.l.map NKey.key), fun x => by
  show (nkAll (x.l.map enc)).map NestedKey.tup = _
  rw [nkAll_map]; rfl, fun a b h => by
  have := map_inj' (NestedKey.tup.inj h)
  cases a; cases b
  simp only at this
  rw [this], NKey.n α + 1, fun x => Nat.succ_le_succ (dep_map x.l)⟩
theorem nk_all2 {d e : PyData} {k j : NestedKey} (h1 : nk d = some k) (h2 : nk e = some j) : nk (.tuple [d, e]) = some (.tup [k, j]) := by
  simp [R.nk, nkAll, h1, h2]
theorem nk_all3 {d e f : PyData} {k j m : NestedKey} (h1 : nk d = some k) (h2 : nk e = some j) (h3 : nk f = some m) : nk (.tuple [d, e, f]) = some (.tup [k, j, m]) := by
  simp [R.nk, nkAll, h1, h2, h3]
instance : NKey (α × β) := ⟨fun p => .tup [NKey.key p.1, NKey.key p.2], fun p => nk_all2 (NKey.nk _) (NKey.nk _), fun a b h => by
  have h' := NestedKey.tup.inj h
  simp only [List.cons.injEq, and_true] at h'
  exact Prod.ext (NKey.inj _ _ h'.1) (NKey.inj _ _ h'.2), max (NKey.n α) (NKey.n β) + 1, fun p => by
  have h1 := NKey.dep p.1
  have h2 := NKey.dep p.2
  show max (NKey.key p.1).depth (max (NKey.key p.2).depth 0) + 1 ≤ _
  omega⟩
instance : NKey (T3 α β γ) := ⟨fun p => .tup [NKey.key p.a, NKey.key p.b, NKey.key p.c], fun p => nk_all3 (NKey.nk _) (NKey.nk _) (NKey.nk _), fun a b h => by
  have h' := NestedKey.tup.inj h
  simp only [List.cons.injEq, and_true] at h'
  have e1 := NKey.inj _ _ h'.1
  have e2 := NKey.inj _ _ h'.2.1
  have e3 := NKey.inj _ _ h'.2.2
  cases a
  cases b
  simp only at e1 e2 e3
  rw [e1, e2, e3], max (NKey.n α) (max (NKey.n β) (NKey.n γ)) + 1, fun p => by
  have h1 := NKey.dep p.a
  have h2 := NKey.dep p.b
  have h3 := NKey.dep p.c
  show max (NKey.key p.a).depth (max (NKey.key p.b).depth (max (NKey.key p.c).depth 0)) + 1 ≤ _
  omega⟩
theorem keyEq_N [DecidableEq α] (a b : α) : keyEq (enc a) (enc b) = decide (a = b) := by
  unfold keyEq
  rw [NKey.nk, NKey.nk]
  by_cases h : a = b
  · simp [h]
  · have : ¬ NKey.key a = NKey.key b := fun e => h (NKey.inj _ _ e)
    simp [h, this]
theorem tupK_N {a : α} {ds : List PyData} (e : enc a = .tuple ds) (h : NKey.n α ≤ 8) : tupK (enc a) = true := by
  have := NKey.nk a
  rw [e] at this ⊢
  unfold tupK
  simp only [this]
  exact decide_eq_true (Nat.le_trans (NKey.dep a) h)
end
instance : KeyT (Vec Int) := ⟨false, fun a => (by show tupK (enc a) = true; exact tupK_N rfl (by decide)), fun a b => keyEq_N a b⟩
instance : KeyT (Vec Str) := ⟨false, fun a => (by show tupK (enc a) = true; exact tupK_N rfl (by decide)), fun a b => keyEq_N a b⟩
instance : KeyT (T3 Int Int Int) := ⟨false, fun a => (by show tupK (enc a) = true; exact tupK_N rfl (by decide)), fun a b => keyEq_N a b⟩
instance : KeyT (Vec (Vec Int)) := ⟨false, fun a => (by show tupK (enc a) = true; exact tupK_N rfl (by decide)), fun a b => keyEq_N a b⟩
instance : KeyT (Vec (Int × Int)) := ⟨false, fun a => (by show tupK (enc a) = true; exact tupK_N rfl (by decide)), fun a b => keyEq_N a b⟩
end R
/-! The typed layer, part 4: readings that draw. -/
namespace R
open PySem PySem.Spec PyProof.Rows L2
open Enc (enc)
/-- in env, r tells a value as W asks, and changes nothing -/
structure WT {α : Type} [Enc α] (r : RE1) (env : Ev) (W : (α → Prop) → Prop) : Prop where
  ok : ∀ k : α → Prop, W k → ∀ q : PV → Ev → Prop, (∀ a, k a → q (.d (enc a)) env) → r env q
structure WB (r : RT1) (env : Ev) (W : (Bool → Prop) → Prop) : Prop where
  ok : ∀ k : Bool → Prop, W k → ∀ q : Bool → Ev → Prop, (∀ b, k b → q b env) → r env q
structure WI {α : Type} [Enc α] (r : RI1) (env : Ev) (W : (List α → Prop) → Prop) : Prop where
  ok : ∀ k : List α → Prop, W k → ∀ q : List PyData → Ev → Prop, (∀ xs, k xs → q (xs.map enc) env) → r env q
structure WO (r : RO1) (env : Ev) (W : (Option Int → Prop) → Prop) : Prop where
  ok : ∀ k : Option Int → Prop, W k → ∀ q : Option Int → Ev → Prop, (∀ o, k o → q o env) → r env q
/-- a list of arguments -/
structure WA (r : RA1) (env : Ev) (W : (List PV → Prop) → Prop) : Prop where
  ok : ∀ k : List PV → Prop, W k → ∀ q : List PV → Ev → Prop, (∀ vs, k vs → q vs env) → r env q
/-- a def's promise -/
structure OkW {ρ : Type} [Enc ρ] (C : R.Spec) (args : List PV) (W : (ρ → Prop) → Prop) : Prop where
  ok : ∀ k : ρ → Prop, W k → ∀ q : PV → Prop, (∀ a, k a → q (.d (enc a))) → C args q
section
variable {env : Ev} {r ra rb rc : RE1} {rs : RA1} {α β γ ρ : Type} [Enc α] [Enc β] [Enc γ] [Enc ρ] {Wa : (α → Prop) → Prop} {Wb : (β → Prop) → Prop} {Wc : (γ → Prop) → Prop}
/-- what is plain -/
theorem wE {a : α} {P : Prop} (h : P → OkE r env (enc a)) : WT r env (fun k => P ∧ k a) := ⟨fun k w q hq => (h w.1).ok q (hq a w.2)⟩
theorem wE' {a : α} (h : OkE r env (enc a)) : WT r env (fun k => k a) := ⟨fun k w q hq => h.ok q (hq a w)⟩
theorem WT.imp {W W' : (α → Prop) → Prop} (h : WT r env W) (i : ∀ k, W' k → W k) : WT r env W' := ⟨fun k w => h.ok k (i k w)⟩
/-- a draw -/
theorem wPick {i n : Nat} {rm : RE1} {Wm : (Int → Prop) → Prop} (hs : env[i]? = some (.val (.src n))) (hm : WT rm env Wm) : WT (rCall 2 cPick (rCons (rVar i) (rCons rm rNil))) env (fun k => Wm (fun m => m < 1073741824 ∧ ∀ v : Int, 0 ≤ v → v < max1 m → k v)) :=
  ⟨fun k w q hq => ⟨_, hs, hm.ok _ w _ fun m hm' => ⟨rfl, n, m, rfl, hm'.1, fun v h0 h1 => hq v (hm'.2 v h0 h1)⟩⟩⟩
theorem wBin {s : S2} {S : α → β → (ρ → Prop) → Prop} (pa : WT ra env Wa) (pb : WT rb env Wb) (hs : ∀ a b (k : ρ → Prop), S a b k → ∀ q : PV → Prop, (∀ c, k c → q (.d (enc c))) → s (.d (enc a)) (.d (enc b)) q) : WT (rBin s ra rb) env (fun k => Wa fun a => Wb fun b => S a b k) :=
  ⟨fun k w q hq => pa.ok _ w _ fun a ha => pb.ok _ ha _ fun b hb => ⟨rfl, hs a b k hb _ fun c hc => hq c hc⟩⟩
theorem wUn {s : S1} {S : α → (ρ → Prop) → Prop} (pa : WT ra env Wa) (hs : ∀ a (k : ρ → Prop), S a k → ∀ q : PV → Prop, (∀ c, k c → q (.d (enc c))) → s (.d (enc a)) q) : WT (rUn s ra) env (fun k => Wa fun a => S a k) :=
  ⟨fun k w q hq => pa.ok _ w _ fun a ha => hs a k ha _ fun c hc => hq c hc⟩
/-! ### the operators -/
section
variable {Wi Wj : (Int → Prop) → Prop}
theorem wAddI (pa : WT ra env Wi) (pb : WT rb env Wj) : WT (rBin sAdd ra rb) env (fun k => Wi fun i => Wj fun j => k (i + j)) := wBin (S := fun i j k => k (i + j)) pa pb fun a b k h q hq => hq _ h
theorem wSubI (pa : WT ra env Wi) (pb : WT rb env Wj) : WT (rBin sSub ra rb) env (fun k => Wi fun i => Wj fun j => k (i - j)) := wBin (S := fun i j k => k (i - j)) pa pb fun a b k h q hq => hq _ h
theorem wMulI (pa : WT ra env Wi) (pb : WT rb env Wj) : WT (rBin sMul ra rb) env (fun k => Wi fun i => Wj fun j => CMul i j ∧ k (i * j)) := wBin (S := fun i j k => CMul i j ∧ k (i * j)) pa pb fun a b k h q hq => ⟨h.1, hq _ h.2⟩
theorem wDivI (pa : WT ra env Wi) (pb : WT rb env Wj) : WT (rBin sFdiv ra rb) env (fun k => Wi fun i => Wj fun j => CDiv i j ∧ k (i / j)) := wBin (S := fun i j k => CDiv i j ∧ k (i / j)) pa pb fun a b k h q hq => ⟨h.1, hq _ h.2⟩
theorem wModI (pa : WT ra env Wi) (pb : WT rb env Wj) : WT (rBin sMod ra rb) env (fun k => Wi fun i => Wj fun j => 0 < j ∧ k (i % j)) := wBin (S := fun i j k => 0 < j ∧ k (i % j)) pa pb fun a b k h q hq => ⟨h.1, hq _ h.2⟩
theorem wNegI (pa : WT ra env Wi) : WT (rUn sNeg ra) env (fun k => Wi fun i => k (-i)) := wUn (S := fun i k => k (-i)) pa fun a k h q hq => hq _ h
theorem wLtI (pa : WT ra env Wi) (pb : WT rb env Wj) : WT (rBin sLt ra rb) env (fun k => Wi fun i => Wj fun j => k (decide (i < j))) := wBin (S := fun i j k => k (decide (i < j))) pa pb fun a b k h q hq => hq _ h
theorem wLeI (pa : WT ra env Wi) (pb : WT rb env Wj) : WT (rBin sLe ra rb) env (fun k => Wi fun i => Wj fun j => k (decide (i ≤ j))) := wBin (S := fun i j k => k (decide (i ≤ j))) pa pb fun a b k h q hq => hq _ h
theorem wGtI (pa : WT ra env Wi) (pb : WT rb env Wj) : WT (rBin sGt ra rb) env (fun k => Wi fun i => Wj fun j => k (decide (j < i))) := wBin (S := fun i j k => k (decide (j < i))) pa pb fun a b k h q hq => hq _ h
theorem wGeI (pa : WT ra env Wi) (pb : WT rb env Wj) : WT (rBin sGe ra rb) env (fun k => Wi fun i => Wj fun j => k (decide (j ≤ i))) := wBin (S := fun i j k => k (decide (j ≤ i))) pa pb fun a b k h q hq => hq _ h
end
theorem wAddS {Wx Wy : (Str → Prop) → Prop} (pa : WT ra env Wx) (pb : WT rb env Wy) : WT (rBin sAdd ra rb) env (fun k => Wx fun x => Wy fun y => x.length + y.length ≤ sizeLine ∧ k (x ++ y)) := wBin (S := fun x y k => x.length + y.length ≤ sizeLine ∧ k (x ++ y)) pa pb fun a b k h q hq => ⟨h.1, hq _ h.2⟩
theorem wAddL {Wx Wy : (List α → Prop) → Prop} (pa : WT ra env Wx) (pb : WT rb env Wy) : WT (rBin sAdd ra rb) env (fun k => Wx fun x => Wy fun y => x.length + y.length ≤ sizeLine ∧ k (x ++ y)) := wBin (S := fun x y k => x.length + y.length ≤ sizeLine ∧ k (x ++ y)) pa pb fun a b k h q hq => ⟨by
  rw [List.length_map, List.length_map]; exact h.1, by
  rw [← List.map_append]; exact hq _ h.2⟩
theorem wAddV {Wx Wy : (Vec α → Prop) → Prop} (pa : WT ra env Wx) (pb : WT rb env Wy) : WT (rBin sAdd ra rb) env (fun k => Wx fun x => Wy fun y => x.l.length + y.l.length ≤ sizeLine ∧ k (Vec.mk (x.l ++ y.l))) := wBin (S := fun x y k => x.l.length + y.l.length ≤ sizeLine ∧ k (Vec.mk (x.l ++ y.l))) pa pb fun a b k h q hq => ⟨by
  rw [List.length_map, List.length_map]; exact h.1, by
  have := hq _ h.2
  rw [show enc (Vec.mk (a.l ++ b.l)) = .tuple (a.l.map enc ++ b.l.map enc) from congrArg PyData.tuple List.map_append] at this
  exact this⟩
section
variable {Wx Wy : (α → Prop) → Prop}
theorem wEq (pa : WT ra env Wx) (pb : WT rb env Wy) : WT (rBin sEq ra rb) env (fun k => Wx fun x => Wy fun y => eqOk x y ∧ k (eqT x y)) := wBin (S := fun x y k => eqOk x y ∧ k (eqT x y)) pa pb fun a b k h q hq => ⟨h.1, hq _ h.2⟩
theorem wNe (pa : WT ra env Wx) (pb : WT rb env Wy) : WT (rBin sNe ra rb) env (fun k => Wx fun x => Wy fun y => eqOk x y ∧ k (!eqT x y)) := wBin (S := fun x y k => eqOk x y ∧ k (!eqT x y)) pa pb fun a b k h q hq => ⟨h.1, hq _ h.2⟩
theorem wIxL [Inhabited α] {Wx : (List α → Prop) → Prop} {Wi : (Int → Prop) → Prop} (pa : WT ra env Wx) (pb : WT rb env Wi) : WT (rBin sIdx ra rb) env (fun k => Wx fun x => Wi fun i => (atI x i).isSome = true ∧ k (ixT x i)) :=
  wBin (S := fun x i k => (atI x i).isSome = true ∧ k (ixT x i)) pa pb fun a b k h q hq => ⟨_, by rw [atI_map, ixT_some h.1]; rfl, hq _ h.2⟩
theorem wIxV [Inhabited α] {Wx : (Vec α → Prop) → Prop} {Wi : (Int → Prop) → Prop} (pa : WT ra env Wx) (pb : WT rb env Wi) : WT (rBin sIdx ra rb) env (fun k => Wx fun x => Wi fun i => (atI x.l i).isSome = true ∧ k (ixT x.l i)) :=
  wBin (S := fun x i k => (atI x.l i).isSome = true ∧ k (ixT x.l i)) pa pb fun a b k h q hq => ⟨_, by rw [atI_map, ixT_some h.1]; rfl, hq _ h.2⟩
theorem wIxS {Wx : (Str → Prop) → Prop} {Wi : (Int → Prop) → Prop} (pa : WT ra env Wx) (pb : WT rb env Wi) : WT (rBin sIdx ra rb) env (fun k => Wx fun x => Wi fun i => (x.length ≤ sizeLine ∧ (atI x.cps.toList i).isSome = true) ∧ k (ixS x i)) :=
  wBin (S := fun x i k => (x.length ≤ sizeLine ∧ (atI x.cps.toList i).isSome = true) ∧ k (ixS x i)) pa pb fun a b k h q hq => ⟨h.1.1, (atI a.cps.toList b).getD 0, by
    have := h.1.2
    cases e : atI a.cps.toList b with
    | none => rw [e] at this; cases this
    | some a => rfl, hq _ h.2⟩
end
/-! ### tests -/
theorem wT {Wt : (Bool → Prop) → Prop} (h : WT r env Wt) : WB (rTest r) env Wt := ⟨fun k w q hq => h.ok k w _ fun b hb => ⟨b, rfl, hq b hb⟩⟩
theorem wTr {Wt : (Bool → Prop) → Prop} (h : WT r env Wt) : WB (rTru r) env Wt := ⟨fun k w q hq => h.ok k w _ fun b hb => ⟨_, rfl, trivial, hq b hb⟩⟩
theorem wTrI {Wt : (Int → Prop) → Prop} (h : WT r env Wt) : WB (rTru r) env (fun k => Wt fun i => k (i != 0)) := ⟨fun k w q hq => h.ok _ w _ fun b hb => ⟨_, rfl, trivial, hq _ hb⟩⟩
theorem wTb {rt : RT1} {b : Bool} {P : Prop} (h : P → OkT rt env b) : WB rt env (fun k => P ∧ k b) := ⟨fun k w q hq => (h w.1).ok q (hq b w.2)⟩
section
variable {rt ru : RT1} {Wt Wu : (Bool → Prop) → Prop}
theorem wAnd (h1 : WB rt env Wt) (h2 : WB ru env Wu) : WB (rAnd rt ru) env (fun k => Wt fun b => (b = true → Wu k) ∧ (b = false → k false)) := ⟨fun k w q hq => h1.ok _ w _ fun b hb => by
  cases b with
  | true => rw [if_pos rfl]; exact h2.ok k (hb.1 rfl) q hq
  | false => rw [if_neg Bool.false_ne_true]; exact hq _ (hb.2 rfl)⟩
theorem wOr (h1 : WB rt env Wt) (h2 : WB ru env Wu) : WB (rOr rt ru) env (fun k => Wt fun b => (b = true → k true) ∧ (b = false → Wu k)) := ⟨fun k w q hq => h1.ok _ w _ fun b hb => by
  cases b with
  | true => rw [if_pos rfl]; exact hq _ (hb.1 rfl)
  | false => rw [if_neg Bool.false_ne_true]; exact h2.ok k (hb.2 rfl) q hq⟩
theorem wNot (h1 : WB rt env Wt) : WB (rNot rt) env (fun k => Wt fun b => k (!b)) := ⟨fun k w q hq => h1.ok _ w _ fun b hb => hq _ hb⟩
theorem wIte (h1 : WB rt env Wt) {W1 W2 : (α → Prop) → Prop} (ha : WT ra env W1) (hb : WT rb env W2) : WT (rIte rt ra rb) env (fun k => Wt fun b => (b = true → W1 k) ∧ (b = false → W2 k)) := ⟨fun k w q hq => h1.ok _ w _ fun b hb' => by
  cases b with
  | true => rw [if_pos rfl]; exact ha.ok k (hb'.1 rfl) q hq
  | false => rw [if_neg Bool.false_ne_true]; exact hb.ok k (hb'.2 rfl) q hq⟩
end
/-! ### displays, arguments -/
theorem wAN : WA rNil env (fun k => k []) := ⟨fun k w q hq => hq _ w⟩
theorem wAC {Wr : (List PV → Prop) → Prop} (ha : WT ra env Wa) (hr : WA rs env Wr) : WA (rCons ra rs) env (fun k => Wa fun a => Wr fun vs => k (.d (enc a) :: vs)) := ⟨fun k w q hq => ha.ok _ w _ fun a h => hr.ok _ h _ fun vs h2 => hq _ h2⟩
theorem wAB {Wr : (List PV → Prop) → Prop} (ha : WT ra env Wa) (hr : WA rs env Wr) : WA (rConsB ra rs) env (fun k => Wa fun a => Wr fun vs => k (.d (enc a) :: vs)) := ⟨fun k w q hq => ha.ok _ w _ fun a h => hr.ok _ h _ fun vs h2 => ⟨rfl, hq _ h2⟩⟩
theorem wASrc {i n : Nat} {Wr : (List PV → Prop) → Prop} (hs : env[i]? = some (.val (.src n))) (hr : WA rs env Wr) : WA (rCons (rVar i) rs) env (fun k => Wr fun vs => k (.src n :: vs)) := ⟨fun k w q hq => ⟨_, hs, hr.ok _ w _ fun vs h2 => hq _ h2⟩⟩
theorem wTup1 (ha : WT ra env Wa) : WT (rTup (rCons ra rNil)) env (fun k => Wa fun a => k (T1.mk a)) := ⟨fun k w q hq => ha.ok _ w _ fun a h => ⟨[_], rfl, (by show 1 ≤ sizeLine; decide), hq _ h⟩⟩
theorem wTup2 (ha : WT ra env Wa) (hb : WT rb env Wb) : WT (rTup (rCons ra (rCons rb rNil))) env (fun k => Wa fun a => Wb fun b => k (a, b)) := ⟨fun k w q hq => ha.ok _ w _ fun a h => hb.ok _ h _ fun b h => ⟨[_, _], rfl, (by show 2 ≤ sizeLine; decide), hq _ h⟩⟩
theorem wTup3 (ha : WT ra env Wa) (hb : WT rb env Wb) (hc : WT rc env Wc) : WT (rTup (rCons ra (rCons rb (rCons rc rNil)))) env (fun k => Wa fun a => Wb fun b => Wc fun c => k (T3.mk a b c)) := ⟨fun k w q hq => ha.ok _ w _ fun a h => hb.ok _ h _ fun b h => hc.ok _ h _ fun c h => ⟨[_, _, _], rfl, (by show 3 ≤ sizeLine; decide), hq _ h⟩⟩
theorem wTup4 {δ : Type} [Enc δ] {rd : RE1} {Wd : (δ → Prop) → Prop} (ha : WT ra env Wa) (hb : WT rb env Wb) (hc : WT rc env Wc) (hd : WT rd env Wd) : WT (rTup (rCons ra (rCons rb (rCons rc (rCons rd rNil))))) env (fun k => Wa fun a => Wb fun b => Wc fun c => Wd fun d => k (T4.mk a b c d)) := ⟨fun k w q hq => ha.ok _ w _ fun a h => hb.ok _ h _ fun b h => hc.ok _ h _ fun c h => hd.ok _ h _ fun d h => ⟨[_, _, _, _], rfl, (by show 4 ≤ sizeLine; decide), hq _ h⟩⟩
section
variable {W1 W2 W3 : (α → Prop) → Prop}
theorem wVec1 (ha : WT ra env W1) : WT (rTup (rCons ra rNil)) env (fun k => W1 fun a => k (Vec.mk [a])) := ⟨fun k w q hq => ha.ok _ w _ fun a h => ⟨[_], rfl, (by show 1 ≤ sizeLine; decide), hq _ h⟩⟩
theorem wVec2 (ha : WT ra env W1) (hb : WT rb env W2) : WT (rTup (rCons ra (rCons rb rNil))) env (fun k => W1 fun a => W2 fun b => k (Vec.mk [a, b])) := ⟨fun k w q hq => ha.ok _ w _ fun a h => hb.ok _ h _ fun b h => ⟨[_, _], rfl, (by show 2 ≤ sizeLine; decide), hq _ h⟩⟩
theorem wVec3 (ha : WT ra env W1) (hb : WT rb env W2) (hc : WT rc env W3) : WT (rTup (rCons ra (rCons rb (rCons rc rNil)))) env (fun k => W1 fun a => W2 fun b => W3 fun c => k (Vec.mk [a, b, c])) := ⟨fun k w q hq => ha.ok _ w _ fun a h => hb.ok _ h _ fun b h => hc.ok _ h _ fun c h => ⟨[_, _, _], rfl, (by show 3 ≤ sizeLine; decide), hq _ h⟩⟩
theorem wLst1 (ha : WT ra env W1) : WT (rLst (rCons ra rNil)) env (fun k => W1 fun a => k [a]) := ⟨fun k w q hq => ha.ok _ w _ fun a h => ⟨[_], rfl, (by show 1 ≤ sizeLine; decide), hq _ h⟩⟩
theorem wLst2 (ha : WT ra env W1) (hb : WT rb env W2) : WT (rLst (rCons ra (rCons rb rNil))) env (fun k => W1 fun a => W2 fun b => k [a, b]) := ⟨fun k w q hq => ha.ok _ w _ fun a h => hb.ok _ h _ fun b h => ⟨[_, _], rfl, (by show 2 ≤ sizeLine; decide), hq _ h⟩⟩
theorem wLst3 (ha : WT ra env W1) (hb : WT rb env W2) (hc : WT rc env W3) : WT (rLst (rCons ra (rCons rb (rCons rc rNil)))) env (fun k => W1 fun a => W2 fun b => W3 fun c => k [a, b, c]) := ⟨fun k w q hq => ha.ok _ w _ fun a h => hb.ok _ h _ fun b h => hc.ok _ h _ fun c h => ⟨[_, _, _], rfl, (by show 3 ≤ sizeLine; decide), hq _ h⟩⟩
end
/-! ### slices -/
theorem wSN : WO rNoPart env (fun k => k none) := ⟨fun k w q hq => hq _ w⟩
theorem wSP {Wi : (Int → Prop) → Prop} (h : WT r env Wi) : WO (rPart r) env (fun k => Wi fun i => k (some i)) := ⟨fun k w q hq => h.ok _ w _ fun i hi => ⟨i, rfl, hq _ hi⟩⟩
section
variable {rl rh : RO1} {Wl Wh : (Option Int → Prop) → Prop}
theorem wCutL {Wx : (List α → Prop) → Prop} (ha : WT ra env Wx) (hl : WO rl env Wl) (hh : WO rh env Wh) : WT (rSlice ra rl rh) env (fun k => Wx fun x => Wl fun lo => Wh fun hi => k (cutT x lo hi)) := ⟨fun k w q hq => ha.ok _ w _ fun x hx => hl.ok _ hx _ fun lo h1 => hh.ok _ h1 _ fun hi h2 => ⟨rfl, rfl, by
  show q (.d (.list (cutT (x.map enc) lo hi))) env
  rw [cutT_map]; exact hq _ h2⟩⟩
theorem wCutV {Wx : (Vec α → Prop) → Prop} (ha : WT ra env Wx) (hl : WO rl env Wl) (hh : WO rh env Wh) : WT (rSlice ra rl rh) env (fun k => Wx fun x => Wl fun lo => Wh fun hi => k (Vec.mk (cutT x.l lo hi))) := ⟨fun k w q hq => ha.ok _ w _ fun x hx => hl.ok _ hx _ fun lo h1 => hh.ok _ h1 _ fun hi h2 => ⟨rfl, rfl, by
  show q (.d (.tuple (cutT (x.l.map enc) lo hi))) env
  rw [cutT_map]; exact hq _ h2⟩⟩
theorem wCutS {Wx : (Str → Prop) → Prop} (ha : WT ra env Wx) (hl : WO rl env Wl) (hh : WO rh env Wh) : WT (rSlice ra rl rh) env (fun k => Wx fun x => Wl fun lo => Wh fun hi => x.length ≤ sizeLine ∧ k (cutS x lo hi)) := ⟨fun k w q hq => ha.ok _ w _ fun x hx => hl.ok _ hx _ fun lo h1 => hh.ok _ h1 _ fun hi h2 => ⟨rfl, rfl, h2.1, hq _ h2.2⟩⟩
end
/-! ### calls -/
theorem wCall {n : Nat} {C : R.Spec} {Wr : (List PV → Prop) → Prop} {W : List PV → (ρ → Prop) → Prop} (h : WA rs env Wr) (hc : ∀ vs, OkW C vs (W vs)) : WT (rCall n C rs) env (fun k => Wr fun vs => vs.length = n ∧ W vs k) :=
  ⟨fun k w q hq => h.ok _ w _ fun vs hv => ⟨hv.1, (hc vs).ok k hv.2 _ hq⟩⟩
/-- a builtin of one argument -/
theorem wBi1 {s : SA} {S : α → (ρ → Prop) → Prop} (ha : WT ra env Wa) (hs : ∀ a (k : ρ → Prop), S a k → ∀ q : PV → Prop, (∀ c, k c → q (.d (enc c))) → s [.d (enc a)] q) : WT (rBi s (rConsB ra rNil)) env (fun k => Wa fun a => S a k) :=
  ⟨fun k w q hq => ha.ok _ w _ fun a h => ⟨rfl, hs a k h _ fun c hc => hq c hc⟩⟩
theorem wTupL {Wx : (List α → Prop) → Prop} (ha : WT ra env Wx) : WT (rBi sTuple (rConsB ra rNil)) env (fun k => Wx fun x => k (Vec.mk x)) := wBi1 (S := fun x k => k (Vec.mk x)) ha fun a k h q hq => hq _ h
theorem wListV {Wx : (Vec α → Prop) → Prop} (ha : WT ra env Wx) : WT (rBi sList (rConsB ra rNil)) env (fun k => Wx fun x => k x.l) := wBi1 (S := fun x k => k x.l) ha fun a k h q hq => hq _ h
theorem wSortL [SrtOk α] {Wx : (List α → Prop) → Prop} (ha : WT ra env Wx) : WT (rBi sSorted (rConsB ra rNil)) env (fun k => Wx fun x => k (sortT x)) := wBi1 (S := fun x k => k (sortT x)) ha fun a k h q hq => ⟨_, rfl, SrtOk.ok a, by
  rw [sortD_T]; exact hq _ h⟩
/-! ### walks -/
theorem wIL {Wx : (List α → Prop) → Prop} (h : WT r env Wx) : WI (riSeq r) env Wx := ⟨fun k w q hq => h.ok _ w _ fun x hx => ⟨_, rfl, hq _ hx⟩⟩
theorem wIR1 {Wi : (Int → Prop) → Prop} (h : WT r env Wi) : WI (riRng1 r) env (fun k => Wi fun j => (-(2 ^ 62) ≤ j ∧ j ≤ 16777216) ∧ k (rangeT 0 j)) := ⟨fun k w q hq => h.ok _ w _ fun j hj => ⟨j, rfl, hj.1, by rw [rangeD_T]; exact hq _ hj.2⟩⟩
theorem wIR2 {Wi Wj : (Int → Prop) → Prop} (ha : WT ra env Wi) (hb : WT rb env Wj) : WI (riRng2 ra rb) env (fun k => Wi fun i => Wj fun j => (-(2 ^ 62) ≤ i ∧ i < 2 ^ 62 ∧ -(2 ^ 62) ≤ j ∧ j < 2 ^ 62 ∧ j - i ≤ 16777216) ∧ k (rangeT i j)) :=
  ⟨fun k w q hq => ha.ok _ w _ fun i hi => hb.ok _ hi _ fun j hj => ⟨rfl, i, j, rfl, rfl, hj.1, by rw [rangeD_T]; exact hq _ hj.2⟩⟩
theorem wIp {ri : RI1} {xs : List α} {P : Prop} (h : P → OkI ri env (xs.map enc)) : WI ri env (fun k => P ∧ k xs) := ⟨fun k w q hq => (h w.1).ok q (hq xs w.2)⟩
/-! ### comprehensions -/
/-- the items one after the other: kept as S says -/
def goW {α ρ : Type} (S : α → (Option ρ → Prop) → Prop) : List α → List ρ → (List ρ → Prop) → Prop
  | [], acc, k => k acc
  | x :: xs, acc, k => S x fun o => match o with
    | some d => goW S xs (acc ++ [d]) k
    | none => goW S xs acc k
theorem wComp {is : List Nat} {ri : RI1} {rg : RG1} {rt : RT1} {re : RE1} {Wi : (List α → Prop) → Prop} {S : α → (Option ρ → Prop) → Prop} (hi : WI ri env Wi) (no : noOwn env is = true)
    (h : ∀ (x : α) (k : Option ρ → Prop), S x k → ∃ env2, OkG rg (enc x) (wipeE env is) env2 ∧ wipeE env2 is = wipeE env is ∧ ∃ (Wt : (Bool → Prop) → Prop) (We : (ρ → Prop) → Prop), WB rt env2 Wt ∧ WT re env2 We ∧ Wt fun b => (b = true → We fun d => k (some d)) ∧ (b = false → k none)) : WT (rComp is ri rg rt re) env (fun k => Wi fun xs => goW S xs [] k) :=
  ⟨fun k w q hq => hi.ok _ w _ fun xs hx => ⟨no, by
    have go : ∀ (xs : List α) (acc : List ρ), goW S xs acc k → compGo (lcStep is rg rt re env) (xs.map enc) (acc.map enc) (fun out => q (.d (.list out)) env) := by
      intro xs
      induction xs with
      | nil => intro acc h; exact hq acc h
      | cons x xs ih =>
        intro acc hg
        obtain ⟨env2, h1, h2, Wt, We, h3, h4, h5⟩ := h x _ hg
        refine h1.ok _ ⟨h2, h3.ok _ h5 _ fun b hb => ⟨rfl, ?_⟩⟩
        cases b with
        | true =>
          rw [if_pos rfl]
          refine h4.ok _ (hb.1 rfl) _ fun d hd => ⟨rfl, _, rfl, ?_⟩
          have := ih (acc ++ [d]) hd
          rw [List.map_append] at this
          exact this
        | false =>
          rw [if_neg Bool.false_ne_true]
          exact ih acc (hb.2 rfl)
    exact go xs [] hx⟩⟩
theorem wCoe {W : (α → Prop) → Prop} (h : WT r env W) (f : α → β) (e : ∀ a, enc (f a) = enc a) : WT r env (fun k : β → Prop => W fun a => k (f a)) := ⟨fun k w q hq => h.ok _ w _ fun a ha => by
  have := hq _ ha
  rw [e] at this
  exact this⟩
/-! ### calls by their arguments -/
section
variable {C : R.Spec} {i n : Nat} {δ : Type} [Enc δ] {rd : RE1} {Wd : (δ → Prop) → Prop}
theorem wCs0 {W : (ρ → Prop) → Prop} (hs : env[i]? = some (.val (.src n))) (hc : OkW C [.src n] W) : WT (rCall 1 C (rCons (rVar i) rNil)) env W := ⟨fun k w q hq => ⟨_, hs, rfl, hc.ok k w _ hq⟩⟩
theorem wCs1 {W : α → (ρ → Prop) → Prop} (hs : env[i]? = some (.val (.src n))) (pa : WT ra env Wa) (hc : ∀ a, OkW C [.src n, .d (enc a)] (W a)) : WT (rCall 2 C (rCons (rVar i) (rCons ra rNil))) env (fun k => Wa fun a => W a k) :=
  ⟨fun k w q hq => ⟨_, hs, pa.ok _ w _ fun a ha => ⟨rfl, (hc a).ok k ha _ hq⟩⟩⟩
theorem wCs2 {W : α → β → (ρ → Prop) → Prop} (hs : env[i]? = some (.val (.src n))) (pa : WT ra env Wa) (pb : WT rb env Wb) (hc : ∀ a b, OkW C [.src n, .d (enc a), .d (enc b)] (W a b)) : WT (rCall 3 C (rCons (rVar i) (rCons ra (rCons rb rNil)))) env (fun k => Wa fun a => Wb fun b => W a b k) :=
  ⟨fun k w q hq => ⟨_, hs, pa.ok _ w _ fun a ha => pb.ok _ ha _ fun b hb => ⟨rfl, (hc a b).ok k hb _ hq⟩⟩⟩
theorem wCs3 {W : α → β → γ → (ρ → Prop) → Prop} (hs : env[i]? = some (.val (.src n))) (pa : WT ra env Wa) (pb : WT rb env Wb) (pc : WT rc env Wc) (hc : ∀ a b c, OkW C [.src n, .d (enc a), .d (enc b), .d (enc c)] (W a b c)) : WT (rCall 4 C (rCons (rVar i) (rCons ra (rCons rb (rCons rc rNil))))) env (fun k => Wa fun a => Wb fun b => Wc fun c => W a b c k) :=
  ⟨fun k w q hq => ⟨_, hs, pa.ok _ w _ fun a ha => pb.ok _ ha _ fun b hb => pc.ok _ hb _ fun c hc' => ⟨rfl, (hc a b c).ok k hc' _ hq⟩⟩⟩
theorem wCs4 {W : α → β → γ → δ → (ρ → Prop) → Prop} (hs : env[i]? = some (.val (.src n))) (pa : WT ra env Wa) (pb : WT rb env Wb) (pc : WT rc env Wc) (pd : WT rd env Wd) (hc : ∀ a b c d, OkW C [.src n, .d (enc a), .d (enc b), .d (enc c), .d (enc d)] (W a b c d)) : WT (rCall 5 C (rCons (rVar i) (rCons ra (rCons rb (rCons rc (rCons rd rNil)))))) env (fun k => Wa fun a => Wb fun b => Wc fun c => Wd fun d => W a b c d k) :=
  ⟨fun k w q hq => ⟨_, hs, pa.ok _ w _ fun a ha => pb.ok _ ha _ fun b hb => pc.ok _ hb _ fun c hc' => pd.ok _ hc' _ fun d hd => ⟨rfl, (hc a b c d).ok k hd _ hq⟩⟩⟩
theorem wC0 {W : (ρ → Prop) → Prop} (hc : OkW C [] W) : WT (rCall 0 C rNil) env W := ⟨fun k w q hq => ⟨rfl, hc.ok k w _ hq⟩⟩
theorem wC1 {W : α → (ρ → Prop) → Prop} (pa : WT ra env Wa) (hc : ∀ a, OkW C [.d (enc a)] (W a)) : WT (rCall 1 C (rCons ra rNil)) env (fun k => Wa fun a => W a k) := ⟨fun k w q hq => pa.ok _ w _ fun a ha => ⟨rfl, (hc a).ok k ha _ hq⟩⟩
theorem wC2 {W : α → β → (ρ → Prop) → Prop} (pa : WT ra env Wa) (pb : WT rb env Wb) (hc : ∀ a b, OkW C [.d (enc a), .d (enc b)] (W a b)) : WT (rCall 2 C (rCons ra (rCons rb rNil))) env (fun k => Wa fun a => Wb fun b => W a b k) :=
  ⟨fun k w q hq => pa.ok _ w _ fun a ha => pb.ok _ ha _ fun b hb => ⟨rfl, (hc a b).ok k hb _ hq⟩⟩
theorem wC3 {W : α → β → γ → (ρ → Prop) → Prop} (pa : WT ra env Wa) (pb : WT rb env Wb) (pc : WT rc env Wc) (hc : ∀ a b c, OkW C [.d (enc a), .d (enc b), .d (enc c)] (W a b c)) : WT (rCall 3 C (rCons ra (rCons rb (rCons rc rNil)))) env (fun k => Wa fun a => Wb fun b => Wc fun c => W a b c k) :=
  ⟨fun k w q hq => pa.ok _ w _ fun a ha => pb.ok _ ha _ fun b hb => pc.ok _ hb _ fun c hc' => ⟨rfl, (hc a b c).ok k hc' _ hq⟩⟩
theorem wC4 {W : α → β → γ → δ → (ρ → Prop) → Prop} (pa : WT ra env Wa) (pb : WT rb env Wb) (pc : WT rc env Wc) (pd : WT rd env Wd) (hc : ∀ a b c d, OkW C [.d (enc a), .d (enc b), .d (enc c), .d (enc d)] (W a b c d)) : WT (rCall 4 C (rCons ra (rCons rb (rCons rc (rCons rd rNil))))) env (fun k => Wa fun a => Wb fun b => Wc fun c => Wd fun d => W a b c d k) :=
  ⟨fun k w q hq => pa.ok _ w _ fun a ha => pb.ok _ ha _ fun b hb => pc.ok _ hb _ fun c hc' => pd.ok _ hc' _ fun d hd => ⟨rfl, (hc a b c d).ok k hd _ hq⟩⟩
theorem OkC.w {args : List PV} {v : ρ} {P : Prop} (h : P → OkC C args (enc v)) : OkW C args (fun k => P ∧ k v) := ⟨fun k w q hq => (h w.1).ok q (hq _ w.2)⟩
theorem OkC.w' {args : List PV} {v : ρ} (h : OkC C args (enc v)) : OkW C args (fun k => k v) := ⟨fun k w q hq => h.ok q (hq _ w)⟩
end
theorem wYes : WB rYes env (fun k => k true) := ⟨fun k w q hq => hq _ w⟩
end
end R
/-! The typed layer, part 5: statements that draw, loops. -/
namespace R
open PySem PySem.Spec PyProof.Rows L2
open Enc (enc)
section
variable {env env' : Ev} {v w u : PyData} {re : RE1} {rg : RG1} {rs : RA1} {rt : RT1} {r r' r1 r2 : RS1} {E : REnds} {i j m n : Nat} {α β γ : Type} [Enc α] [Enc β] [Enc γ]
theorem seqSrc (h0 : env[j]? = some (.val .scr)) (k : ∀ n, r' (env.set i (.val (.src n))) E) : rSeq (rAsg (rCall 1 cSource (rCons (rVar j) rNil)) (rgName i)) r' env E := ⟨_, h0, rfl, rfl, fun n => k n⟩
theorem wSeqN {W : (α → Prop) → Prop} {k : α → Prop} (p : WT re env W) (h : W k) (f : ∀ a, k a → r' (env.set i (.val (.d (enc a)))) E) : rSeq (rAsg re (rgName i)) r' env E := p.ok k h _ f
theorem wEndN {W : (α → Prop) → Prop} {k : α → Prop} (p : WT re env W) (h : W k) (f : ∀ a, k a → E.nx (env.set i (.val (.d (enc a))))) : rAsg re (rgName i) env E := p.ok k h _ f
theorem wSeqG {W : (α → Prop) → Prop} {k : α → Prop} (p : WT re env W) (h : W k) (f : ∀ a, k a → ∃ env', OkG rg (enc a) env env' ∧ r' env' E) : rSeq (rAsg re rg) r' env E := p.ok k h _ fun a ha => by
  obtain ⟨e', g, q⟩ := f a ha
  exact g.ok _ q
theorem wEndG {W : (α → Prop) → Prop} {k : α → Prop} (p : WT re env W) (h : W k) (f : ∀ a, k a → ∃ env', OkG rg (enc a) env env' ∧ E.nx env') : rAsg re rg env E := p.ok k h _ fun a ha => by
  obtain ⟨e', g, q⟩ := f a ha
  exact g.ok _ q
theorem wSeq2 {Wa : (α → Prop) → Prop} {Wb : (β → Prop) → Prop} {ra rb : RE1} {k : α → β → Prop} (pa : WT ra env Wa) (pb : WT rb env Wb) (h : Wa fun a => Wb fun b => k a b) (f : ∀ a b, k a b → r' ((env.set i (.val (.d (enc a)))).set j (.val (.d (enc b)))) E) : rSeq (rPar2 i j (rCons ra (rCons rb rNil))) r' env E :=
  pa.ok _ h _ fun a ha => pb.ok _ ha _ fun b hb => ⟨_, _, rfl, f a b hb⟩
theorem wEnd2 {Wa : (α → Prop) → Prop} {Wb : (β → Prop) → Prop} {ra rb : RE1} {k : α → β → Prop} (pa : WT ra env Wa) (pb : WT rb env Wb) (h : Wa fun a => Wb fun b => k a b) (f : ∀ a b, k a b → E.nx ((env.set i (.val (.d (enc a)))).set j (.val (.d (enc b))))) : rPar2 i j (rCons ra (rCons rb rNil)) env E :=
  pa.ok _ h _ fun a ha => pb.ok _ ha _ fun b hb => ⟨_, _, rfl, f a b hb⟩
theorem wSeq3 {Wa : (α → Prop) → Prop} {Wb : (β → Prop) → Prop} {Wc : (γ → Prop) → Prop} {ra rb rc : RE1} {k : α → β → γ → Prop} (pa : WT ra env Wa) (pb : WT rb env Wb) (pc : WT rc env Wc) (h : Wa fun a => Wb fun b => Wc fun c => k a b c) (f : ∀ a b c, k a b c → r' (((env.set i (.val (.d (enc a)))).set j (.val (.d (enc b)))).set m (.val (.d (enc c)))) E) : rSeq (rPar3 i j m (rCons ra (rCons rb (rCons rc rNil)))) r' env E :=
  pa.ok _ h _ fun a ha => pb.ok _ ha _ fun b hb => pc.ok _ hb _ fun c hc => ⟨_, _, _, rfl, f a b c hc⟩
theorem wSeqI {W : (Bool → Prop) → Prop} {k : Bool → Prop} (p : WB rt env W) (h : W k) (f1 : k true → r1 env { E with nx := fun e => r' e E }) (f2 : k false → r2 env { E with nx := fun e => r' e E }) : rSeq (rIf rt r1 r2) r' env E := p.ok k h _ fun b hb => by
  cases b with
  | true => rw [if_pos rfl]; exact f1 hb
  | false => rw [if_neg Bool.false_ne_true]; exact f2 hb
theorem wEndI {W : (Bool → Prop) → Prop} {k : Bool → Prop} (p : WB rt env W) (h : W k) (f1 : k true → r1 env E) (f2 : k false → r2 env E) : rIf rt r1 r2 env E := p.ok k h _ fun b hb => by
  cases b with
  | true => rw [if_pos rfl]; exact f1 hb
  | false => rw [if_neg Bool.false_ne_true]; exact f2 hb
theorem wEndR {W : (α → Prop) → Prop} {k : α → Prop} (p : WT re env W) (h : W k) (f : ∀ a, k a → E.rt (.d (enc a))) : rRet re env E := p.ok k h _ f
theorem seqDr (h : OkE re env v) (k : r' env E) : rSeq (rDrop re) r' env E := h.ok _ k
theorem endDr (h : OkE re env v) (k : E.nx env) : rDrop re env E := h.ok _ k
/-! ### owned lists -/
theorem seqOL {W : (List α → Prop) → Prop} {k : List α → Prop} (p : WT re env W) (h : W k) (f : ∀ a, k a → r' (env.set i (.own (enc a))) E) : rSeq (rOwnIt re i) r' env E := p.ok k h _ fun a ha => ⟨_, rfl, f a ha⟩
theorem endOL {W : (List α → Prop) → Prop} {k : List α → Prop} (p : WT re env W) (h : W k) (f : ∀ a, k a → E.nx (env.set i (.own (enc a)))) : rOwnIt re i env E := p.ok k h _ fun a ha => ⟨_, rfl, f a ha⟩
theorem seqApp {xs : List α} {W : (α → Prop) → Prop} {k : α → Prop} (h0 : env[i]? = some (.own (enc xs))) (p : WT re env W) (h : W k) (hz : xs.length < sizeLine) (f : ∀ a, k a → r' (env.set i (.own (enc (xs ++ [a])))) E) : rSeq (rAppendTo i re) r' env E :=
  ⟨⟨_, h0⟩, p.ok k h _ fun a ha => ⟨_, _, h0, rfl, by rw [List.length_map]; exact hz, by
    have := f a ha
    rw [show enc (xs ++ [a]) = .list (xs.map enc ++ [enc a]) from congrArg PyData.list (by rw [List.map_append]; rfl)] at this
    exact this⟩⟩
theorem endApp {xs : List α} {W : (α → Prop) → Prop} {k : α → Prop} (h0 : env[i]? = some (.own (enc xs))) (p : WT re env W) (h : W k) (hz : xs.length < sizeLine) (f : ∀ a, k a → E.nx (env.set i (.own (enc (xs ++ [a]))))) : rAppendTo i re env E :=
  ⟨⟨_, h0⟩, p.ok k h _ fun a ha => ⟨_, _, h0, rfl, by rw [List.length_map]; exact hz, by
    have := f a ha
    rw [show enc (xs ++ [a]) = .list (xs.map enc ++ [enc a]) from congrArg PyData.list (by rw [List.map_append]; rfl)] at this
    exact this⟩⟩
theorem seqExt {xs : List α} {W : (List α → Prop) → Prop} {k : List α → Prop} (h0 : env[i]? = some (.own (enc xs))) (p : WT re env W) (h : W k) (f : ∀ a, k a → xs.length + a.length ≤ sizeLine ∧ r' (env.set i (.own (enc (xs ++ a)))) E) : rSeq (rExtendTo i re) r' env E :=
  ⟨⟨_, h0⟩, p.ok k h _ fun a ha => ⟨_, _, h0, rfl, by rw [List.length_map, List.length_map]; exact (f a ha).1, by
    have := (f a ha).2
    rw [show enc (xs ++ a) = .list (xs.map enc ++ a.map enc) from congrArg PyData.list List.map_append] at this
    exact this⟩⟩
theorem endExt {xs : List α} {W : (List α → Prop) → Prop} {k : List α → Prop} (h0 : env[i]? = some (.own (enc xs))) (p : WT re env W) (h : W k) (f : ∀ a, k a → xs.length + a.length ≤ sizeLine ∧ E.nx (env.set i (.own (enc (xs ++ a))))) : rExtendTo i re env E :=
  ⟨⟨_, h0⟩, p.ok k h _ fun a ha => ⟨_, _, h0, rfl, by rw [List.length_map, List.length_map]; exact (f a ha).1, by
    have := (f a ha).2
    rw [show enc (xs ++ a) = .list (xs.map enc ++ a.map enc) from congrArg PyData.list List.map_append] at this
    exact this⟩⟩
theorem frzL {xs : List α} (h0 : env[i]? = some (.own (enc xs))) (k : r' (env.set i (.val (.d (enc xs)))) E) : rFrz i r' env E := ⟨_, h0, k⟩
end
/-! ### loops -/
/-- one item after the other, by what step asks -/
def forT {α σ : Type} (step : α → σ → (σ → Prop) → Prop) : List α → σ → (σ → Prop) → Prop
  | [], s, k => k s
  | x :: xs, s, k => step x s fun s' => forT step xs s' k
section
variable {env : Ev} {is : List Nat} {ri : RI1} {rg : RG1} {rb r' : RS1} {E : REnds} {α σ : Type} [Enc α] {step : α → σ → (σ → Prop) → Prop}
theorem forT_ok (envOf : σ → Ev) (K : σ → Prop) (hk : ∀ s, K s → E.nx (envOf s)) (hs : ∀ x s (k : σ → Prop), step x s k → ∀ kk : Ev → Prop, (∀ s', k s' → kk (envOf s')) → forStepW is rg rb E (enc x) (envOf s) kk) : ∀ (xs : List α) (s : σ), forT step xs s K → forGo (forStepW is rg rb E) (xs.map enc) (envOf s) E.nx
  | [], s, h => hk s h
  | x :: xs, s, h => hs x s _ h _ fun s' h' => forT_ok envOf K hk hs xs s' h'
theorem seqFor {Wi : (List α → Prop) → Prop} (envOf : σ → Ev) (s0 : σ) (K : σ → Prop) (hi : WI ri env Wi) (he : wipeE env is = envOf s0) (h : Wi fun xs => forT step xs s0 K) (hk : ∀ s, K s → r' (envOf s) E)
    (hs : ∀ x s (k : σ → Prop), step x s k → ∀ kk : Ev → Prop, (∀ s', k s' → kk (envOf s')) → forStepW is rg rb { E with nx := fun e => r' e E } (enc x) (envOf s) kk) : rSeq (rForW is ri rg rb) r' env E :=
  hi.ok _ h _ fun xs hx => by
    rw [he]
    exact forT_ok (E := { E with nx := fun e => r' e E }) envOf K hk hs xs s0 hx
theorem endFor {Wi : (List α → Prop) → Prop} (envOf : σ → Ev) (s0 : σ) (K : σ → Prop) (hi : WI ri env Wi) (he : wipeE env is = envOf s0) (h : Wi fun xs => forT step xs s0 K) (hk : ∀ s, K s → E.nx (envOf s))
    (hs : ∀ x s (k : σ → Prop), step x s k → ∀ kk : Ev → Prop, (∀ s', k s' → kk (envOf s')) → forStepW is rg rb E (enc x) (envOf s) kk) : rForW is ri rg rb env E :=
  hi.ok _ h _ fun xs hx => by
    rw [he]
    exact forT_ok envOf K hk hs xs s0 hx
/-- while, by a word and a measure -/
def whileT {σ : Type} (cond : σ → (Bool → Prop) → Prop) (body : σ → (σ → Prop) → Prop) (s0 : σ) (K : σ → Prop) : Prop :=
  ∃ W : Nat → σ → Prop, (∃ m, W m s0) ∧ ∀ m s, W m s → cond s fun b => (b = true → body s fun s' => ∃ m', m' < m ∧ W m' s') ∧ (b = false → K s)
theorem whileT_ok {rt : RT1} {cond : σ → (Bool → Prop) → Prop} {body : σ → (σ → Prop) → Prop} (envOf : σ → Ev) (s0 : σ) (K : σ → Prop) (he : wipeE env is = envOf s0) (h : whileT cond body s0 K) (hk : ∀ s, K s → E.nx (envOf s)) (hc : ∀ s, WB rt (envOf s) (cond s))
    (hb : ∀ s (k : σ → Prop), body s k → ∀ kk : Ev → Prop, (∀ s', k s' → kk (envOf s')) → rb (envOf s) { E with nx := fun e2 => kk (wipeE e2 is), ct := fun e2 => kk (wipeE e2 is), bk := fun e2 => E.nx (wipeE e2 is) }) : rWhileW is rt rb env E := by
  obtain ⟨W, ⟨m0, w0⟩, turn⟩ := h
  refine ⟨fun m e => ∃ s, e = envOf s ∧ W m s, ⟨m0, s0, he, w0⟩, ?_⟩
  rintro m e ⟨s, rfl, ws⟩
  refine (hc s).ok _ (turn m s ws) _ fun b hb' => ?_
  cases b with
  | true =>
    rw [if_pos rfl]
    exact hb s _ (hb'.1 rfl) (fun e2 => ∃ m', m' < m ∧ ∃ s, e2 = envOf s ∧ W m' s) fun s' ⟨m', q1, q2⟩ => ⟨m', q1, s', rfl, q2⟩
  | false =>
    rw [if_neg Bool.false_ne_true]
    exact hk s (hb'.2 rfl)
theorem seqWhile {rt : RT1} {cond : σ → (Bool → Prop) → Prop} {body : σ → (σ → Prop) → Prop} (envOf : σ → Ev) (s0 : σ) (K : σ → Prop) (he : wipeE env is = envOf s0) (h : whileT cond body s0 K) (hk : ∀ s, K s → r' (envOf s) E) (hc : ∀ s, WB rt (envOf s) (cond s))
    (hb : ∀ s (k : σ → Prop), body s k → ∀ kk : Ev → Prop, (∀ s', k s' → kk (envOf s')) → rb (envOf s) { E with nx := fun e2 => kk (wipeE e2 is), ct := fun e2 => kk (wipeE e2 is), bk := fun e2 => r' (wipeE e2 is) E }) : rSeq (rWhileW is rt rb) r' env E :=
  whileT_ok (E := { E with nx := fun e => r' e E }) envOf s0 K he h hk hc hb
end
end R
/-! The typed layer, part 6: how the words of part 2 and 5 count. -/
namespace R
open PySem PySem.Spec PyProof.Rows L2
open Enc (enc)
/-! ### loops -/
theorem forT_pre {α σ : Type} {step : α → σ → (σ → Prop) → Prop} {K : σ → Prop} (I : List α → σ → Prop) : ∀ (xs pre : List α) (s : σ), I pre s →
    (∀ (p : List α) (x : α) (post : List α) (s : σ) (k : σ → Prop), pre ++ xs = p ++ x :: post → I p s → (∀ s', I (p ++ [x]) s' → k s') → step x s k) → (∀ s, I (pre ++ xs) s → K s) → forT step xs s K
  | [], pre, s, h0, _, hk => hk s (by simpa using h0)
  | x :: xs, pre, s, h0, hs, hk => by
    refine hs pre x xs s _ rfl h0 fun s' h' => ?_
    exact forT_pre I xs (pre ++ [x]) s' h' (fun p y post s k e => hs p y post s k (by simpa using e)) fun s h => hk s (by simpa using h)
/-- a loop by what holds behind each turn -/
theorem forT_by {α σ : Type} {step : α → σ → (σ → Prop) → Prop} {K : σ → Prop} {xs : List α} {s0 : σ} (I : List α → σ → Prop) (h0 : I [] s0)
    (hs : ∀ (p : List α) (x : α) (post : List α) (s : σ) (k : σ → Prop), xs = p ++ x :: post → I p s → (∀ s', I (p ++ [x]) s' → k s') → step x s k) (hk : ∀ s, I xs s → K s) : forT step xs s0 K :=
  forT_pre I xs [] s0 h0 hs hk
theorem forT_all {α σ : Type} {step : α → σ → (σ → Prop) → Prop} {K : σ → Prop} {xs : List α} {s0 : σ} (I : σ → Prop) (h0 : I s0)
    (hs : ∀ x ∈ xs, ∀ (s : σ) (k : σ → Prop), I s → (∀ s', I s' → k s') → step x s k) (hk : ∀ s, I s → K s) : forT step xs s0 K :=
  forT_by (fun _ => I) h0 (fun p x post s k e => hs x (by rw [e]; simp) s k) hk
theorem goW_all {α ρ : Type} {S : α → (Option ρ → Prop) → Prop} (P : ρ → Prop) : ∀ {xs : List α} {acc : List ρ} {k : List ρ → Prop},
    (∀ x ∈ xs, ∀ k : Option ρ → Prop, k none → (∀ d, P d → k (some d)) → S x k) → (∀ out, out.length ≤ acc.length + xs.length → (∀ d ∈ out, d ∈ acc ∨ P d) → k out) → goW S xs acc k
  | [], acc, k, _, hk => hk acc (Nat.le_refl _) fun d h => .inl h
  | x :: xs, acc, k, hS, hk => by
    refine hS x List.mem_cons_self _ ?_ fun d hd => ?_
    · exact goW_all P (fun y hy => hS y (List.mem_cons_of_mem _ hy)) fun out h1 h2 => hk out (by rw [List.length_cons]; omega) h2
    · refine goW_all P (fun y hy => hS y (List.mem_cons_of_mem _ hy)) fun out h1 h2 => hk out ?_ fun e he => ?_
      · rw [List.length_append, List.length_singleton] at h1
        rw [List.length_cons]
        omega
      · rcases h2 e he with q | q
        · rcases List.mem_append.mp q with q | q
          · exact .inl q
          · exact .inr (by rw [List.mem_singleton.mp q]; exact hd)
        · exact .inr q
/-! ### places -/
section
variable {α : Type}
theorem ixN_nat {n j : Nat} (h : j < n) : ixN n (j : Int) = some j := by
  unfold ixN
  rw [if_pos (by omega), if_pos (by omega)]
  simp
theorem atI_nat {xs : List α} {j : Nat} (h : j < xs.length) : atI xs (j : Int) = some xs[j] := by
  unfold atI
  rw [ixN_nat h]
  simp [h]
theorem ixT_nat [Inhabited α] {xs : List α} {j : Nat} (h : j < xs.length) : ixT xs (j : Int) = xs[j] := by
  unfold ixT
  rw [atI_nat h]
  rfl
theorem atI_isSome {xs : List α} {i : Int} (h0 : 0 ≤ i) (h1 : i < xs.length) : (atI xs i).isSome = true := by
  obtain ⟨j, rfl⟩ := Int.eq_ofNat_of_zero_le h0
  rw [atI_nat (by omega)]
  rfl
theorem ixT_mem [Inhabited α] {xs : List α} {i : Int} (h0 : 0 ≤ i) (h1 : i < xs.length) : ixT xs i ∈ xs := by
  obtain ⟨j, rfl⟩ := Int.eq_ofNat_of_zero_le h0
  rw [ixT_nat (by omega)]
  exact List.getElem_mem _
theorem mem_rangeT {lo hi i : Int} : i ∈ rangeT lo hi ↔ lo ≤ i ∧ i < hi := by
  unfold rangeT
  rw [List.mem_map]
  constructor
  · rintro ⟨k, hk, rfl⟩
    have := List.mem_range.mp hk
    omega
  · rintro ⟨h1, h2⟩
    exact ⟨(i - lo).toNat, List.mem_range.mpr (by omega), by omega⟩
theorem rangeT_length {lo hi : Int} : (rangeT lo hi).length = (hi - lo).toNat := by simp [rangeT]
theorem rangeT_nat {n : Nat} : rangeT 0 (n : Int) = (List.range n).map fun i : Nat => (i : Int) := by
  unfold rangeT
  simp
/-- the place i of what is made over 0 .. n - 1 -/
theorem ixT_map_range {β : Type} [Inhabited β] {f : Int → β} {n i : Int} (h0 : 0 ≤ i) (h1 : i < n) : ixT ((rangeT 0 n).map f) i = f i := by
  obtain ⟨j, rfl⟩ := Int.eq_ofNat_of_zero_le h0
  obtain ⟨m, rfl⟩ := Int.eq_ofNat_of_zero_le (show 0 ≤ n by omega)
  have hj : j < m := by omega
  rw [rangeT_nat, ixT_nat (by simpa using hj)]
  simp
theorem mem_enumT {xs : List α} {p : Int × α} : p ∈ enumT xs ↔ ∃ j : Nat, p.1 = (j : Int) ∧ xs[j]? = some p.2 := by
  unfold enumT
  rw [List.mem_map]
  constructor
  · rintro ⟨q, hq, rfl⟩
    exact ⟨q.2, rfl, (List.mem_zipIdx_iff_getElem?.mp hq)⟩
  · rintro ⟨j, h1, h2⟩
    exact ⟨(p.2, j), List.mem_zipIdx_iff_getElem?.mpr h2, by rw [← h1]⟩
theorem enumT_length {xs : List α} : (enumT xs).length = xs.length := by simp [enumT]
end
/-! ### sorted -/
theorem mem_sortT {α : Type} [Enc α] {x : α} {xs : List α} : x ∈ sortT xs ↔ x ∈ xs := (isort_perm _).mem_iff
theorem sortT_length {α : Type} [Enc α] (xs : List α) : (sortT xs).length = xs.length := (isort_perm _).length_eq
theorem ltD_int (a b : Int) : ltD (enc a) (enc b) = decide (a < b) := by
  show (lexLt itemOrd [.inl a] [.inl b]) = _
  rw [lex_cons]
  show (decide (a < b) || (!decide (b < a) && false)) = _
  rw [Bool.and_false, Bool.or_false]
theorem sortT_two (a b : Int) : sortT [a, b] = [min a b, max a b] := by
  show isort (fun a b : Int => ltD (enc a) (enc b)) [a, b] = _
  have e : isort (fun a b : Int => ltD (enc a) (enc b)) [a, b] = if ltD (enc b) (enc a) = true then [b, a] else [a, b] := rfl
  rw [e, ltD_int]
  by_cases h : b < a
  · rw [if_pos (by simpa using h), Int.min_def, Int.max_def, if_neg (by omega), if_neg (by omega)]
  · rw [if_neg (by simpa using h), Int.min_def, Int.max_def, if_pos (by omega), if_pos (by omega)]
/-! ### dicts -/
section
variable {κ ν : Type} [DecidableEq κ]
theorem mem_putT {d : List (κ × ν)} {k x : κ} {v : ν} : x ∈ (putT d k v).map (·.1) ↔ x ∈ d.map (·.1) ∨ x = k := by
  unfold putT
  split
  · rename_i h
    have e : (d.map fun p => if p.1 = k then (p.1, v) else p).map (·.1) = d.map (·.1) := by
      rw [List.map_map]
      refine List.map_congr_left fun p _ => ?_
      show (if p.1 = k then (p.1, v) else p).1 = p.1
      split <;> rfl
    rw [e]
    obtain ⟨p, hp, hk⟩ := List.any_eq_true.mp h
    constructor
    · exact .inl
    · rintro (h | rfl)
      · exact h
      · exact List.mem_map.mpr ⟨p, hp, of_decide_eq_true hk⟩
  · simp [or_comm]
theorem mem_foldT : ∀ (xs d : List (κ × ν)) (x : κ), x ∈ (xs.foldl (fun d p => putT d p.1 p.2) d).map (·.1) ↔ x ∈ d.map (·.1) ∨ x ∈ xs.map (·.1)
  | [], d, x => by simp
  | p :: xs, d, x => by
    rw [List.foldl_cons, mem_foldT xs, mem_putT, List.map_cons, List.mem_cons]
    constructor
    · rintro ((h | h) | h)
      · exact .inl h
      · exact .inr (.inl h)
      · exact .inr (.inr h)
    · rintro (h | h | h)
      · exact .inl (.inl h)
      · exact .inl (.inr h)
      · exact .inr h
theorem mem_dictT {xs : List (κ × ν)} {x : κ} : x ∈ (dictT xs).l.map (·.1) ↔ x ∈ xs.map (·.1) := by
  unfold dictT
  rw [mem_foldT]
  simp
theorem dictT_length_le (xs : List (κ × ν)) : (dictT xs).l.length ≤ xs.length := by
  have go : ∀ (xs d : List (κ × ν)), (xs.foldl (fun d p => putT d p.1 p.2) d).length ≤ d.length + xs.length := by
    intro xs
    induction xs with
    | nil => intro d; simp
    | cons p xs ih =>
      intro d
      rw [List.foldl_cons]
      have h1 := ih (putT d p.1 p.2)
      have h2 : (putT d p.1 p.2).length ≤ d.length + 1 := by unfold putT; split <;> simp
      rw [List.length_cons]
      omega
  simpa [dictT] using go xs []
/-- of keys that differ the dict is the pairs -/
theorem dictT_nodup : ∀ {xs : List (κ × ν)}, (xs.map (·.1)).Nodup → (dictT xs).l = xs := by
  have go : ∀ (xs d : List (κ × ν)), ((d ++ xs).map (·.1)).Nodup → xs.foldl (fun d p => putT d p.1 p.2) d = d ++ xs := by
    intro xs
    induction xs with
    | nil => intro d _; simp
    | cons p xs ih =>
      intro d h
      have hn : (d.any fun q => decide (q.1 = p.1)) = false := by
        refine Bool.eq_false_iff.mpr fun c => ?_
        obtain ⟨q, hq, e⟩ := List.any_eq_true.mp c
        have e' := of_decide_eq_true e
        rw [List.map_append, List.map_cons] at h
        have := (List.nodup_append.mp h).2.2 q.1 (List.mem_map.mpr ⟨q, hq, rfl⟩) p.1 List.mem_cons_self
        exact this e'
      rw [List.foldl_cons]
      have e : putT d p.1 p.2 = d ++ [p] := by unfold putT; rw [hn]; rfl
      rw [e, ih (d ++ [p]) (by simpa using h)]
      simp
  intro xs h
  simpa [dictT] using go xs [] (by simpa using h)
theorem getT_nodup {xs : List (κ × ν)} {k : κ} {v : ν} (h : (xs.map (·.1)).Nodup) (hm : (k, v) ∈ xs) : getT (dictT xs) k = some v := by
  unfold getT
  rw [dictT_nodup h]
  have : xs.find? (fun p => decide (p.1 = k)) = some (k, v) := by
    induction xs with
    | nil => cases hm
    | cons p xs ih =>
      rw [List.map_cons, List.nodup_cons] at h
      rcases List.mem_cons.mp hm with rfl | hm
      · simp
      · have ne : ¬ p.1 = k := fun e => h.1 (by rw [e]; exact List.mem_map.mpr ⟨_, hm, rfl⟩)
        rw [List.find?_cons]
        simp only [decide_eq_false ne]
        exact ih h.2 hm
  rw [this]
  rfl
end
end R
set_option maxHeartbeats 0
namespace Hd
open PySem PySem.Spec PyProof.Rows L2
def top (i : Nat) : Stmt := PySem.Challenge.pw_walksbeside_k08_partners_and_modes_witho.main.body.getD i (.Pass ⟨0, 0, 0, 0⟩)
def dd (x : Str) (i : Nat) : He.DefD := ⟨(x, none), x, x, defArgs (top i), defBody (top i), defScope (top i), [], []⟩
def fn : List He.DefD := ([dd "modes_told" 3, dd "all_modes" 4, dd "is_clashing" 5, dd "clashing_with" 6, dd "is_weaker" 7, dd "are_like" 8, dd "is_partner" 9, dd "partner_of" 10, dd "partners_told" 11, dd "have_partners" 12, dd "_law_source" 14, dd "_law_pick" 15, dd "_law_of" 16, dd "_law_drawn" 17, dd "_law_free" 18, dd "law" 19] : List He.DefD)
def fa : List He.Fa := ([.glo "modes_told", .glo "all_modes", .glo "is_clashing", .glo "clashing_with", .glo "is_weaker", .glo "are_like", .glo "is_partner", .glo "partner_of", .glo "partners_told", .glo "have_partners", .glo "_law_source", .glo "_law_pick", .glo "_law_of", .glo "_law_drawn", .glo "_law_free", .glo "law", .free "abs", .free "dict", .free "enumerate", .free "int", .free "len", .free "list", .free "max", .free "min", .free "range", .free "sorted", .free "tuple", .str "LACKS" "none", .str "PARTNERS" "partners"] : List He.Fa)
abbrev R : PySem.W.OpenRow := PySem.W.OpenLaw.row PySem.Challenge.rw_walksbeside_k08_partners_and_modes_witho
abbrev hk : PySem.W.Hook := He.hookD 4 fa fn
def ob (s : PySem.W.SharedT) : He.AlD := He.obsDG 4 fa fn (HandSHeadRun.getT s)
theorem ob_eq (s : PySem.W.SharedT) : ob s = hk.obs s.abs := He.obsDG_eq (HandSHeadRun.getT_eq s)
def loose : List Str := (["modes_told", "all_modes", "is_clashing", "clashing_with", "is_weaker", "are_like", "is_partner", "partner_of", "partners_told", "have_partners", "_law_source", "_law_pick", "_law_of", "_law_drawn", "_law_free", "PARTNERS", "LACKS"] : List Str)
theorem run (w : World) : HandSHeadRun.RunEq R (PySem.W.view R.prog [19]) hk ob 4000 loose w := by
  intro os
  kernel_rfl
end Hd
set_option maxHeartbeats 8000000
/-! What the defs do, and that they do it. Printed by wip/gen.py. -/
namespace Lw
open PySem PySem.Spec PyProof.Rows L2 R
def N_modes_told : List Str := ["names", "pairs", "known", "number", "name", "some", "one", "other", "pair"]
def r_modes_told : RS1 := rSeq (rAsg (rBi sDict (rConsB (rComp [3, 4] (riEnum (rVar 0)) (rgTup 2 (rgCons (rgName 3) (rgCons (rgName 4) (rgNil)))) (rYes) (rTup (rCons (rVar 4) (rCons (rVar 3) (rNil))))) (rNil))) (rgName 2))
      (rSeq (rAsg (rComp [6, 7] (riSeq (rVar 1)) (rgTup 2 (rgCons (rgName 6) (rgCons (rgName 7) (rgNil)))) (rYes) (rBi sTuple (rConsB (rBi sSorted (rConsB (rLst (rCons (rBin sIdx (rVar 2) (rVar 6)) (rCons (rBin sIdx (rVar 2) (rVar 7)) (rNil)))) (rNil))) (rNil)))) (rgName 5))
      (rRet (rTup (rCons (rBi sTuple (rConsB (rVar 0) (rNil))) (rCons (rBi sTuple (rConsB (rBi sSorted (rConsB (rBi sDict (rConsB (rComp [8] (riSeq (rVar 5)) (rgName 8) (rYes) (rTup (rCons (rVar 8) (rCons (rC .none) (rNil))))) (rNil))) (rNil))) (rNil))) (rNil))))))
def C_modes_told : R.Spec := semC N_modes_told r_modes_told
def N_all_modes : List Str := ["modes"]
def r_all_modes : RS1 := rRet (rListRg1 .list (rBi sLen (rConsB (rBin sIdx (rVar 0) (rC (.int 0))) (rNil))))
def C_all_modes : R.Spec := semC N_all_modes r_all_modes
def N_is_clashing : List Str := ["modes", "one", "other"]
def r_is_clashing : RS1 := rRet (rBin sIn (rTup (rCons (rBi sMin2 (rConsB (rVar 1) (rConsB (rVar 2) (rNil)))) (rCons (rBi sMax2 (rConsB (rVar 1) (rConsB (rVar 2) (rNil)))) (rNil)))) (rBin sIdx (rVar 0) (rC (.int 1))))
def C_is_clashing : R.Spec := semC N_is_clashing r_is_clashing
def N__law_free : List Str := ["names", "pairs", "one", "k", "other"]
def r__law_free : RS1 := rRet (rComp [3, 4] (riEnum (rVar 0)) (rgTup 2 (rgCons (rgName 3) (rgCons (rgName 4) (rgNil)))) (rAnd (rTest (rBin sNotIn (rTup (rCons (rVar 2) (rCons (rVar 4) (rNil)))) (rVar 1))) (rTest (rBin sNotIn (rTup (rCons (rVar 4) (rCons (rVar 2) (rNil)))) (rVar 1)))) (rVar 3))
def C__law_free : R.Spec := semC N__law_free r__law_free
def N_clashing_with : List Str := ["modes", "mode", "other"]
def r_clashing_with : RS1 := rRet (rBi sTuple (rConsB (rComp [2] (riSeq (rCall 1 C_all_modes (rCons (rVar 0) (rNil)))) (rgName 2) (rTru (rCall 3 C_is_clashing (rCons (rVar 0) (rCons (rVar 1) (rCons (rVar 2) (rNil)))))) (rVar 2)) (rNil)))
def C_clashing_with : R.Spec := semC N_clashing_with r_clashing_with
def N__law_of : List Str := ["source", "some"]
def r__law_of : RS1 := rRet (rBin sIdx (rVar 1) (rCall 2 cPick (rCons (rVar 0) (rCons (rBi sLen (rConsB (rVar 1) (rNil))) (rNil)))))
def C__law_of : R.Spec := semC N__law_of r__law_of
def N_is_weaker : List Str := ["modes", "one", "other", "mode"]
def r_is_weaker : RS1 := rRet (rBin sEq (rComp [3] (riSeq (rCall 2 C_clashing_with (rCons (rVar 0) (rCons (rVar 1) (rNil))))) (rgName 3) (rNot (rTru (rCall 3 C_is_clashing (rCons (rVar 0) (rCons (rVar 3) (rCons (rVar 2) (rNil))))))) (rVar 3)) (rLst (rNil)))
def C_is_weaker : R.Spec := semC N_is_weaker r_is_weaker
def N_are_like : List Str := ["modes", "one", "other"]
def r_are_like : RS1 := rRet (rBin sEq (rCall 2 C_clashing_with (rCons (rVar 0) (rCons (rVar 1) (rNil)))) (rCall 2 C_clashing_with (rCons (rVar 0) (rCons (rVar 2) (rNil)))))
def C_are_like : R.Spec := semC N_are_like r_are_like
def N__law_drawn : List Str := ["source", "kinds", "names", "pairs", "k", "one", "other", "pair"]
def r__law_drawn : RS1 := rSeq (rOwnIt (rLst (rCons (rTup (rCons (rC (.str "nx")) (rCons (rLst (rCons (rC (.str "xx")) (rNil))) (rNil)))) (rCons (rTup (rCons (rC (.str "nsx")) (rCons (rLst (rCons (rC (.str "sx")) (rCons (rC (.str "xx")) (rNil)))) (rNil)))) (rCons (rTup (rCons (rC (.str "nijsx")) (rCons (rLst (rCons (rC (.str "ix")) (rCons (rC (.str "js")) (rCons (rC (.str "jx")) (rCons (rC (.str "sx")) (rCons (rC (.str "xx")) (rNil))))))) (rNil)))) (rNil))))) 1)
      (rSeq (rAppendTo 1 (rTup (rCons (rC (.str "nst")) (rCons (rLst (rCons (rC (.str "ss")) (rCons (rC (.str "st")) (rCons (rC (.str "tt")) (rNil))))) (rNil)))))
      (rSeq (rAsg (rCall 2 C__law_of (rCons (rVar 0) (rCons (rBin sAdd (rOwn 1) (rLst (rCons (rTup (rCons (rC (.str "nab")) (rCons (rLst (rCons (rC (.str "aa")) (rCons (rC (.str "bb")) (rNil)))) (rNil)))) (rCons (rTup (rCons (rC (.str "nik")) (rCons (rLst (rNil)) (rNil)))) (rNil))))) (rNil)))) (rgTup 2 (rgCons (rgName 2) (rgCons (rgName 3) (rgNil)))))
      (rSeq (rIf (rTest (rBin sEq (rCall 2 cPick (rCons (rVar 0) (rCons (rC (.int 2)) (rNil)))) (rC (.int 0)))) (rSeq (rPar2 2 3 (rCons (rSlice (rC (.str "nabcde")) (rNoPart) (rPart (rBin sAdd (rC (.int 2)) (rCall 2 cPick (rCons (rVar 0) (rCons (rC (.int 5)) (rNil))))))) (rCons (rLst (rNil)) (rNil))))
      (rForW [4, 5] (riEnum (rSlice (rVar 2) (rPart (rC (.int 1))) (rNoPart))) (rgTup 2 (rgCons (rgName 4) (rgCons (rgName 5) (rgNil)))) (rAsg (rBin sAdd (rVar 3) (rComp [6] (riSeq (rSlice (rVar 2) (rPart (rBin sAdd (rVar 4) (rC (.int 1)))) (rNoPart))) (rgName 6) (rTest (rBin sEq (rCall 2 cPick (rCons (rVar 0) (rCons (rC (.int 2)) (rNil)))) (rC (.int 0)))) (rBin sAdd (rVar 5) (rVar 6)))) (rgName 3)))) (rNext))
      (rRet (rTup (rCons (rBi sTuple (rConsB (rVar 2) (rNil))) (rCons (rBi sTuple (rConsB (rComp [7] (riSeq (rVar 3)) (rgName 7) (rYes) (rBi sTuple (rConsB (rVar 7) (rNil)))) (rNil))) (rNil))))))))
def C__law_drawn : R.Spec := semC N__law_drawn r__law_drawn
def N_is_partner : List Str := ["modes", "mode", "partner", "one"]
def r_is_partner : RS1 := rRet (rBin sEq (rComp [3] (riSeq (rCall 1 C_all_modes (rCons (rVar 0) (rNil)))) (rgName 3) (rTest (rBin sEq (rCall 3 C_is_clashing (rCons (rVar 0) (rCons (rVar 2) (rCons (rVar 3) (rNil))))) (rCall 3 C_is_weaker (rCons (rVar 0) (rCons (rVar 3) (rCons (rVar 1) (rNil))))))) (rVar 3)) (rLst (rNil)))
def C_is_partner : R.Spec := semC N_is_partner r_is_partner
def N_partner_of : List Str := ["modes", "mode", "some", "one"]
def r_partner_of : RS1 := rSeq (rAsg (rComp [3] (riSeq (rCall 1 C_all_modes (rCons (rVar 0) (rNil)))) (rgName 3) (rTru (rCall 3 C_is_partner (rCons (rVar 0) (rCons (rVar 1) (rCons (rVar 3) (rNil)))))) (rVar 3)) (rgName 2))
      (rRet (rIte (rTest (rBin sNe (rVar 2) (rLst (rNil)))) (rBin sIdx (rVar 2) (rC (.int 0))) (rC .none)))
def C_partner_of : R.Spec := semC N_partner_of r_partner_of
def N_partners_told : List Str := ["modes", "some", "mode"]
def r_partners_told : RS1 := rSeq (rAsg (rComp [2] (riSeq (rCall 1 C_all_modes (rCons (rVar 0) (rNil)))) (rgName 2) (rYes) (rCall 2 C_partner_of (rCons (rVar 0) (rCons (rVar 2) (rNil))))) (rgName 1))
      (rRet (rIte (rTest (rBin sIn (rC .none) (rVar 1))) (rTup (rCons (rC (.str "none")) (rCons (rMt okL sIndex (rVar 1) (rConsB (rC .none) (rNil))) (rNil)))) (rTup (rCons (rC (.str "partners")) (rCons (rBi sTuple (rConsB (rVar 1) (rNil))) (rNil))))))
def C_partners_told : R.Spec := semC N_partners_told r_partners_told
def N_have_partners : List Str := ["modes"]
def r_have_partners : RS1 := rRet (rBin sEq (rBin sIdx (rCall 1 C_partners_told (rCons (rVar 0) (rNil))) (rC (.int 0))) (rC (.str "partners")))
def C_have_partners : R.Spec := semC N_have_partners r_have_partners
def N_law : List Str := ["script", "source", "names", "pairs", "modes", "every", "free", "one", "lower", "k", "b", "a", "dues", "some", "p", "due", "told", "other"]
def r_law : RS1 := rSeq (rAsg (rCall 1 cSource (rCons (rVar 0) (rNil))) (rgName 1))
      (rSeq (rAsg (rCall 1 C__law_drawn (rCons (rVar 1) (rNil))) (rgTup 2 (rgCons (rgName 2) (rgCons (rgName 3) (rgNil)))))
      (rSeq (rAsg (rTup (rCons (rCall 2 C_modes_told (rCons (rVar 2) (rCons (rVar 3) (rNil)))) (rCons (rListRg1 .list (rBi sLen (rConsB (rVar 2) (rNil)))) (rNil)))) (rgTup 2 (rgCons (rgName 4) (rgCons (rgName 5) (rgNil)))))
      (rSeq (rAsg (rComp [7] (riSeq (rVar 2)) (rgName 7) (rYes) (rCall 3 C__law_free (rCons (rVar 2) (rCons (rVar 3) (rCons (rVar 7) (rNil)))))) (rgName 6))
      (rSeq (rAsg (rComp [11] (riSeq (rVar 5)) (rgName 11) (rYes) (rComp [10] (riSeq (rVar 5)) (rgName 10) (rYes) (rBin sEq (rComp [9] (riSeq (rBin sIdx (rVar 6) (rVar 10))) (rgName 9) (rTest (rBin sNotIn (rVar 9) (rBin sIdx (rVar 6) (rVar 11)))) (rVar 9)) (rLst (rNil))))) (rgName 8))
      (rSeq (rOwnIt (rLst (rNil)) 12)
      (rSeq (rForW [10, 11, 13, 14, 15] (riSeq (rVar 5)) (rgName 11) (rSeq (rAsg (rLst (rNil)) (rgName 13))
      (rSeq (rForW [14, 15] (riSeq (rVar 5)) (rgName 14) (rSeq (rAsg (rAndV (rBin sIn (rVar 14) (rBin sIdx (rVar 6) (rVar 11))) (rBin sEq (rComp [9] (riSeq (rVar 5)) (rgName 9) (rAnd (rNot (rTru (rBin sIdx (rBin sIdx (rVar 8) (rVar 9)) (rVar 11)))) (rTest (rBin sIn (rVar 9) (rBin sIdx (rVar 6) (rVar 14))))) (rVar 9)) (rLst (rNil)))) (rgName 15))
      (rSeq (rIf (rTest (rBin sNe (rCall 3 C_is_partner (rCons (rVar 4) (rCons (rVar 11) (rCons (rVar 14) (rNil))))) (rVar 15))) (rRet (rC (.bool false))) (rNext))
      (rSeq (rIf (rAnd (rTru (rVar 15)) (rTest (rBin sNe (rBin sIdx (rVar 6) (rVar 14)) (rComp [9] (riSeq (rVar 5)) (rgName 9) (rTru (rBin sIdx (rBin sIdx (rVar 8) (rVar 9)) (rVar 11))) (rVar 9))))) (rRet (rC (.bool false))) (rNext))
      (rAsg (rIte (rTru (rVar 15)) (rBin sAdd (rVar 13) (rLst (rCons (rVar 14) (rNil)))) (rVar 13)) (rgName 13))))))
      (rSeq (rIf (rTest (rBin sNe (rComp [14] (riSeq (rVar 13)) (rgName 14) (rNot (rTru (rCall 3 C_are_like (rCons (rVar 4) (rCons (rBin sIdx (rVar 13) (rC (.int 0))) (rCons (rVar 14) (rNil))))))) (rVar 14)) (rLst (rNil)))) (rRet (rC (.bool false))) (rNext))
      (rSeq (rIf (rTest (rBin sNe (rCall 2 C_partner_of (rCons (rVar 4) (rCons (rVar 11) (rNil)))) (rIte (rTest (rBin sNe (rVar 13) (rLst (rNil)))) (rBin sIdx (rVar 13) (rC (.int 0))) (rC .none)))) (rRet (rC (.bool false))) (rNext))
      (rSeq (rAppendTo 12 (rIte (rTest (rBin sNe (rVar 13) (rLst (rNil)))) (rBin sIdx (rVar 13) (rC (.int 0))) (rC .none)))
      (rForW [10] (riSeq (rVar 5)) (rgName 10) (rIf (rOr (rTest (rBin sNe (rCall 3 C_is_clashing (rCons (rVar 4) (rCons (rVar 11) (rCons (rVar 10) (rNil))))) (rBin sNotIn (rVar 10) (rBin sIdx (rVar 6) (rVar 11))))) (rTest (rBin sNe (rCall 3 C_is_weaker (rCons (rVar 4) (rCons (rVar 11) (rCons (rVar 10) (rNil))))) (rBin sIdx (rBin sIdx (rVar 8) (rVar 11)) (rVar 10))))) (rRet (rC (.bool false))) (rNext)))))))))
      (rSeq (rAsg (rIte (rTest (rBin sNotIn (rC .none) (rOwn 12))) (rTup (rCons (rC (.str "partners")) (rCons (rBi sTuple (rConsB (rOwn 12) (rNil))) (rNil)))) (rTup (rCons (rC (.str "none")) (rCons (rMt okL sIndex (rOwn 12) (rConsB (rC .none) (rNil))) (rNil))))) (rgName 15))
      (rSeq (rIf (rOr (rTest (rBin sNe (rCall 1 C_partners_told (rCons (rVar 4) (rNil))) (rVar 15))) (rTest (rBin sNe (rCall 1 C_have_partners (rCons (rVar 4) (rNil))) (rBin sNotIn (rC .none) (rOwn 12))))) (rRet (rC (.bool false))) (rNext))
      (rSeq (rForW [10, 11] (riSeq (rVar 5)) (rgName 11) (rForW [10] (riSeq (rVar 5)) (rgName 10) (rSeq (rIf (rAnd (rTest (rBin sNotIn (rC .none) (rTup (rCons (rBin sIdx (rOwn 12) (rVar 11)) (rCons (rBin sIdx (rOwn 12) (rVar 10)) (rNil)))))) (rTest (rBin sNe (rBin sIdx (rBin sIdx (rVar 8) (rVar 11)) (rVar 10)) (rBin sIdx (rBin sIdx (rVar 8) (rBin sIdx (rOwn 12) (rVar 10))) (rBin sIdx (rOwn 12) (rVar 11)))))) (rRet (rC (.bool false))) (rNext))
      (rIf (rAnd (rTest (rBin sNotIn (rC .none) (rOwn 12))) (rTest (rBin sNe (rBin sIdx (rBin sIdx (rVar 8) (rVar 11)) (rVar 10)) (rBin sIn (rBin sIdx (rOwn 12) (rVar 10)) (rBin sIdx (rVar 6) (rVar 11)))))) (rRet (rC (.bool false))) (rNext)))))
      (rSeq (rAsg (rLst (rCons (rTup (rCons (rTup (rCons (rC (.str "n")) (rCons (rC (.str "x")) (rNil)))) (rCons (rTup (rCons (rTup (rCons (rC (.str "x")) (rCons (rC (.str "x")) (rNil)))) (rNil))) (rNil)))) (rCons (rTup (rCons (rTup (rCons (rC (.str "n")) (rCons (rC (.str "s")) (rCons (rC (.str "x")) (rNil))))) (rCons (rTup (rCons (rTup (rCons (rC (.str "s")) (rCons (rC (.str "x")) (rNil)))) (rCons (rTup (rCons (rC (.str "x")) (rCons (rC (.str "x")) (rNil)))) (rNil)))) (rNil)))) (rNil)))) (rgName 16))
      (rSeq (rAsg (rBin sAdd (rVar 16) (rLst (rCons (rTup (rCons (rTup (rCons (rC (.str "n")) (rCons (rC (.str "a")) (rCons (rC (.str "b")) (rNil))))) (rCons (rTup (rCons (rTup (rCons (rC (.str "a")) (rCons (rC (.str "a")) (rNil)))) (rCons (rTup (rCons (rC (.str "b")) (rCons (rC (.str "b")) (rNil)))) (rNil)))) (rNil)))) (rCons (rTup (rCons (rTup (rCons (rC (.str "n")) (rCons (rC (.str "i")) (rNil)))) (rCons (rTup (rNil)) (rNil)))) (rCons (rTup (rCons (rTup (rCons (rC (.str "n")) (rCons (rC (.str "s")) (rCons (rC (.str "t")) (rNil))))) (rCons (rTup (rCons (rTup (rCons (rC (.str "s")) (rCons (rC (.str "s")) (rNil)))) (rNil))) (rNil)))) (rNil)))))) (rgName 16))
      (rSeq (rAsg (rLst (rCons (rTup (rCons (rC (.str "partners")) (rCons (rTup (rCons (rC (.int 1)) (rCons (rC (.int 0)) (rNil)))) (rNil)))) (rCons (rTup (rCons (rC (.str "partners")) (rCons (rTup (rCons (rC (.int 2)) (rCons (rC (.int 1)) (rCons (rC (.int 0)) (rNil))))) (rNil)))) (rCons (rTup (rCons (rC (.str "none")) (rCons (rC (.int 0)) (rNil)))) (rCons (rTup (rCons (rC (.str "partners")) (rCons (rTup (rCons (rC (.int 0)) (rCons (rC (.int 0)) (rNil)))) (rNil)))) (rCons (rTup (rCons (rC (.str "partners")) (rCons (rTup (rCons (rC (.int 1)) (rCons (rC (.int 0)) (rCons (rC (.int 1)) (rNil))))) (rNil)))) (rNil))))))) (rgName 15))
      (rRet (rBin sEq (rComp [7, 17] (riSeq (rVar 16)) (rgTup 2 (rgCons (rgName 7) (rgCons (rgName 17) (rgNil)))) (rYes) (rCall 1 C_partners_told (rCons (rCall 2 C_modes_told (rCons (rVar 7) (rCons (rVar 17) (rNil)))) (rNil)))) (rVar 15)))))))))))))))
def C_law : R.Spec := semC N_law r_law
end Lw
namespace Ty
open PySem PySem.Spec R
open Enc (enc)
def t_modes_told_known (a_names : (Vec Str)) (a_pairs : (Vec (Vec Str))) : (Dct Str Int) := (dictT (List.map (fun x_1 : (Int × Str) => (x_1.2, x_1.1)) (enumT a_names.l)))
def t_modes_told_some (a_names : (Vec Str)) (a_pairs : (Vec (Vec Str))) : (List (Vec Int)) := (List.map (fun x_4 : (Vec Str) => (Vec.mk (sortT ([((getT (t_modes_told_known a_names a_pairs) (ixT x_4.l 0)).getD default), ((getT (t_modes_told_known a_names a_pairs) (ixT x_4.l 1)).getD default)] : (List Int))))) a_pairs.l)
def t_modes_told (a_names : (Vec Str)) (a_pairs : (Vec (Vec Str))) : ((Vec Str) × (Vec (Vec Int))) := (a_names, (Vec.mk (sortT ((dictT (List.map (fun x_7 : (Vec Int) => (x_7, ())) (t_modes_told_some a_names a_pairs))).l.map (·.1)))))
def p_modes_told (a_names : (Vec Str)) (a_pairs : (Vec (Vec Str))) : Prop := ((∀ x_4 ∈ a_pairs.l, ((x_4.l.length = 2) ∧ (((getT (t_modes_told_known a_names a_pairs) (ixT x_4.l 0)).isSome = true) ∧ ((getT (t_modes_told_known a_names a_pairs) (ixT x_4.l 1)).isSome = true)))) ∧ (okSort (List.map enc ((dictT (List.map (fun x_7 : (Vec Int) => (x_7, ())) (t_modes_told_some a_names a_pairs))).l.map (·.1)))))
theorem ok_modes_told (a_names : (Vec Str)) (a_pairs : (Vec (Vec Str))) (h : p_modes_told a_names a_pairs) : OkC Lw.C_modes_told [.d (enc a_names), .d (enc a_pairs)] (enc (t_modes_told a_names a_pairs)) := ⟨fun q k => by
  show Lw.r_modes_told (stE Lw.N_modes_told [.d (enc a_names), .d (enc a_pairs)]) { nx := fun _ => q (.d .none), rt := q }
  unfold Lw.r_modes_told
  exact seqN (v := enc (t_modes_told_known a_names a_pairs)) (bDict (oCompA (α := (Int × Str)) (g := fun x_1 => (x_1.2, x_1.1)) (iEV (oV rfl)) rfl (fun x_1 hx_2 => ⟨_, gTup (vs := [_, _]) (gCons (gNm) (gCons (gNm) (gNil))) rfl, rfl, oTup (aC (oV rfl) (aC (oV rfl) (aN))) (by show 2 ≤ sizeLine; decide)⟩))) (seqN (v := enc (t_modes_told_some a_names a_pairs)) (oCompA (α := (Vec Str)) (g := fun x_4 => (Vec.mk (sortT ([((getT (t_modes_told_known a_names a_pairs) (ixT x_4.l 0)).getD default), ((getT (t_modes_told_known a_names a_pairs) (ixT x_4.l 1)).getD default)] : (List Int))))) (iV (oV rfl)) rfl (fun x_4 hx_5 => ⟨_, gVec2 (h.1 x_4 hx_5).1 (gNm) (gNm), rfl, bTupL (bSortL (oLst (aC (oIxD (oV rfl) (oV rfl) (h.1 x_4 hx_5).2.1) (aC (oIxD (oV rfl) (oV rfl) (h.1 x_4 hx_5).2.2) (aN))) (by show 2 ≤ sizeLine; decide)))⟩)) (endR (oTup (aC (bTupT (oV rfl)) (aC (bTupL (bSrtD (bDict (oCompA (α := (Vec Int)) (g := fun x_7 => (x_7, ())) (iL (oV rfl)) rfl (fun x_7 hx_8 => ⟨_, gNm, rfl, oTup (aC (oV rfl) (aC (oC) (aN))) (by show 2 ≤ sizeLine; decide)⟩))) h.2)) (aN))) (by show 2 ≤ sizeLine; decide)) k))⟩
def t_all_modes (a_modes : ((Vec Str) × (Vec (Vec Int)))) : (List Int) := (rangeT 0 (a_modes.1.l.length : Int))
def p_all_modes (a_modes : ((Vec Str) × (Vec (Vec Int)))) : Prop := (-(2 ^ 62) ≤ (a_modes.1.l.length : Int) ∧ (a_modes.1.l.length : Int) ≤ 16777216)
theorem ok_all_modes (a_modes : ((Vec Str) × (Vec (Vec Int)))) (h : p_all_modes a_modes) : OkC Lw.C_all_modes [.d (enc a_modes)] (enc (t_all_modes a_modes)) := ⟨fun q k => by
  show Lw.r_all_modes (stE Lw.N_all_modes [.d (enc a_modes)]) { nx := fun _ => q (.d .none), rt := q }
  unfold Lw.r_all_modes
  exact endR (bListR1 (bLenV (oIxK (oV rfl) (oC) rfl)) h) k⟩
def t_is_clashing (a_modes : ((Vec Str) × (Vec (Vec Int)))) (a_one : Int) (a_other : Int) : Bool := (inT (Vec.mk [(min a_one a_other), (max a_one a_other)] : (Vec Int)) a_modes.2.l)
theorem ok_is_clashing (a_modes : ((Vec Str) × (Vec (Vec Int)))) (a_one : Int) (a_other : Int) : OkC Lw.C_is_clashing [.d (enc a_modes), .d (enc a_one), .d (enc a_other)] (enc (t_is_clashing a_modes a_one a_other)) := ⟨fun q k => by
  show Lw.r_is_clashing (stE Lw.N_is_clashing [.d (enc a_modes), .d (enc a_one), .d (enc a_other)]) { nx := fun _ => q (.d .none), rt := q }
  unfold Lw.r_is_clashing
  exact endR (oInV (oTup (aC (bMin (oV rfl) (oV rfl)) (aC (bMax (oV rfl) (oV rfl)) (aN))) (by show 2 ≤ sizeLine; decide)) (oIxK (oV rfl) (oC) rfl) (inOk_no _ _)) k⟩
def t_clashing_with (a_modes : ((Vec Str) × (Vec (Vec Int)))) (a_mode : Int) : (Vec Int) := (Vec.mk (List.map (fun x_1 : Int => x_1) (List.filter (fun x_1 => (t_is_clashing a_modes a_mode x_1)) (t_all_modes a_modes))))
def p_clashing_with (a_modes : ((Vec Str) × (Vec (Vec Int)))) (a_mode : Int) : Prop := (p_all_modes a_modes)
theorem ok_clashing_with (a_modes : ((Vec Str) × (Vec (Vec Int)))) (a_mode : Int) (h : p_clashing_with a_modes a_mode) : OkC Lw.C_clashing_with [.d (enc a_modes), .d (enc a_mode)] (enc (t_clashing_with a_modes a_mode)) := ⟨fun q k => by
  show Lw.r_clashing_with (stE Lw.N_clashing_with [.d (enc a_modes), .d (enc a_mode)]) { nx := fun _ => q (.d .none), rt := q }
  unfold Lw.r_clashing_with
  exact endR (bTupL (oComp (α := Int) (p := fun x_1 => (t_is_clashing a_modes a_mode x_1)) (g := fun x_1 => x_1) (iL (oCall (aC (oV rfl) (aN)) rfl (ok_all_modes a_modes h))) rfl (fun x_1 hx_2 => ⟨_, gNm, rfl, tTruB (oCall (aC (oV rfl) (aC (oV rfl) (aC (oV rfl) (aN)))) rfl (ok_is_clashing a_modes a_mode x_1)), fun hp_3 => oV rfl⟩))) k⟩
def t_is_weaker (a_modes : ((Vec Str) × (Vec (Vec Int)))) (a_one : Int) (a_other : Int) : Bool := (eqT (List.map (fun x_1 : Int => x_1) (List.filter (fun x_1 => (!(t_is_clashing a_modes x_1 a_other))) (t_clashing_with a_modes a_one).l)) ([] : (List Int)))
def p_is_weaker (a_modes : ((Vec Str) × (Vec (Vec Int)))) (a_one : Int) (a_other : Int) : Prop := (p_clashing_with a_modes a_one)
theorem ok_is_weaker (a_modes : ((Vec Str) × (Vec (Vec Int)))) (a_one : Int) (a_other : Int) (h : p_is_weaker a_modes a_one a_other) : OkC Lw.C_is_weaker [.d (enc a_modes), .d (enc a_one), .d (enc a_other)] (enc (t_is_weaker a_modes a_one a_other)) := ⟨fun q k => by
  show Lw.r_is_weaker (stE Lw.N_is_weaker [.d (enc a_modes), .d (enc a_one), .d (enc a_other)]) { nx := fun _ => q (.d .none), rt := q }
  unfold Lw.r_is_weaker
  exact endR (oEq (oComp (α := Int) (p := fun x_1 => (!(t_is_clashing a_modes x_1 a_other))) (g := fun x_1 => x_1) (iV (oCall (aC (oV rfl) (aC (oV rfl) (aN))) rfl (ok_clashing_with a_modes a_one h))) rfl (fun x_1 hx_2 => ⟨_, gNm, rfl, tNot' (tTruB (oCall (aC (oV rfl) (aC (oV rfl) (aC (oV rfl) (aN)))) rfl (ok_is_clashing a_modes x_1 a_other))), fun hp_3 => oV rfl⟩)) (oLst (aN) (by show 0 ≤ sizeLine; decide)) eqOk_no) k⟩
def t_are_like (a_modes : ((Vec Str) × (Vec (Vec Int)))) (a_one : Int) (a_other : Int) : Bool := (eqT (t_clashing_with a_modes a_one) (t_clashing_with a_modes a_other))
def p_are_like (a_modes : ((Vec Str) × (Vec (Vec Int)))) (a_one : Int) (a_other : Int) : Prop := ((p_clashing_with a_modes a_one) ∧ (p_clashing_with a_modes a_other))
theorem ok_are_like (a_modes : ((Vec Str) × (Vec (Vec Int)))) (a_one : Int) (a_other : Int) (h : p_are_like a_modes a_one a_other) : OkC Lw.C_are_like [.d (enc a_modes), .d (enc a_one), .d (enc a_other)] (enc (t_are_like a_modes a_one a_other)) := ⟨fun q k => by
  show Lw.r_are_like (stE Lw.N_are_like [.d (enc a_modes), .d (enc a_one), .d (enc a_other)]) { nx := fun _ => q (.d .none), rt := q }
  unfold Lw.r_are_like
  exact endR (oEq (oCall (aC (oV rfl) (aC (oV rfl) (aN))) rfl (ok_clashing_with a_modes a_one h.1)) (oCall (aC (oV rfl) (aC (oV rfl) (aN))) rfl (ok_clashing_with a_modes a_other h.2)) eqOk_no) k⟩
def t_is_partner (a_modes : ((Vec Str) × (Vec (Vec Int)))) (a_mode : Int) (a_partner : Int) : Bool := (eqT (List.map (fun x_1 : Int => x_1) (List.filter (fun x_1 => (eqT (t_is_clashing a_modes a_partner x_1) (t_is_weaker a_modes x_1 a_mode))) (t_all_modes a_modes))) ([] : (List Int)))
def p_is_partner (a_modes : ((Vec Str) × (Vec (Vec Int)))) (a_mode : Int) (a_partner : Int) : Prop := ((p_all_modes a_modes) ∧ (∀ x_1 ∈ (t_all_modes a_modes), (p_is_weaker a_modes x_1 a_mode)))
theorem ok_is_partner (a_modes : ((Vec Str) × (Vec (Vec Int)))) (a_mode : Int) (a_partner : Int) (h : p_is_partner a_modes a_mode a_partner) : OkC Lw.C_is_partner [.d (enc a_modes), .d (enc a_mode), .d (enc a_partner)] (enc (t_is_partner a_modes a_mode a_partner)) := ⟨fun q k => by
  show Lw.r_is_partner (stE Lw.N_is_partner [.d (enc a_modes), .d (enc a_mode), .d (enc a_partner)]) { nx := fun _ => q (.d .none), rt := q }
  unfold Lw.r_is_partner
  exact endR (oEq (oComp (α := Int) (p := fun x_1 => (eqT (t_is_clashing a_modes a_partner x_1) (t_is_weaker a_modes x_1 a_mode))) (g := fun x_1 => x_1) (iL (oCall (aC (oV rfl) (aN)) rfl (ok_all_modes a_modes h.1))) rfl (fun x_1 hx_2 => ⟨_, gNm, rfl, tT (oEq (oCall (aC (oV rfl) (aC (oV rfl) (aC (oV rfl) (aN)))) rfl (ok_is_clashing a_modes a_partner x_1)) (oCall (aC (oV rfl) (aC (oV rfl) (aC (oV rfl) (aN)))) rfl (ok_is_weaker a_modes x_1 a_mode (h.2 x_1 hx_2))) eqOk_bool), fun hp_3 => oV rfl⟩)) (oLst (aN) (by show 0 ≤ sizeLine; decide)) eqOk_no) k⟩
def t_partner_of_some (a_modes : ((Vec Str) × (Vec (Vec Int)))) (a_mode : Int) : (List Int) := (List.map (fun x_1 : Int => x_1) (List.filter (fun x_1 => (t_is_partner a_modes a_mode x_1)) (t_all_modes a_modes)))
def t_partner_of (a_modes : ((Vec Str) × (Vec (Vec Int)))) (a_mode : Int) : (Option Int) := (if (!eqT (t_partner_of_some a_modes a_mode) ([] : (List Int))) = true then (some (ixT (t_partner_of_some a_modes a_mode) (0 : Int))) else (none : (Option Int)))
def p_partner_of (a_modes : ((Vec Str) × (Vec (Vec Int)))) (a_mode : Int) : Prop := (((p_all_modes a_modes) ∧ (∀ x_1 ∈ (t_all_modes a_modes), (p_is_partner a_modes a_mode x_1))) ∧ ((!eqT (t_partner_of_some a_modes a_mode) ([] : (List Int))) = true → ((L2.atI (t_partner_of_some a_modes a_mode) (0 : Int)).isSome = true)))
theorem ok_partner_of (a_modes : ((Vec Str) × (Vec (Vec Int)))) (a_mode : Int) (h : p_partner_of a_modes a_mode) : OkC Lw.C_partner_of [.d (enc a_modes), .d (enc a_mode)] (enc (t_partner_of a_modes a_mode)) := ⟨fun q k => by
  show Lw.r_partner_of (stE Lw.N_partner_of [.d (enc a_modes), .d (enc a_mode)]) { nx := fun _ => q (.d .none), rt := q }
  unfold Lw.r_partner_of
  exact seqN (v := enc (t_partner_of_some a_modes a_mode)) (oComp (α := Int) (p := fun x_1 => (t_is_partner a_modes a_mode x_1)) (g := fun x_1 => x_1) (iL (oCall (aC (oV rfl) (aN)) rfl (ok_all_modes a_modes h.1.1))) rfl (fun x_1 hx_2 => ⟨_, gNm, rfl, tTruB (oCall (aC (oV rfl) (aC (oV rfl) (aC (oV rfl) (aN)))) rfl (ok_is_partner a_modes a_mode x_1 (h.1.2 x_1 hx_2))), fun hp_3 => oV rfl⟩)) (endR (oIte (x := (some (ixT (t_partner_of_some a_modes a_mode) (0 : Int)))) (y := (none : (Option Int))) (tT (oNe (oV rfl) (oLst (aN) (by show 0 ≤ sizeLine; decide)) eqOk_no)) (fun hc_4 => oIxL (oV rfl) (oC) (h.2 hc_4)) (fun hc_4 => oC)) k)⟩
def t_partners_told_some (a_modes : ((Vec Str) × (Vec (Vec Int)))) : (List (Option Int)) := (List.map (fun x_1 : Int => (t_partner_of a_modes x_1)) (t_all_modes a_modes))
def t_partners_told (a_modes : ((Vec Str) × (Vec (Vec Int)))) : (Str × PyData) := (if (inT (none : (Option Int)) (t_partners_told_some a_modes)) = true then (("none" : Str), (enc (((idxT (t_partners_told_some a_modes) (none : (Option Int))).getD 0 : Nat) : Int))) else (("partners" : Str), (enc (Vec.mk (t_partners_told_some a_modes)))))
def p_partners_told (a_modes : ((Vec Str) × (Vec (Vec Int)))) : Prop := (((p_all_modes a_modes) ∧ (∀ x_1 ∈ (t_all_modes a_modes), (p_partner_of a_modes x_1))) ∧ ((inT (none : (Option Int)) (t_partners_told_some a_modes)) = true → ((idxT (t_partners_told_some a_modes) (none : (Option Int))).isSome = true)))
theorem ok_partners_told (a_modes : ((Vec Str) × (Vec (Vec Int)))) (h : p_partners_told a_modes) : OkC Lw.C_partners_told [.d (enc a_modes)] (enc (t_partners_told a_modes)) := ⟨fun q k => by
  show Lw.r_partners_told (stE Lw.N_partners_told [.d (enc a_modes)]) { nx := fun _ => q (.d .none), rt := q }
  unfold Lw.r_partners_told
  exact seqN (v := enc (t_partners_told_some a_modes)) (oCompA (α := Int) (g := fun x_1 => (t_partner_of a_modes x_1)) (iL (oCall (aC (oV rfl) (aN)) rfl (ok_all_modes a_modes h.1.1))) rfl (fun x_1 hx_2 => ⟨_, gNm, rfl, oCall (aC (oV rfl) (aC (oV rfl) (aN))) rfl (ok_partner_of a_modes x_1 (h.1.2 x_1 hx_2))⟩)) (endR (oIte (x := (("none" : Str), (enc (((idxT (t_partners_told_some a_modes) (none : (Option Int))).getD 0 : Nat) : Int)))) (y := (("partners" : Str), (enc (Vec.mk (t_partners_told_some a_modes))))) (tT (oInL (oC) (oV rfl) (inOk_no _ _))) (fun hc_4 => oTup (aC (oC) (aC (oIndex (oV rfl) (oC) (inOk_no _ _) (h.2 hc_4)) (aN))) (by show 2 ≤ sizeLine; decide)) (fun hc_4 => oTup (aC (oC) (aC (bTupL (oV rfl)) (aN))) (by show 2 ≤ sizeLine; decide))) k)⟩
def t_have_partners (a_modes : ((Vec Str) × (Vec (Vec Int)))) : Bool := (eqT (t_partners_told a_modes).1 ("partners" : Str))
def p_have_partners (a_modes : ((Vec Str) × (Vec (Vec Int)))) : Prop := (p_partners_told a_modes)
theorem ok_have_partners (a_modes : ((Vec Str) × (Vec (Vec Int)))) (h : p_have_partners a_modes) : OkC Lw.C_have_partners [.d (enc a_modes)] (enc (t_have_partners a_modes)) := ⟨fun q k => by
  show Lw.r_have_partners (stE Lw.N_have_partners [.d (enc a_modes)]) { nx := fun _ => q (.d .none), rt := q }
  unfold Lw.r_have_partners
  exact endR (oEq (oIxK (oCall (aC (oV rfl) (aN)) rfl (ok_partners_told a_modes h)) (oC) rfl) (oC) eqOk_str) k⟩
def t__law_free (a_names : (Vec Str)) (a_pairs : (Vec (Vec Str))) (a_one : Str) : (List Int) := (List.map (fun x_1 : (Int × Str) => x_1.1) (List.filter (fun x_1 => ((!inT (Vec.mk [a_one, x_1.2] : (Vec Str)) a_pairs.l) && (!inT (Vec.mk [x_1.2, a_one] : (Vec Str)) a_pairs.l))) (enumT a_names.l)))
def p__law_free (a_names : (Vec Str)) (a_pairs : (Vec (Vec Str))) (a_one : Str) : Prop := (∀ x_1 ∈ (enumT a_names.l), ((inOk (Vec.mk [a_one, x_1.2] : (Vec Str)) a_pairs.l) ∧ ((!inT (Vec.mk [a_one, x_1.2] : (Vec Str)) a_pairs.l) = true → (inOk (Vec.mk [x_1.2, a_one] : (Vec Str)) a_pairs.l))))
theorem ok__law_free (a_names : (Vec Str)) (a_pairs : (Vec (Vec Str))) (a_one : Str) (h : p__law_free a_names a_pairs a_one) : OkC Lw.C__law_free [.d (enc a_names), .d (enc a_pairs), .d (enc a_one)] (enc (t__law_free a_names a_pairs a_one)) := ⟨fun q k => by
  show Lw.r__law_free (stE Lw.N__law_free [.d (enc a_names), .d (enc a_pairs), .d (enc a_one)]) { nx := fun _ => q (.d .none), rt := q }
  unfold Lw.r__law_free
  exact endR (oComp (α := (Int × Str)) (p := fun x_1 => ((!inT (Vec.mk [a_one, x_1.2] : (Vec Str)) a_pairs.l) && (!inT (Vec.mk [x_1.2, a_one] : (Vec Str)) a_pairs.l))) (g := fun x_1 => x_1.1) (iEV (oV rfl)) rfl (fun x_1 hx_2 => ⟨_, gTup (vs := [_, _]) (gCons (gNm) (gCons (gNm) (gNil))) rfl, rfl, tAnd' (tT (oNiV (oTup (aC (oV rfl) (aC (oV rfl) (aN))) (by show 2 ≤ sizeLine; decide)) (oV rfl) (h x_1 hx_2).1)) (fun hb_4 => tT (oNiV (oTup (aC (oV rfl) (aC (oV rfl) (aN))) (by show 2 ≤ sizeLine; decide)) (oV rfl) ((h x_1 hx_2).2 hb_4))), fun hp_3 => oV rfl⟩)) k⟩
def w__law_of (a_some : (List (Str × (List Str)))) (q_ : (Str × (List Str)) → Prop) : Prop := ((a_some.length : Int) < 1073741824 ∧ ∀ v_1 : Int, 0 ≤ v_1 → v_1 < max1 (a_some.length : Int) → (((L2.atI a_some v_1).isSome = true) ∧ (q_ (ixT a_some v_1))))
theorem okw__law_of (n_ : Nat) (a_some : (List (Str × (List Str)))) : OkW Lw.C__law_of [.src n_, .d (enc a_some)] (w__law_of a_some) := ⟨fun q_ h q hq_ => by
  show Lw.r__law_of (stE Lw.N__law_of [.src n_, .d (enc a_some)]) { nx := fun _ => q (.d .none), rt := q }
  unfold w__law_of at h
  unfold Lw.r__law_of
  exact wEndR (k := q_) (wIxL (wE' (a := (a_some : (List (Str × (List Str))))) (oV rfl)) (wPick rfl (wE' (a := ((a_some.length : Int) : Int)) (bLenL (oV rfl))))) h hq_⟩
def w__law_drawn  (q_ : ((Vec Str) × (Vec (Vec Str))) → Prop) : Prop := (let kinds_1 : (List (Str × (List Str))) := ([(("nx" : Str), ([("xx" : Str)] : (List Str))), (("nsx" : Str), ([("sx" : Str), ("xx" : Str)] : (List Str))), (("nijsx" : Str), ([("ix" : Str), ("js" : Str), ("jx" : Str), ("sx" : Str), ("xx" : Str)] : (List Str)))] : (List (Str × (List Str)))); ((kinds_1.length < sizeLine) ∧ (let y_3 : (Str × (List Str)) := (("nst" : Str), ([("ss" : Str), ("st" : Str), ("tt" : Str)] : (List Str))); (((kinds_1 ++ [y_3]).length + ([(("nab" : Str), ([("aa" : Str), ("bb" : Str)] : (List Str))), (("nik" : Str), ([] : (List Str)))] : (List (Str × (List Str)))).length ≤ sizeLine) ∧ (w__law_of ((kinds_1 ++ [y_3]) ++ ([(("nab" : Str), ([("aa" : Str), ("bb" : Str)] : (List Str))), (("nik" : Str), ([] : (List Str)))] : (List (Str × (List Str))))) (fun r_5 : (Str × (List Str)) => (let names_pairs_6 : (Str × (List Str)) := r_5; ((2 : Int) < 1073741824 ∧ ∀ v_8 : Int, 0 ≤ v_8 → v_8 < max1 (2 : Int) → ((eqOk v_8 (0 : Int)) ∧ (((eqT v_8 (0 : Int)) = true → ((5 : Int) < 1073741824 ∧ ∀ v_9 : Int, 0 ≤ v_9 → v_9 < max1 (5 : Int) → ((("nabcde" : Str).length ≤ sizeLine) ∧ (let names_10 : Str := (L2.cutS ("nabcde" : Str) none (some ((2 : Int) + v_9))); (let pairs_11 : (List Str) := ([] : (List Str)); (((names_10.length ≤ sizeLine) ∧ ((L2.cutS names_10 (some (1 : Int)) none).cps.size ≤ sizeLine)) ∧ (forT (fun (x_19 : (Int × Str)) (s_20 : (List Str)) (k_21 : (List Str) → Prop) => (((names_10.length ≤ sizeLine) ∧ ((L2.cutS names_10 (some (x_19.1 + (1 : Int))) none).cps.size ≤ sizeLine)) ∧ (goW (fun (x_25 : Str) (k_26 : Option Str → Prop) => ((2 : Int) < 1073741824 ∧ ∀ v_29 : Int, 0 ≤ v_29 → v_29 < max1 (2 : Int) → ((eqOk v_29 (0 : Int)) ∧ (((eqT v_29 (0 : Int)) = true → ((x_19.2.length + x_25.length ≤ sizeLine) ∧ k_26 (some (x_19.2 ++ x_25)))) ∧ ((eqT v_29 (0 : Int)) = false → k_26 none))))) (charsT (L2.cutS names_10 (some (x_19.1 + (1 : Int))) none)) [] (fun out_27 : List Str => ((s_20.length + out_27.length ≤ sizeLine) ∧ (let pairs_30 : (List Str) := (s_20 ++ out_27); (k_21 pairs_30))))))) (enumT (charsT (L2.cutS names_10 (some (1 : Int)) none))) pairs_11 (fun s_13 : (List Str) => (((names_10.cps.size ≤ sizeLine) ∧ (∀ x_15 ∈ s_13, (x_15.cps.size ≤ sizeLine))) ∧ (q_ ((Vec.mk (charsT names_10)), (Vec.mk (List.map (fun x_15 : Str => (Vec.mk (charsT x_15))) s_13))))))))))))) ∧ ((eqT v_8 (0 : Int)) = false → (((names_pairs_6.1.cps.size ≤ sizeLine) ∧ (∀ x_33 ∈ names_pairs_6.2, (x_33.cps.size ≤ sizeLine))) ∧ (q_ ((Vec.mk (charsT names_pairs_6.1)), (Vec.mk (List.map (fun x_33 : Str => (Vec.mk (charsT x_33))) names_pairs_6.2))))))))))))))))
theorem okw__law_drawn (n_ : Nat)  : OkW Lw.C__law_drawn [.src n_] (w__law_drawn ) := ⟨fun q_ h q hq_ => by
  show Lw.r__law_drawn (stE Lw.N__law_drawn [.src n_]) { nx := fun _ => q (.d .none), rt := q }
  unfold w__law_drawn at h
  unfold Lw.r__law_drawn
  exact seqOL (k := (fun kinds_1 : (List (Str × (List Str))) => ((kinds_1.length < sizeLine) ∧ (let y_3 : (Str × (List Str)) := (("nst" : Str), ([("ss" : Str), ("st" : Str), ("tt" : Str)] : (List Str))); (((kinds_1 ++ [y_3]).length + ([(("nab" : Str), ([("aa" : Str), ("bb" : Str)] : (List Str))), (("nik" : Str), ([] : (List Str)))] : (List (Str × (List Str)))).length ≤ sizeLine) ∧ (w__law_of ((kinds_1 ++ [y_3]) ++ ([(("nab" : Str), ([("aa" : Str), ("bb" : Str)] : (List Str))), (("nik" : Str), ([] : (List Str)))] : (List (Str × (List Str))))) (fun r_5 : (Str × (List Str)) => (let names_pairs_6 : (Str × (List Str)) := r_5; ((2 : Int) < 1073741824 ∧ ∀ v_8 : Int, 0 ≤ v_8 → v_8 < max1 (2 : Int) → ((eqOk v_8 (0 : Int)) ∧ (((eqT v_8 (0 : Int)) = true → ((5 : Int) < 1073741824 ∧ ∀ v_9 : Int, 0 ≤ v_9 → v_9 < max1 (5 : Int) → ((("nabcde" : Str).length ≤ sizeLine) ∧ (let names_10 : Str := (L2.cutS ("nabcde" : Str) none (some ((2 : Int) + v_9))); (let pairs_11 : (List Str) := ([] : (List Str)); (((names_10.length ≤ sizeLine) ∧ ((L2.cutS names_10 (some (1 : Int)) none).cps.size ≤ sizeLine)) ∧ (forT (fun (x_19 : (Int × Str)) (s_20 : (List Str)) (k_21 : (List Str) → Prop) => (((names_10.length ≤ sizeLine) ∧ ((L2.cutS names_10 (some (x_19.1 + (1 : Int))) none).cps.size ≤ sizeLine)) ∧ (goW (fun (x_25 : Str) (k_26 : Option Str → Prop) => ((2 : Int) < 1073741824 ∧ ∀ v_29 : Int, 0 ≤ v_29 → v_29 < max1 (2 : Int) → ((eqOk v_29 (0 : Int)) ∧ (((eqT v_29 (0 : Int)) = true → ((x_19.2.length + x_25.length ≤ sizeLine) ∧ k_26 (some (x_19.2 ++ x_25)))) ∧ ((eqT v_29 (0 : Int)) = false → k_26 none))))) (charsT (L2.cutS names_10 (some (x_19.1 + (1 : Int))) none)) [] (fun out_27 : List Str => ((s_20.length + out_27.length ≤ sizeLine) ∧ (let pairs_30 : (List Str) := (s_20 ++ out_27); (k_21 pairs_30))))))) (enumT (charsT (L2.cutS names_10 (some (1 : Int)) none))) pairs_11 (fun s_13 : (List Str) => (((names_10.cps.size ≤ sizeLine) ∧ (∀ x_15 ∈ s_13, (x_15.cps.size ≤ sizeLine))) ∧ (q_ ((Vec.mk (charsT names_10)), (Vec.mk (List.map (fun x_15 : Str => (Vec.mk (charsT x_15))) s_13))))))))))))) ∧ ((eqT v_8 (0 : Int)) = false → (((names_pairs_6.1.cps.size ≤ sizeLine) ∧ (∀ x_33 ∈ names_pairs_6.2, (x_33.cps.size ≤ sizeLine))) ∧ (q_ ((Vec.mk (charsT names_pairs_6.1)), (Vec.mk (List.map (fun x_33 : Str => (Vec.mk (charsT x_33))) names_pairs_6.2))))))))))))))))) (wE' (a := (([(("nx" : Str), ([("xx" : Str)] : (List Str))), (("nsx" : Str), ([("sx" : Str), ("xx" : Str)] : (List Str))), (("nijsx" : Str), ([("ix" : Str), ("js" : Str), ("jx" : Str), ("sx" : Str), ("xx" : Str)] : (List Str)))] : (List (Str × (List Str)))) : (List (Str × (List Str))))) (oLst (aC (oTup (aC (oC) (aC (oLst (aC (oC) (aN)) (by show 1 ≤ sizeLine; decide)) (aN))) (by show 2 ≤ sizeLine; decide)) (aC (oTup (aC (oC) (aC (oLst (aC (oC) (aC (oC) (aN))) (by show 2 ≤ sizeLine; decide)) (aN))) (by show 2 ≤ sizeLine; decide)) (aC (oTup (aC (oC) (aC (oLst (aC (oC) (aC (oC) (aC (oC) (aC (oC) (aC (oC) (aN)))))) (by show 5 ≤ sizeLine; decide)) (aN))) (by show 2 ≤ sizeLine; decide)) (aN)))) (by show 3 ≤ sizeLine; decide))) h (fun kinds_1 h_2 => seqApp (xs := kinds_1) (k := (fun y_3 : (Str × (List Str)) => (((kinds_1 ++ [y_3]).length + ([(("nab" : Str), ([("aa" : Str), ("bb" : Str)] : (List Str))), (("nik" : Str), ([] : (List Str)))] : (List (Str × (List Str)))).length ≤ sizeLine) ∧ (w__law_of ((kinds_1 ++ [y_3]) ++ ([(("nab" : Str), ([("aa" : Str), ("bb" : Str)] : (List Str))), (("nik" : Str), ([] : (List Str)))] : (List (Str × (List Str))))) (fun r_5 : (Str × (List Str)) => (let names_pairs_6 : (Str × (List Str)) := r_5; ((2 : Int) < 1073741824 ∧ ∀ v_8 : Int, 0 ≤ v_8 → v_8 < max1 (2 : Int) → ((eqOk v_8 (0 : Int)) ∧ (((eqT v_8 (0 : Int)) = true → ((5 : Int) < 1073741824 ∧ ∀ v_9 : Int, 0 ≤ v_9 → v_9 < max1 (5 : Int) → ((("nabcde" : Str).length ≤ sizeLine) ∧ (let names_10 : Str := (L2.cutS ("nabcde" : Str) none (some ((2 : Int) + v_9))); (let pairs_11 : (List Str) := ([] : (List Str)); (((names_10.length ≤ sizeLine) ∧ ((L2.cutS names_10 (some (1 : Int)) none).cps.size ≤ sizeLine)) ∧ (forT (fun (x_19 : (Int × Str)) (s_20 : (List Str)) (k_21 : (List Str) → Prop) => (((names_10.length ≤ sizeLine) ∧ ((L2.cutS names_10 (some (x_19.1 + (1 : Int))) none).cps.size ≤ sizeLine)) ∧ (goW (fun (x_25 : Str) (k_26 : Option Str → Prop) => ((2 : Int) < 1073741824 ∧ ∀ v_29 : Int, 0 ≤ v_29 → v_29 < max1 (2 : Int) → ((eqOk v_29 (0 : Int)) ∧ (((eqT v_29 (0 : Int)) = true → ((x_19.2.length + x_25.length ≤ sizeLine) ∧ k_26 (some (x_19.2 ++ x_25)))) ∧ ((eqT v_29 (0 : Int)) = false → k_26 none))))) (charsT (L2.cutS names_10 (some (x_19.1 + (1 : Int))) none)) [] (fun out_27 : List Str => ((s_20.length + out_27.length ≤ sizeLine) ∧ (let pairs_30 : (List Str) := (s_20 ++ out_27); (k_21 pairs_30))))))) (enumT (charsT (L2.cutS names_10 (some (1 : Int)) none))) pairs_11 (fun s_13 : (List Str) => (((names_10.cps.size ≤ sizeLine) ∧ (∀ x_15 ∈ s_13, (x_15.cps.size ≤ sizeLine))) ∧ (q_ ((Vec.mk (charsT names_10)), (Vec.mk (List.map (fun x_15 : Str => (Vec.mk (charsT x_15))) s_13))))))))))))) ∧ ((eqT v_8 (0 : Int)) = false → (((names_pairs_6.1.cps.size ≤ sizeLine) ∧ (∀ x_33 ∈ names_pairs_6.2, (x_33.cps.size ≤ sizeLine))) ∧ (q_ ((Vec.mk (charsT names_pairs_6.1)), (Vec.mk (List.map (fun x_33 : Str => (Vec.mk (charsT x_33))) names_pairs_6.2))))))))))))))) rfl (wE' (a := ((("nst" : Str), ([("ss" : Str), ("st" : Str), ("tt" : Str)] : (List Str))) : (Str × (List Str)))) (oTup (aC (oC) (aC (oLst (aC (oC) (aC (oC) (aC (oC) (aN)))) (by show 3 ≤ sizeLine; decide)) (aN))) (by show 2 ≤ sizeLine; decide))) h_2.2 h_2.1 (fun y_3 h_4 => wSeqG (k := (fun names_pairs_6 : (Str × (List Str)) => ((2 : Int) < 1073741824 ∧ ∀ v_8 : Int, 0 ≤ v_8 → v_8 < max1 (2 : Int) → ((eqOk v_8 (0 : Int)) ∧ (((eqT v_8 (0 : Int)) = true → ((5 : Int) < 1073741824 ∧ ∀ v_9 : Int, 0 ≤ v_9 → v_9 < max1 (5 : Int) → ((("nabcde" : Str).length ≤ sizeLine) ∧ (let names_10 : Str := (L2.cutS ("nabcde" : Str) none (some ((2 : Int) + v_9))); (let pairs_11 : (List Str) := ([] : (List Str)); (((names_10.length ≤ sizeLine) ∧ ((L2.cutS names_10 (some (1 : Int)) none).cps.size ≤ sizeLine)) ∧ (forT (fun (x_19 : (Int × Str)) (s_20 : (List Str)) (k_21 : (List Str) → Prop) => (((names_10.length ≤ sizeLine) ∧ ((L2.cutS names_10 (some (x_19.1 + (1 : Int))) none).cps.size ≤ sizeLine)) ∧ (goW (fun (x_25 : Str) (k_26 : Option Str → Prop) => ((2 : Int) < 1073741824 ∧ ∀ v_29 : Int, 0 ≤ v_29 → v_29 < max1 (2 : Int) → ((eqOk v_29 (0 : Int)) ∧ (((eqT v_29 (0 : Int)) = true → ((x_19.2.length + x_25.length ≤ sizeLine) ∧ k_26 (some (x_19.2 ++ x_25)))) ∧ ((eqT v_29 (0 : Int)) = false → k_26 none))))) (charsT (L2.cutS names_10 (some (x_19.1 + (1 : Int))) none)) [] (fun out_27 : List Str => ((s_20.length + out_27.length ≤ sizeLine) ∧ (let pairs_30 : (List Str) := (s_20 ++ out_27); (k_21 pairs_30))))))) (enumT (charsT (L2.cutS names_10 (some (1 : Int)) none))) pairs_11 (fun s_13 : (List Str) => (((names_10.cps.size ≤ sizeLine) ∧ (∀ x_15 ∈ s_13, (x_15.cps.size ≤ sizeLine))) ∧ (q_ ((Vec.mk (charsT names_10)), (Vec.mk (List.map (fun x_15 : Str => (Vec.mk (charsT x_15))) s_13))))))))))))) ∧ ((eqT v_8 (0 : Int)) = false → (((names_pairs_6.1.cps.size ≤ sizeLine) ∧ (∀ x_33 ∈ names_pairs_6.2, (x_33.cps.size ≤ sizeLine))) ∧ (q_ ((Vec.mk (charsT names_pairs_6.1)), (Vec.mk (List.map (fun x_33 : Str => (Vec.mk (charsT x_33))) names_pairs_6.2))))))))))) (wCs1 rfl (wE (a := (((kinds_1 ++ [y_3]) ++ ([(("nab" : Str), ([("aa" : Str), ("bb" : Str)] : (List Str))), (("nik" : Str), ([] : (List Str)))] : (List (Str × (List Str))))) : (List (Str × (List Str))))) (P := ((kinds_1 ++ [y_3]).length + ([(("nab" : Str), ([("aa" : Str), ("bb" : Str)] : (List Str))), (("nik" : Str), ([] : (List Str)))] : (List (Str × (List Str)))).length ≤ sizeLine)) (fun h_ => oAddL (oO rfl) (oLst (aC (oTup (aC (oC) (aC (oLst (aC (oC) (aC (oC) (aN))) (by show 2 ≤ sizeLine; decide)) (aN))) (by show 2 ≤ sizeLine; decide)) (aC (oTup (aC (oC) (aC (oLst (aN) (by show 0 ≤ sizeLine; decide)) (aN))) (by show 2 ≤ sizeLine; decide)) (aN))) (by show 2 ≤ sizeLine; decide)) h_)) (fun b0_ => okw__law_of n_ b0_)) h_4 (fun names_pairs_6 h_7 => ⟨_, gTup (vs := [_, _]) (gCons (gNm) (gCons (gNm) (gNil))) rfl, wSeqI (k := (fun b_37 : Bool => (b_37 = true → ((5 : Int) < 1073741824 ∧ ∀ v_9 : Int, 0 ≤ v_9 → v_9 < max1 (5 : Int) → ((("nabcde" : Str).length ≤ sizeLine) ∧ (let names_10 : Str := (L2.cutS ("nabcde" : Str) none (some ((2 : Int) + v_9))); (let pairs_11 : (List Str) := ([] : (List Str)); (((names_10.length ≤ sizeLine) ∧ ((L2.cutS names_10 (some (1 : Int)) none).cps.size ≤ sizeLine)) ∧ (forT (fun (x_19 : (Int × Str)) (s_20 : (List Str)) (k_21 : (List Str) → Prop) => (((names_10.length ≤ sizeLine) ∧ ((L2.cutS names_10 (some (x_19.1 + (1 : Int))) none).cps.size ≤ sizeLine)) ∧ (goW (fun (x_25 : Str) (k_26 : Option Str → Prop) => ((2 : Int) < 1073741824 ∧ ∀ v_29 : Int, 0 ≤ v_29 → v_29 < max1 (2 : Int) → ((eqOk v_29 (0 : Int)) ∧ (((eqT v_29 (0 : Int)) = true → ((x_19.2.length + x_25.length ≤ sizeLine) ∧ k_26 (some (x_19.2 ++ x_25)))) ∧ ((eqT v_29 (0 : Int)) = false → k_26 none))))) (charsT (L2.cutS names_10 (some (x_19.1 + (1 : Int))) none)) [] (fun out_27 : List Str => ((s_20.length + out_27.length ≤ sizeLine) ∧ (let pairs_30 : (List Str) := (s_20 ++ out_27); (k_21 pairs_30))))))) (enumT (charsT (L2.cutS names_10 (some (1 : Int)) none))) pairs_11 (fun s_13 : (List Str) => (((names_10.cps.size ≤ sizeLine) ∧ (∀ x_15 ∈ s_13, (x_15.cps.size ≤ sizeLine))) ∧ (q_ ((Vec.mk (charsT names_10)), (Vec.mk (List.map (fun x_15 : Str => (Vec.mk (charsT x_15))) s_13))))))))))))) ∧ (b_37 = false → (((names_pairs_6.1.cps.size ≤ sizeLine) ∧ (∀ x_33 ∈ names_pairs_6.2, (x_33.cps.size ≤ sizeLine))) ∧ (q_ ((Vec.mk (charsT names_pairs_6.1)), (Vec.mk (List.map (fun x_33 : Str => (Vec.mk (charsT x_33))) names_pairs_6.2)))))))) (wT (wEq (wPick rfl (wE' (a := ((2 : Int) : Int)) (oC))) (wE' (a := ((0 : Int) : Int)) (oC)))) h_7 (fun h_38 => wSeq2 (k := (fun (names_10 : Str) (pairs_11 : (List Str)) => (((names_10.length ≤ sizeLine) ∧ ((L2.cutS names_10 (some (1 : Int)) none).cps.size ≤ sizeLine)) ∧ (forT (fun (x_19 : (Int × Str)) (s_20 : (List Str)) (k_21 : (List Str) → Prop) => (((names_10.length ≤ sizeLine) ∧ ((L2.cutS names_10 (some (x_19.1 + (1 : Int))) none).cps.size ≤ sizeLine)) ∧ (goW (fun (x_25 : Str) (k_26 : Option Str → Prop) => ((2 : Int) < 1073741824 ∧ ∀ v_29 : Int, 0 ≤ v_29 → v_29 < max1 (2 : Int) → ((eqOk v_29 (0 : Int)) ∧ (((eqT v_29 (0 : Int)) = true → ((x_19.2.length + x_25.length ≤ sizeLine) ∧ k_26 (some (x_19.2 ++ x_25)))) ∧ ((eqT v_29 (0 : Int)) = false → k_26 none))))) (charsT (L2.cutS names_10 (some (x_19.1 + (1 : Int))) none)) [] (fun out_27 : List Str => ((s_20.length + out_27.length ≤ sizeLine) ∧ (let pairs_30 : (List Str) := (s_20 ++ out_27); (k_21 pairs_30))))))) (enumT (charsT (L2.cutS names_10 (some (1 : Int)) none))) pairs_11 (fun s_13 : (List Str) => (((names_10.cps.size ≤ sizeLine) ∧ (∀ x_15 ∈ s_13, (x_15.cps.size ≤ sizeLine))) ∧ (q_ ((Vec.mk (charsT names_10)), (Vec.mk (List.map (fun x_15 : Str => (Vec.mk (charsT x_15))) s_13)))))))))) (wCutS (wE' (a := (("nabcde" : Str) : Str)) (oC)) (wSN) (wSP (wAddI (wE' (a := ((2 : Int) : Int)) (oC)) (wPick rfl (wE' (a := ((5 : Int) : Int)) (oC)))))) (wE' (a := (([] : (List Str)) : (List Str))) (oLst (aN) (by show 0 ≤ sizeLine; decide))) (h_38.1 rfl) (fun names_10 pairs_11 h_32 => endFor (step := (fun (x_19 : (Int × Str)) (s_20 : (List Str)) (k_21 : (List Str) → Prop) => (((names_10.length ≤ sizeLine) ∧ ((L2.cutS names_10 (some (x_19.1 + (1 : Int))) none).cps.size ≤ sizeLine)) ∧ (goW (fun (x_25 : Str) (k_26 : Option Str → Prop) => ((2 : Int) < 1073741824 ∧ ∀ v_29 : Int, 0 ≤ v_29 → v_29 < max1 (2 : Int) → ((eqOk v_29 (0 : Int)) ∧ (((eqT v_29 (0 : Int)) = true → ((x_19.2.length + x_25.length ≤ sizeLine) ∧ k_26 (some (x_19.2 ++ x_25)))) ∧ ((eqT v_29 (0 : Int)) = false → k_26 none))))) (charsT (L2.cutS names_10 (some (x_19.1 + (1 : Int))) none)) [] (fun out_27 : List Str => ((s_20.length + out_27.length ≤ sizeLine) ∧ (let pairs_30 : (List Str) := (s_20 ++ out_27); (k_21 pairs_30)))))))) (fun s_12 : (List Str) => [.val (.src n_), .own (enc (kinds_1 ++ [y_3])), .val (.d (enc names_10)), .val (.d (enc s_12)), .emp, .emp, .emp, .emp]) pairs_11 (fun s_13 : (List Str) => (((names_10.cps.size ≤ sizeLine) ∧ (∀ x_15 ∈ s_13, (x_15.cps.size ≤ sizeLine))) ∧ (q_ ((Vec.mk (charsT names_10)), (Vec.mk (List.map (fun x_15 : Str => (Vec.mk (charsT x_15))) s_13)))))) (wIp (xs := (enumT (charsT (L2.cutS names_10 (some (1 : Int)) none)))) (P := ((names_10.length ≤ sizeLine) ∧ ((L2.cutS names_10 (some (1 : Int)) none).cps.size ≤ sizeLine))) (fun h_ => iES (oCutS (oV rfl) (sP (oC)) (sN) h_.1) h_.2)) rfl h_32 (fun s_13 h_14 => wEndR (k := q_) (wE (a := (((Vec.mk (charsT names_10)), (Vec.mk (List.map (fun x_15 : Str => (Vec.mk (charsT x_15))) s_13))) : ((Vec Str) × (Vec (Vec Str))))) (P := ((names_10.cps.size ≤ sizeLine) ∧ (∀ x_15 ∈ s_13, (x_15.cps.size ≤ sizeLine)))) (fun h_ => oTup (aC (bTupS (oV rfl) h_.1) (aC (bTupL (oCompA (α := Str) (g := fun x_15 => (Vec.mk (charsT x_15))) (iL (oV rfl)) rfl (fun x_15 hx_16 => ⟨_, gNm, rfl, bTupS (oV rfl) (h_.2 x_15 hx_16)⟩))) (aN))) (by show 2 ≤ sizeLine; decide))) h_14 hq_) (fun x_19 s_20 k_21 h_22 kk_23 hk_24 => OkG.ok (gTup (vs := [_, _]) (gCons (gNm) (gCons (gNm) (gNil))) rfl) _ (wEndN (k := (fun pairs_30 : (List Str) => (k_21 pairs_30))) (wAddL (wE' (a := (s_20 : (List Str))) (oV rfl)) (wComp (S := (fun (x_25 : Str) (k_26 : Option Str → Prop) => ((2 : Int) < 1073741824 ∧ ∀ v_29 : Int, 0 ≤ v_29 → v_29 < max1 (2 : Int) → ((eqOk v_29 (0 : Int)) ∧ (((eqT v_29 (0 : Int)) = true → ((x_19.2.length + x_25.length ≤ sizeLine) ∧ k_26 (some (x_19.2 ++ x_25)))) ∧ ((eqT v_29 (0 : Int)) = false → k_26 none)))))) (wIp (xs := (charsT (L2.cutS names_10 (some (x_19.1 + (1 : Int))) none))) (P := ((names_10.length ≤ sizeLine) ∧ ((L2.cutS names_10 (some (x_19.1 + (1 : Int))) none).cps.size ≤ sizeLine))) (fun h_ => iS (oCutS (oV rfl) (sP (oAddI (oV rfl) (oC))) (sN) h_.1) h_.2)) rfl (fun x_25 k_26 hx_28 => ⟨_, gNm, rfl, ⟨_, _, wT (wEq (wPick rfl (wE' (a := ((2 : Int) : Int)) (oC))) (wE' (a := ((0 : Int) : Int)) (oC))), wE (a := ((x_19.2 ++ x_25) : Str)) (P := (x_19.2.length + x_25.length ≤ sizeLine)) (fun h_ => oAddS (oV rfl) (oV rfl) h_), hx_28⟩⟩))) h_22 (fun pairs_30 h_31 => (hk_24 _ h_31)))))) (fun h_38 => wEndR (k := q_) (wE (a := (((Vec.mk (charsT names_pairs_6.1)), (Vec.mk (List.map (fun x_33 : Str => (Vec.mk (charsT x_33))) names_pairs_6.2))) : ((Vec Str) × (Vec (Vec Str))))) (P := ((names_pairs_6.1.cps.size ≤ sizeLine) ∧ (∀ x_33 ∈ names_pairs_6.2, (x_33.cps.size ≤ sizeLine)))) (fun h_ => oTup (aC (bTupS (oV rfl) h_.1) (aC (bTupL (oCompA (α := Str) (g := fun x_33 => (Vec.mk (charsT x_33))) (iL (oV rfl)) rfl (fun x_33 hx_34 => ⟨_, gNm, rfl, bTupS (oV rfl) (h_.2 x_33 hx_34)⟩))) (aN))) (by show 2 ≤ sizeLine; decide))) (h_38.2 rfl) hq_)⟩)))⟩
def w_law  (q_ : Bool → Prop) : Prop := (w__law_drawn (fun r_2 : ((Vec Str) × (Vec (Vec Str))) => (let names_pairs_3 : ((Vec Str) × (Vec (Vec Str))) := r_2; (((p_modes_told names_pairs_3.1 names_pairs_3.2) ∧ (-(2 ^ 62) ≤ (names_pairs_3.1.l.length : Int) ∧ (names_pairs_3.1.l.length : Int) ≤ 16777216)) ∧ (let modes_every_5 : (((Vec Str) × (Vec (Vec Int))) × (List Int)) := ((t_modes_told names_pairs_3.1 names_pairs_3.2), (rangeT 0 (names_pairs_3.1.l.length : Int))); ((∀ x_7 ∈ names_pairs_3.1.l, (p__law_free names_pairs_3.1 names_pairs_3.2 x_7)) ∧ (let free_10 : (List (List Int)) := (List.map (fun x_7 : Str => (t__law_free names_pairs_3.1 names_pairs_3.2 x_7)) names_pairs_3.1.l); ((∀ x_12 ∈ modes_every_5.2, (∀ x_15 ∈ modes_every_5.2, (((L2.atI free_10 x_15).isSome = true) ∧ (∀ x_18 ∈ (ixT free_10 x_15), ((L2.atI free_10 x_12).isSome = true))))) ∧ (let lower_21 : (List (List Bool)) := (List.map (fun x_12 : Int => (List.map (fun x_15 : Int => (eqT (List.map (fun x_18 : Int => x_18) (List.filter (fun x_18 => (!inT x_18 (ixT free_10 x_12))) (ixT free_10 x_15))) ([] : (List Int)))) modes_every_5.2)) modes_every_5.2); (let dues_23 : (List (Option Int)) := ([] : (List (Option Int))); (True ∧ (forT (fun (x_71 : Int) (s_72 : (List (Option Int))) (k_73 : (List (Option Int)) → Prop) => (let some_77 : (List Int) := ([] : (List Int)); (True ∧ (forT (fun (x_108 : Int) (s_109 : (List Int)) (k_110 : (List Int) → Prop) => ((((L2.atI free_10 x_71).isSome = true) ∧ ((inT x_108 (ixT free_10 x_71)) = true → (∀ x_114 ∈ modes_every_5.2, ((((L2.atI lower_21 x_114).isSome = true) ∧ ((L2.atI (ixT lower_21 x_114) x_71).isSome = true)) ∧ ((!(ixT (ixT lower_21 x_114) x_71)) = true → ((L2.atI free_10 x_108).isSome = true)))))) ∧ (let due_119 : Bool := ((inT x_108 (ixT free_10 x_71)) && (eqT (List.map (fun x_114 : Int => x_114) (List.filter (fun x_114 => ((!(ixT (ixT lower_21 x_114) x_71)) && (inT x_114 (ixT free_10 x_108)))) modes_every_5.2)) ([] : (List Int)))); ((p_is_partner modes_every_5.1 x_71 x_108) ∧ (((!eqT (t_is_partner modes_every_5.1 x_71 x_108) due_119) = true → (q_ false)) ∧ ((!eqT (t_is_partner modes_every_5.1 x_71 x_108) due_119) = false → ((due_119 = true → (((L2.atI free_10 x_108).isSome = true) ∧ (∀ x_122 ∈ modes_every_5.2, (((L2.atI lower_21 x_122).isSome = true) ∧ ((L2.atI (ixT lower_21 x_122) x_71).isSome = true))))) ∧ (((due_119 && (!eqT (ixT free_10 x_108) (List.map (fun x_122 : Int => x_122) (List.filter (fun x_122 => (ixT (ixT lower_21 x_122) x_71)) modes_every_5.2)))) = true → (q_ false)) ∧ ((due_119 && (!eqT (ixT free_10 x_108) (List.map (fun x_122 : Int => x_122) (List.filter (fun x_122 => (ixT (ixT lower_21 x_122) x_71)) modes_every_5.2)))) = false → ((due_119 = true → (s_109.length + ([x_108] : (List Int)).length ≤ sizeLine)) ∧ (let some_128 : (List Int) := (if due_119 = true then (s_109 ++ ([x_108] : (List Int))) else s_109); (k_110 some_128)))))))))))) modes_every_5.2 some_77 (fun s_80 : (List Int) => ((∀ x_82 ∈ s_80, (((L2.atI s_80 (0 : Int)).isSome = true) ∧ (p_are_like modes_every_5.1 (ixT s_80 (0 : Int)) x_82))) ∧ (((!eqT (List.map (fun x_82 : Int => x_82) (List.filter (fun x_82 => (!(t_are_like modes_every_5.1 (ixT s_80 (0 : Int)) x_82))) s_80)) ([] : (List Int))) = true → (q_ false)) ∧ ((!eqT (List.map (fun x_82 : Int => x_82) (List.filter (fun x_82 => (!(t_are_like modes_every_5.1 (ixT s_80 (0 : Int)) x_82))) s_80)) ([] : (List Int))) = false → (((p_partner_of modes_every_5.1 x_71) ∧ ((!eqT s_80 ([] : (List Int))) = true → ((L2.atI s_80 (0 : Int)).isSome = true))) ∧ (((!eqT (t_partner_of modes_every_5.1 x_71) (if (!eqT s_80 ([] : (List Int))) = true then (some (ixT s_80 (0 : Int))) else (none : (Option Int)))) = true → (q_ false)) ∧ ((!eqT (t_partner_of modes_every_5.1 x_71) (if (!eqT s_80 ([] : (List Int))) = true then (some (ixT s_80 (0 : Int))) else (none : (Option Int)))) = false → ((s_72.length < sizeLine) ∧ (((!eqT s_80 ([] : (List Int))) = true → ((L2.atI s_80 (0 : Int)).isSome = true)) ∧ (let y_89 : (Option Int) := (if (!eqT s_80 ([] : (List Int))) = true then (some (ixT s_80 (0 : Int))) else (none : (Option Int))); (True ∧ (forT (fun (x_94 : Int) (s_95 : Unit) (k_96 : Unit → Prop) => ((((L2.atI free_10 x_71).isSome = true) ∧ ((!eqT (t_is_clashing modes_every_5.1 x_71 x_94) (!inT x_94 (ixT free_10 x_71))) = false → ((p_is_weaker modes_every_5.1 x_71 x_94) ∧ (((L2.atI lower_21 x_71).isSome = true) ∧ ((L2.atI (ixT lower_21 x_71) x_94).isSome = true))))) ∧ ((((!eqT (t_is_clashing modes_every_5.1 x_71 x_94) (!inT x_94 (ixT free_10 x_71))) || (!eqT (t_is_weaker modes_every_5.1 x_71 x_94) (ixT (ixT lower_21 x_71) x_94))) = true → (q_ false)) ∧ (((!eqT (t_is_clashing modes_every_5.1 x_71 x_94) (!inT x_94 (ixT free_10 x_71))) || (!eqT (t_is_weaker modes_every_5.1 x_71 x_94) (ixT (ixT lower_21 x_71) x_94))) = false → (k_96 ()))))) modes_every_5.2 () (fun s_92 : Unit => (k_73 (s_72 ++ [y_89]))))))))))))))))))) modes_every_5.2 dues_23 (fun s_26 : (List (Option Int)) => (((!inT (none : (Option Int)) s_26) = false → ((idxT s_26 (none : (Option Int))).isSome = true)) ∧ (let due_29 : (Str × PyData) := (if (!inT (none : (Option Int)) s_26) = true then (("partners" : Str), (enc (Vec.mk s_26))) else (("none" : Str), (enc (((idxT s_26 (none : (Option Int))).getD 0 : Nat) : Int)))); ((((p_partners_told modes_every_5.1) ∧ (eqOk (t_partners_told modes_every_5.1) due_29)) ∧ ((!eqT (t_partners_told modes_every_5.1) due_29) = false → (p_have_partners modes_every_5.1))) ∧ ((((!eqT (t_partners_told modes_every_5.1) due_29) || (!eqT (t_have_partners modes_every_5.1) (!inT (none : (Option Int)) s_26))) = true → (q_ false)) ∧ (((!eqT (t_partners_told modes_every_5.1) due_29) || (!eqT (t_have_partners modes_every_5.1) (!inT (none : (Option Int)) s_26))) = false → (True ∧ (forT (fun (x_46 : Int) (s_47 : Unit) (k_48 : Unit → Prop) => (True ∧ (forT (fun (x_55 : Int) (s_56 : Unit) (k_57 : Unit → Prop) => (((((L2.atI s_26 x_46).isSome = true) ∧ ((L2.atI s_26 x_55).isSome = true)) ∧ ((!inT (none : (Option Int)) (Vec.mk [(ixT s_26 x_46), (ixT s_26 x_55)] : (Vec (Option Int))).l) = true → ((((L2.atI lower_21 x_46).isSome = true) ∧ ((L2.atI (ixT lower_21 x_46) x_55).isSome = true)) ∧ (((((L2.atI s_26 x_55).isSome = true) ∧ (((ixT s_26 x_55)).isSome = true)) ∧ ((L2.atI lower_21 (Option.getD (ixT s_26 x_55) default)).isSome = true)) ∧ (((L2.atI s_26 x_46).isSome = true) ∧ (((ixT s_26 x_46)).isSome = true)) ∧ ((L2.atI (ixT lower_21 (Option.getD (ixT s_26 x_55) default)) (Option.getD (ixT s_26 x_46) default)).isSome = true))))) ∧ ((((!inT (none : (Option Int)) (Vec.mk [(ixT s_26 x_46), (ixT s_26 x_55)] : (Vec (Option Int))).l) && (!eqT (ixT (ixT lower_21 x_46) x_55) (ixT (ixT lower_21 (Option.getD (ixT s_26 x_55) default)) (Option.getD (ixT s_26 x_46) default)))) = true → (q_ false)) ∧ (((!inT (none : (Option Int)) (Vec.mk [(ixT s_26 x_46), (ixT s_26 x_55)] : (Vec (Option Int))).l) && (!eqT (ixT (ixT lower_21 x_46) x_55) (ixT (ixT lower_21 (Option.getD (ixT s_26 x_55) default)) (Option.getD (ixT s_26 x_46) default)))) = false → (((!inT (none : (Option Int)) s_26) = true → ((((L2.atI lower_21 x_46).isSome = true) ∧ ((L2.atI (ixT lower_21 x_46) x_55).isSome = true)) ∧ (((L2.atI s_26 x_55).isSome = true) ∧ ((L2.atI free_10 x_46).isSome = true)))) ∧ ((((!inT (none : (Option Int)) s_26) && (!eqT (ixT (ixT lower_21 x_46) x_55) (inT (ixT s_26 x_55) (List.map (fun y_ : Int => (some y_)) (ixT free_10 x_46))))) = true → (q_ false)) ∧ (((!inT (none : (Option Int)) s_26) && (!eqT (ixT (ixT lower_21 x_46) x_55) (inT (ixT s_26 x_55) (List.map (fun y_ : Int => (some y_)) (ixT free_10 x_46))))) = false → (k_57 ())))))))) modes_every_5.2 () (fun s_53 : Unit => (k_48 ()))))) modes_every_5.2 () (fun s_34 : Unit => (let told_36 : (List ((Vec Str) × (Vec (Str × Str)))) := ([((Vec.mk [("n" : Str), ("x" : Str)] : (Vec Str)), (Vec.mk [(("x" : Str), ("x" : Str))] : (Vec (Str × Str)))), ((Vec.mk [("n" : Str), ("s" : Str), ("x" : Str)] : (Vec Str)), (Vec.mk [(("s" : Str), ("x" : Str)), (("x" : Str), ("x" : Str))] : (Vec (Str × Str))))] : (List ((Vec Str) × (Vec (Str × Str))))); ((told_36.length + ([((Vec.mk [("n" : Str), ("a" : Str), ("b" : Str)] : (Vec Str)), (Vec.mk [(("a" : Str), ("a" : Str)), (("b" : Str), ("b" : Str))] : (Vec (Str × Str)))), ((Vec.mk [("n" : Str), ("i" : Str)] : (Vec Str)), (Vec.mk [] : (Vec (Str × Str)))), ((Vec.mk [("n" : Str), ("s" : Str), ("t" : Str)] : (Vec Str)), (Vec.mk [(("s" : Str), ("s" : Str))] : (Vec (Str × Str))))] : (List ((Vec Str) × (Vec (Str × Str))))).length ≤ sizeLine) ∧ (let told_38 : (List ((Vec Str) × (Vec (Str × Str)))) := (told_36 ++ ([((Vec.mk [("n" : Str), ("a" : Str), ("b" : Str)] : (Vec Str)), (Vec.mk [(("a" : Str), ("a" : Str)), (("b" : Str), ("b" : Str))] : (Vec (Str × Str)))), ((Vec.mk [("n" : Str), ("i" : Str)] : (Vec Str)), (Vec.mk [] : (Vec (Str × Str)))), ((Vec.mk [("n" : Str), ("s" : Str), ("t" : Str)] : (Vec Str)), (Vec.mk [(("s" : Str), ("s" : Str))] : (Vec (Str × Str))))] : (List ((Vec Str) × (Vec (Str × Str)))))); (let due_40 : (List (Str × PyData)) := ([(("partners" : Str), (enc ((1 : Int), (0 : Int)))), (("partners" : Str), (enc (T3.mk (2 : Int) (1 : Int) (0 : Int)))), (("none" : Str), (enc (0 : Int))), (("partners" : Str), (enc ((0 : Int), (0 : Int)))), (("partners" : Str), (enc (T3.mk (1 : Int) (0 : Int) (1 : Int))))] : (List (Str × PyData))); (((∀ x_42 ∈ told_38, ((p_modes_told x_42.1 (Vec.mk (List.map (fun y_ : (Str × Str) => (Vec.mk [y_.1, y_.2] : (Vec Str))) x_42.2.l))) ∧ (p_partners_told (t_modes_told x_42.1 (Vec.mk (List.map (fun y_ : (Str × Str) => (Vec.mk [y_.1, y_.2] : (Vec Str))) x_42.2.l)))))) ∧ (eqOk (List.map (fun x_42 : ((Vec Str) × (Vec (Str × Str))) => (t_partners_told (t_modes_told x_42.1 (Vec.mk (List.map (fun y_ : (Str × Str) => (Vec.mk [y_.1, y_.2] : (Vec Str))) x_42.2.l))))) told_38) due_40)) ∧ (q_ (eqT (List.map (fun x_42 : ((Vec Str) × (Vec (Str × Str))) => (t_partners_told (t_modes_told x_42.1 (Vec.mk (List.map (fun y_ : (Str × Str) => (Vec.mk [y_.1, y_.2] : (Vec Str))) x_42.2.l))))) told_38) due_40))))))))))))))))))))))))))))
theorem okw_law  : OkW Lw.C_law [.scr] (w_law ) := ⟨fun q_ h q hq_ => by
  show Lw.r_law (stE Lw.N_law [.scr]) { nx := fun _ => q (.d .none), rt := q }
  unfold w_law at h
  unfold Lw.r_law
  exact seqSrc rfl (fun n_1 => wSeqG (k := (fun names_pairs_3 : ((Vec Str) × (Vec (Vec Str))) => (((p_modes_told names_pairs_3.1 names_pairs_3.2) ∧ (-(2 ^ 62) ≤ (names_pairs_3.1.l.length : Int) ∧ (names_pairs_3.1.l.length : Int) ≤ 16777216)) ∧ (let modes_every_5 : (((Vec Str) × (Vec (Vec Int))) × (List Int)) := ((t_modes_told names_pairs_3.1 names_pairs_3.2), (rangeT 0 (names_pairs_3.1.l.length : Int))); ((∀ x_7 ∈ names_pairs_3.1.l, (p__law_free names_pairs_3.1 names_pairs_3.2 x_7)) ∧ (let free_10 : (List (List Int)) := (List.map (fun x_7 : Str => (t__law_free names_pairs_3.1 names_pairs_3.2 x_7)) names_pairs_3.1.l); ((∀ x_12 ∈ modes_every_5.2, (∀ x_15 ∈ modes_every_5.2, (((L2.atI free_10 x_15).isSome = true) ∧ (∀ x_18 ∈ (ixT free_10 x_15), ((L2.atI free_10 x_12).isSome = true))))) ∧ (let lower_21 : (List (List Bool)) := (List.map (fun x_12 : Int => (List.map (fun x_15 : Int => (eqT (List.map (fun x_18 : Int => x_18) (List.filter (fun x_18 => (!inT x_18 (ixT free_10 x_12))) (ixT free_10 x_15))) ([] : (List Int)))) modes_every_5.2)) modes_every_5.2); (let dues_23 : (List (Option Int)) := ([] : (List (Option Int))); (True ∧ (forT (fun (x_71 : Int) (s_72 : (List (Option Int))) (k_73 : (List (Option Int)) → Prop) => (let some_77 : (List Int) := ([] : (List Int)); (True ∧ (forT (fun (x_108 : Int) (s_109 : (List Int)) (k_110 : (List Int) → Prop) => ((((L2.atI free_10 x_71).isSome = true) ∧ ((inT x_108 (ixT free_10 x_71)) = true → (∀ x_114 ∈ modes_every_5.2, ((((L2.atI lower_21 x_114).isSome = true) ∧ ((L2.atI (ixT lower_21 x_114) x_71).isSome = true)) ∧ ((!(ixT (ixT lower_21 x_114) x_71)) = true → ((L2.atI free_10 x_108).isSome = true)))))) ∧ (let due_119 : Bool := ((inT x_108 (ixT free_10 x_71)) && (eqT (List.map (fun x_114 : Int => x_114) (List.filter (fun x_114 => ((!(ixT (ixT lower_21 x_114) x_71)) && (inT x_114 (ixT free_10 x_108)))) modes_every_5.2)) ([] : (List Int)))); ((p_is_partner modes_every_5.1 x_71 x_108) ∧ (((!eqT (t_is_partner modes_every_5.1 x_71 x_108) due_119) = true → (q_ false)) ∧ ((!eqT (t_is_partner modes_every_5.1 x_71 x_108) due_119) = false → ((due_119 = true → (((L2.atI free_10 x_108).isSome = true) ∧ (∀ x_122 ∈ modes_every_5.2, (((L2.atI lower_21 x_122).isSome = true) ∧ ((L2.atI (ixT lower_21 x_122) x_71).isSome = true))))) ∧ (((due_119 && (!eqT (ixT free_10 x_108) (List.map (fun x_122 : Int => x_122) (List.filter (fun x_122 => (ixT (ixT lower_21 x_122) x_71)) modes_every_5.2)))) = true → (q_ false)) ∧ ((due_119 && (!eqT (ixT free_10 x_108) (List.map (fun x_122 : Int => x_122) (List.filter (fun x_122 => (ixT (ixT lower_21 x_122) x_71)) modes_every_5.2)))) = false → ((due_119 = true → (s_109.length + ([x_108] : (List Int)).length ≤ sizeLine)) ∧ (let some_128 : (List Int) := (if due_119 = true then (s_109 ++ ([x_108] : (List Int))) else s_109); (k_110 some_128)))))))))))) modes_every_5.2 some_77 (fun s_80 : (List Int) => ((∀ x_82 ∈ s_80, (((L2.atI s_80 (0 : Int)).isSome = true) ∧ (p_are_like modes_every_5.1 (ixT s_80 (0 : Int)) x_82))) ∧ (((!eqT (List.map (fun x_82 : Int => x_82) (List.filter (fun x_82 => (!(t_are_like modes_every_5.1 (ixT s_80 (0 : Int)) x_82))) s_80)) ([] : (List Int))) = true → (q_ false)) ∧ ((!eqT (List.map (fun x_82 : Int => x_82) (List.filter (fun x_82 => (!(t_are_like modes_every_5.1 (ixT s_80 (0 : Int)) x_82))) s_80)) ([] : (List Int))) = false → (((p_partner_of modes_every_5.1 x_71) ∧ ((!eqT s_80 ([] : (List Int))) = true → ((L2.atI s_80 (0 : Int)).isSome = true))) ∧ (((!eqT (t_partner_of modes_every_5.1 x_71) (if (!eqT s_80 ([] : (List Int))) = true then (some (ixT s_80 (0 : Int))) else (none : (Option Int)))) = true → (q_ false)) ∧ ((!eqT (t_partner_of modes_every_5.1 x_71) (if (!eqT s_80 ([] : (List Int))) = true then (some (ixT s_80 (0 : Int))) else (none : (Option Int)))) = false → ((s_72.length < sizeLine) ∧ (((!eqT s_80 ([] : (List Int))) = true → ((L2.atI s_80 (0 : Int)).isSome = true)) ∧ (let y_89 : (Option Int) := (if (!eqT s_80 ([] : (List Int))) = true then (some (ixT s_80 (0 : Int))) else (none : (Option Int))); (True ∧ (forT (fun (x_94 : Int) (s_95 : Unit) (k_96 : Unit → Prop) => ((((L2.atI free_10 x_71).isSome = true) ∧ ((!eqT (t_is_clashing modes_every_5.1 x_71 x_94) (!inT x_94 (ixT free_10 x_71))) = false → ((p_is_weaker modes_every_5.1 x_71 x_94) ∧ (((L2.atI lower_21 x_71).isSome = true) ∧ ((L2.atI (ixT lower_21 x_71) x_94).isSome = true))))) ∧ ((((!eqT (t_is_clashing modes_every_5.1 x_71 x_94) (!inT x_94 (ixT free_10 x_71))) || (!eqT (t_is_weaker modes_every_5.1 x_71 x_94) (ixT (ixT lower_21 x_71) x_94))) = true → (q_ false)) ∧ (((!eqT (t_is_clashing modes_every_5.1 x_71 x_94) (!inT x_94 (ixT free_10 x_71))) || (!eqT (t_is_weaker modes_every_5.1 x_71 x_94) (ixT (ixT lower_21 x_71) x_94))) = false → (k_96 ()))))) modes_every_5.2 () (fun s_92 : Unit => (k_73 (s_72 ++ [y_89]))))))))))))))))))) modes_every_5.2 dues_23 (fun s_26 : (List (Option Int)) => (((!inT (none : (Option Int)) s_26) = false → ((idxT s_26 (none : (Option Int))).isSome = true)) ∧ (let due_29 : (Str × PyData) := (if (!inT (none : (Option Int)) s_26) = true then (("partners" : Str), (enc (Vec.mk s_26))) else (("none" : Str), (enc (((idxT s_26 (none : (Option Int))).getD 0 : Nat) : Int)))); ((((p_partners_told modes_every_5.1) ∧ (eqOk (t_partners_told modes_every_5.1) due_29)) ∧ ((!eqT (t_partners_told modes_every_5.1) due_29) = false → (p_have_partners modes_every_5.1))) ∧ ((((!eqT (t_partners_told modes_every_5.1) due_29) || (!eqT (t_have_partners modes_every_5.1) (!inT (none : (Option Int)) s_26))) = true → (q_ false)) ∧ (((!eqT (t_partners_told modes_every_5.1) due_29) || (!eqT (t_have_partners modes_every_5.1) (!inT (none : (Option Int)) s_26))) = false → (True ∧ (forT (fun (x_46 : Int) (s_47 : Unit) (k_48 : Unit → Prop) => (True ∧ (forT (fun (x_55 : Int) (s_56 : Unit) (k_57 : Unit → Prop) => (((((L2.atI s_26 x_46).isSome = true) ∧ ((L2.atI s_26 x_55).isSome = true)) ∧ ((!inT (none : (Option Int)) (Vec.mk [(ixT s_26 x_46), (ixT s_26 x_55)] : (Vec (Option Int))).l) = true → ((((L2.atI lower_21 x_46).isSome = true) ∧ ((L2.atI (ixT lower_21 x_46) x_55).isSome = true)) ∧ (((((L2.atI s_26 x_55).isSome = true) ∧ (((ixT s_26 x_55)).isSome = true)) ∧ ((L2.atI lower_21 (Option.getD (ixT s_26 x_55) default)).isSome = true)) ∧ (((L2.atI s_26 x_46).isSome = true) ∧ (((ixT s_26 x_46)).isSome = true)) ∧ ((L2.atI (ixT lower_21 (Option.getD (ixT s_26 x_55) default)) (Option.getD (ixT s_26 x_46) default)).isSome = true))))) ∧ ((((!inT (none : (Option Int)) (Vec.mk [(ixT s_26 x_46), (ixT s_26 x_55)] : (Vec (Option Int))).l) && (!eqT (ixT (ixT lower_21 x_46) x_55) (ixT (ixT lower_21 (Option.getD (ixT s_26 x_55) default)) (Option.getD (ixT s_26 x_46) default)))) = true → (q_ false)) ∧ (((!inT (none : (Option Int)) (Vec.mk [(ixT s_26 x_46), (ixT s_26 x_55)] : (Vec (Option Int))).l) && (!eqT (ixT (ixT lower_21 x_46) x_55) (ixT (ixT lower_21 (Option.getD (ixT s_26 x_55) default)) (Option.getD (ixT s_26 x_46) default)))) = false → (((!inT (none : (Option Int)) s_26) = true → ((((L2.atI lower_21 x_46).isSome = true) ∧ ((L2.atI (ixT lower_21 x_46) x_55).isSome = true)) ∧ (((L2.atI s_26 x_55).isSome = true) ∧ ((L2.atI free_10 x_46).isSome = true)))) ∧ ((((!inT (none : (Option Int)) s_26) && (!eqT (ixT (ixT lower_21 x_46) x_55) (inT (ixT s_26 x_55) (List.map (fun y_ : Int => (some y_)) (ixT free_10 x_46))))) = true → (q_ false)) ∧ (((!inT (none : (Option Int)) s_26) && (!eqT (ixT (ixT lower_21 x_46) x_55) (inT (ixT s_26 x_55) (List.map (fun y_ : Int => (some y_)) (ixT free_10 x_46))))) = false → (k_57 ())))))))) modes_every_5.2 () (fun s_53 : Unit => (k_48 ()))))) modes_every_5.2 () (fun s_34 : Unit => (let told_36 : (List ((Vec Str) × (Vec (Str × Str)))) := ([((Vec.mk [("n" : Str), ("x" : Str)] : (Vec Str)), (Vec.mk [(("x" : Str), ("x" : Str))] : (Vec (Str × Str)))), ((Vec.mk [("n" : Str), ("s" : Str), ("x" : Str)] : (Vec Str)), (Vec.mk [(("s" : Str), ("x" : Str)), (("x" : Str), ("x" : Str))] : (Vec (Str × Str))))] : (List ((Vec Str) × (Vec (Str × Str))))); ((told_36.length + ([((Vec.mk [("n" : Str), ("a" : Str), ("b" : Str)] : (Vec Str)), (Vec.mk [(("a" : Str), ("a" : Str)), (("b" : Str), ("b" : Str))] : (Vec (Str × Str)))), ((Vec.mk [("n" : Str), ("i" : Str)] : (Vec Str)), (Vec.mk [] : (Vec (Str × Str)))), ((Vec.mk [("n" : Str), ("s" : Str), ("t" : Str)] : (Vec Str)), (Vec.mk [(("s" : Str), ("s" : Str))] : (Vec (Str × Str))))] : (List ((Vec Str) × (Vec (Str × Str))))).length ≤ sizeLine) ∧ (let told_38 : (List ((Vec Str) × (Vec (Str × Str)))) := (told_36 ++ ([((Vec.mk [("n" : Str), ("a" : Str), ("b" : Str)] : (Vec Str)), (Vec.mk [(("a" : Str), ("a" : Str)), (("b" : Str), ("b" : Str))] : (Vec (Str × Str)))), ((Vec.mk [("n" : Str), ("i" : Str)] : (Vec Str)), (Vec.mk [] : (Vec (Str × Str)))), ((Vec.mk [("n" : Str), ("s" : Str), ("t" : Str)] : (Vec Str)), (Vec.mk [(("s" : Str), ("s" : Str))] : (Vec (Str × Str))))] : (List ((Vec Str) × (Vec (Str × Str)))))); (let due_40 : (List (Str × PyData)) := ([(("partners" : Str), (enc ((1 : Int), (0 : Int)))), (("partners" : Str), (enc (T3.mk (2 : Int) (1 : Int) (0 : Int)))), (("none" : Str), (enc (0 : Int))), (("partners" : Str), (enc ((0 : Int), (0 : Int)))), (("partners" : Str), (enc (T3.mk (1 : Int) (0 : Int) (1 : Int))))] : (List (Str × PyData))); (((∀ x_42 ∈ told_38, ((p_modes_told x_42.1 (Vec.mk (List.map (fun y_ : (Str × Str) => (Vec.mk [y_.1, y_.2] : (Vec Str))) x_42.2.l))) ∧ (p_partners_told (t_modes_told x_42.1 (Vec.mk (List.map (fun y_ : (Str × Str) => (Vec.mk [y_.1, y_.2] : (Vec Str))) x_42.2.l)))))) ∧ (eqOk (List.map (fun x_42 : ((Vec Str) × (Vec (Str × Str))) => (t_partners_told (t_modes_told x_42.1 (Vec.mk (List.map (fun y_ : (Str × Str) => (Vec.mk [y_.1, y_.2] : (Vec Str))) x_42.2.l))))) told_38) due_40)) ∧ (q_ (eqT (List.map (fun x_42 : ((Vec Str) × (Vec (Str × Str))) => (t_partners_told (t_modes_told x_42.1 (Vec.mk (List.map (fun y_ : (Str × Str) => (Vec.mk [y_.1, y_.2] : (Vec Str))) x_42.2.l))))) told_38) due_40))))))))))))))))))))))))))) (wCs0 rfl  (okw__law_drawn n_1)) h (fun names_pairs_3 h_4 => ⟨_, gTup (vs := [_, _]) (gCons (gNm) (gCons (gNm) (gNil))) rfl, wSeqG (k := (fun modes_every_5 : (((Vec Str) × (Vec (Vec Int))) × (List Int)) => ((∀ x_7 ∈ names_pairs_3.1.l, (p__law_free names_pairs_3.1 names_pairs_3.2 x_7)) ∧ (let free_10 : (List (List Int)) := (List.map (fun x_7 : Str => (t__law_free names_pairs_3.1 names_pairs_3.2 x_7)) names_pairs_3.1.l); ((∀ x_12 ∈ modes_every_5.2, (∀ x_15 ∈ modes_every_5.2, (((L2.atI free_10 x_15).isSome = true) ∧ (∀ x_18 ∈ (ixT free_10 x_15), ((L2.atI free_10 x_12).isSome = true))))) ∧ (let lower_21 : (List (List Bool)) := (List.map (fun x_12 : Int => (List.map (fun x_15 : Int => (eqT (List.map (fun x_18 : Int => x_18) (List.filter (fun x_18 => (!inT x_18 (ixT free_10 x_12))) (ixT free_10 x_15))) ([] : (List Int)))) modes_every_5.2)) modes_every_5.2); (let dues_23 : (List (Option Int)) := ([] : (List (Option Int))); (True ∧ (forT (fun (x_71 : Int) (s_72 : (List (Option Int))) (k_73 : (List (Option Int)) → Prop) => (let some_77 : (List Int) := ([] : (List Int)); (True ∧ (forT (fun (x_108 : Int) (s_109 : (List Int)) (k_110 : (List Int) → Prop) => ((((L2.atI free_10 x_71).isSome = true) ∧ ((inT x_108 (ixT free_10 x_71)) = true → (∀ x_114 ∈ modes_every_5.2, ((((L2.atI lower_21 x_114).isSome = true) ∧ ((L2.atI (ixT lower_21 x_114) x_71).isSome = true)) ∧ ((!(ixT (ixT lower_21 x_114) x_71)) = true → ((L2.atI free_10 x_108).isSome = true)))))) ∧ (let due_119 : Bool := ((inT x_108 (ixT free_10 x_71)) && (eqT (List.map (fun x_114 : Int => x_114) (List.filter (fun x_114 => ((!(ixT (ixT lower_21 x_114) x_71)) && (inT x_114 (ixT free_10 x_108)))) modes_every_5.2)) ([] : (List Int)))); ((p_is_partner modes_every_5.1 x_71 x_108) ∧ (((!eqT (t_is_partner modes_every_5.1 x_71 x_108) due_119) = true → (q_ false)) ∧ ((!eqT (t_is_partner modes_every_5.1 x_71 x_108) due_119) = false → ((due_119 = true → (((L2.atI free_10 x_108).isSome = true) ∧ (∀ x_122 ∈ modes_every_5.2, (((L2.atI lower_21 x_122).isSome = true) ∧ ((L2.atI (ixT lower_21 x_122) x_71).isSome = true))))) ∧ (((due_119 && (!eqT (ixT free_10 x_108) (List.map (fun x_122 : Int => x_122) (List.filter (fun x_122 => (ixT (ixT lower_21 x_122) x_71)) modes_every_5.2)))) = true → (q_ false)) ∧ ((due_119 && (!eqT (ixT free_10 x_108) (List.map (fun x_122 : Int => x_122) (List.filter (fun x_122 => (ixT (ixT lower_21 x_122) x_71)) modes_every_5.2)))) = false → ((due_119 = true → (s_109.length + ([x_108] : (List Int)).length ≤ sizeLine)) ∧ (let some_128 : (List Int) := (if due_119 = true then (s_109 ++ ([x_108] : (List Int))) else s_109); (k_110 some_128)))))))))))) modes_every_5.2 some_77 (fun s_80 : (List Int) => ((∀ x_82 ∈ s_80, (((L2.atI s_80 (0 : Int)).isSome = true) ∧ (p_are_like modes_every_5.1 (ixT s_80 (0 : Int)) x_82))) ∧ (((!eqT (List.map (fun x_82 : Int => x_82) (List.filter (fun x_82 => (!(t_are_like modes_every_5.1 (ixT s_80 (0 : Int)) x_82))) s_80)) ([] : (List Int))) = true → (q_ false)) ∧ ((!eqT (List.map (fun x_82 : Int => x_82) (List.filter (fun x_82 => (!(t_are_like modes_every_5.1 (ixT s_80 (0 : Int)) x_82))) s_80)) ([] : (List Int))) = false → (((p_partner_of modes_every_5.1 x_71) ∧ ((!eqT s_80 ([] : (List Int))) = true → ((L2.atI s_80 (0 : Int)).isSome = true))) ∧ (((!eqT (t_partner_of modes_every_5.1 x_71) (if (!eqT s_80 ([] : (List Int))) = true then (some (ixT s_80 (0 : Int))) else (none : (Option Int)))) = true → (q_ false)) ∧ ((!eqT (t_partner_of modes_every_5.1 x_71) (if (!eqT s_80 ([] : (List Int))) = true then (some (ixT s_80 (0 : Int))) else (none : (Option Int)))) = false → ((s_72.length < sizeLine) ∧ (((!eqT s_80 ([] : (List Int))) = true → ((L2.atI s_80 (0 : Int)).isSome = true)) ∧ (let y_89 : (Option Int) := (if (!eqT s_80 ([] : (List Int))) = true then (some (ixT s_80 (0 : Int))) else (none : (Option Int))); (True ∧ (forT (fun (x_94 : Int) (s_95 : Unit) (k_96 : Unit → Prop) => ((((L2.atI free_10 x_71).isSome = true) ∧ ((!eqT (t_is_clashing modes_every_5.1 x_71 x_94) (!inT x_94 (ixT free_10 x_71))) = false → ((p_is_weaker modes_every_5.1 x_71 x_94) ∧ (((L2.atI lower_21 x_71).isSome = true) ∧ ((L2.atI (ixT lower_21 x_71) x_94).isSome = true))))) ∧ ((((!eqT (t_is_clashing modes_every_5.1 x_71 x_94) (!inT x_94 (ixT free_10 x_71))) || (!eqT (t_is_weaker modes_every_5.1 x_71 x_94) (ixT (ixT lower_21 x_71) x_94))) = true → (q_ false)) ∧ (((!eqT (t_is_clashing modes_every_5.1 x_71 x_94) (!inT x_94 (ixT free_10 x_71))) || (!eqT (t_is_weaker modes_every_5.1 x_71 x_94) (ixT (ixT lower_21 x_71) x_94))) = false → (k_96 ()))))) modes_every_5.2 () (fun s_92 : Unit => (k_73 (s_72 ++ [y_89]))))))))))))))))))) modes_every_5.2 dues_23 (fun s_26 : (List (Option Int)) => (((!inT (none : (Option Int)) s_26) = false → ((idxT s_26 (none : (Option Int))).isSome = true)) ∧ (let due_29 : (Str × PyData) := (if (!inT (none : (Option Int)) s_26) = true then (("partners" : Str), (enc (Vec.mk s_26))) else (("none" : Str), (enc (((idxT s_26 (none : (Option Int))).getD 0 : Nat) : Int)))); ((((p_partners_told modes_every_5.1) ∧ (eqOk (t_partners_told modes_every_5.1) due_29)) ∧ ((!eqT (t_partners_told modes_every_5.1) due_29) = false → (p_have_partners modes_every_5.1))) ∧ ((((!eqT (t_partners_told modes_every_5.1) due_29) || (!eqT (t_have_partners modes_every_5.1) (!inT (none : (Option Int)) s_26))) = true → (q_ false)) ∧ (((!eqT (t_partners_told modes_every_5.1) due_29) || (!eqT (t_have_partners modes_every_5.1) (!inT (none : (Option Int)) s_26))) = false → (True ∧ (forT (fun (x_46 : Int) (s_47 : Unit) (k_48 : Unit → Prop) => (True ∧ (forT (fun (x_55 : Int) (s_56 : Unit) (k_57 : Unit → Prop) => (((((L2.atI s_26 x_46).isSome = true) ∧ ((L2.atI s_26 x_55).isSome = true)) ∧ ((!inT (none : (Option Int)) (Vec.mk [(ixT s_26 x_46), (ixT s_26 x_55)] : (Vec (Option Int))).l) = true → ((((L2.atI lower_21 x_46).isSome = true) ∧ ((L2.atI (ixT lower_21 x_46) x_55).isSome = true)) ∧ (((((L2.atI s_26 x_55).isSome = true) ∧ (((ixT s_26 x_55)).isSome = true)) ∧ ((L2.atI lower_21 (Option.getD (ixT s_26 x_55) default)).isSome = true)) ∧ (((L2.atI s_26 x_46).isSome = true) ∧ (((ixT s_26 x_46)).isSome = true)) ∧ ((L2.atI (ixT lower_21 (Option.getD (ixT s_26 x_55) default)) (Option.getD (ixT s_26 x_46) default)).isSome = true))))) ∧ ((((!inT (none : (Option Int)) (Vec.mk [(ixT s_26 x_46), (ixT s_26 x_55)] : (Vec (Option Int))).l) && (!eqT (ixT (ixT lower_21 x_46) x_55) (ixT (ixT lower_21 (Option.getD (ixT s_26 x_55) default)) (Option.getD (ixT s_26 x_46) default)))) = true → (q_ false)) ∧ (((!inT (none : (Option Int)) (Vec.mk [(ixT s_26 x_46), (ixT s_26 x_55)] : (Vec (Option Int))).l) && (!eqT (ixT (ixT lower_21 x_46) x_55) (ixT (ixT lower_21 (Option.getD (ixT s_26 x_55) default)) (Option.getD (ixT s_26 x_46) default)))) = false → (((!inT (none : (Option Int)) s_26) = true → ((((L2.atI lower_21 x_46).isSome = true) ∧ ((L2.atI (ixT lower_21 x_46) x_55).isSome = true)) ∧ (((L2.atI s_26 x_55).isSome = true) ∧ ((L2.atI free_10 x_46).isSome = true)))) ∧ ((((!inT (none : (Option Int)) s_26) && (!eqT (ixT (ixT lower_21 x_46) x_55) (inT (ixT s_26 x_55) (List.map (fun y_ : Int => (some y_)) (ixT free_10 x_46))))) = true → (q_ false)) ∧ (((!inT (none : (Option Int)) s_26) && (!eqT (ixT (ixT lower_21 x_46) x_55) (inT (ixT s_26 x_55) (List.map (fun y_ : Int => (some y_)) (ixT free_10 x_46))))) = false → (k_57 ())))))))) modes_every_5.2 () (fun s_53 : Unit => (k_48 ()))))) modes_every_5.2 () (fun s_34 : Unit => (let told_36 : (List ((Vec Str) × (Vec (Str × Str)))) := ([((Vec.mk [("n" : Str), ("x" : Str)] : (Vec Str)), (Vec.mk [(("x" : Str), ("x" : Str))] : (Vec (Str × Str)))), ((Vec.mk [("n" : Str), ("s" : Str), ("x" : Str)] : (Vec Str)), (Vec.mk [(("s" : Str), ("x" : Str)), (("x" : Str), ("x" : Str))] : (Vec (Str × Str))))] : (List ((Vec Str) × (Vec (Str × Str))))); ((told_36.length + ([((Vec.mk [("n" : Str), ("a" : Str), ("b" : Str)] : (Vec Str)), (Vec.mk [(("a" : Str), ("a" : Str)), (("b" : Str), ("b" : Str))] : (Vec (Str × Str)))), ((Vec.mk [("n" : Str), ("i" : Str)] : (Vec Str)), (Vec.mk [] : (Vec (Str × Str)))), ((Vec.mk [("n" : Str), ("s" : Str), ("t" : Str)] : (Vec Str)), (Vec.mk [(("s" : Str), ("s" : Str))] : (Vec (Str × Str))))] : (List ((Vec Str) × (Vec (Str × Str))))).length ≤ sizeLine) ∧ (let told_38 : (List ((Vec Str) × (Vec (Str × Str)))) := (told_36 ++ ([((Vec.mk [("n" : Str), ("a" : Str), ("b" : Str)] : (Vec Str)), (Vec.mk [(("a" : Str), ("a" : Str)), (("b" : Str), ("b" : Str))] : (Vec (Str × Str)))), ((Vec.mk [("n" : Str), ("i" : Str)] : (Vec Str)), (Vec.mk [] : (Vec (Str × Str)))), ((Vec.mk [("n" : Str), ("s" : Str), ("t" : Str)] : (Vec Str)), (Vec.mk [(("s" : Str), ("s" : Str))] : (Vec (Str × Str))))] : (List ((Vec Str) × (Vec (Str × Str)))))); (let due_40 : (List (Str × PyData)) := ([(("partners" : Str), (enc ((1 : Int), (0 : Int)))), (("partners" : Str), (enc (T3.mk (2 : Int) (1 : Int) (0 : Int)))), (("none" : Str), (enc (0 : Int))), (("partners" : Str), (enc ((0 : Int), (0 : Int)))), (("partners" : Str), (enc (T3.mk (1 : Int) (0 : Int) (1 : Int))))] : (List (Str × PyData))); (((∀ x_42 ∈ told_38, ((p_modes_told x_42.1 (Vec.mk (List.map (fun y_ : (Str × Str) => (Vec.mk [y_.1, y_.2] : (Vec Str))) x_42.2.l))) ∧ (p_partners_told (t_modes_told x_42.1 (Vec.mk (List.map (fun y_ : (Str × Str) => (Vec.mk [y_.1, y_.2] : (Vec Str))) x_42.2.l)))))) ∧ (eqOk (List.map (fun x_42 : ((Vec Str) × (Vec (Str × Str))) => (t_partners_told (t_modes_told x_42.1 (Vec.mk (List.map (fun y_ : (Str × Str) => (Vec.mk [y_.1, y_.2] : (Vec Str))) x_42.2.l))))) told_38) due_40)) ∧ (q_ (eqT (List.map (fun x_42 : ((Vec Str) × (Vec (Str × Str))) => (t_partners_told (t_modes_told x_42.1 (Vec.mk (List.map (fun y_ : (Str × Str) => (Vec.mk [y_.1, y_.2] : (Vec Str))) x_42.2.l))))) told_38) due_40))))))))))))))))))))))))) (wE (a := (((t_modes_told names_pairs_3.1 names_pairs_3.2), (rangeT 0 (names_pairs_3.1.l.length : Int))) : (((Vec Str) × (Vec (Vec Int))) × (List Int)))) (P := ((p_modes_told names_pairs_3.1 names_pairs_3.2) ∧ (-(2 ^ 62) ≤ (names_pairs_3.1.l.length : Int) ∧ (names_pairs_3.1.l.length : Int) ≤ 16777216))) (fun h_ => oTup (aC (oCall (aC (oV rfl) (aC (oV rfl) (aN))) rfl (ok_modes_told names_pairs_3.1 names_pairs_3.2 h_.1)) (aC (bListR1 (bLenV (oV rfl)) h_.2) (aN))) (by show 2 ≤ sizeLine; decide))) h_4 (fun modes_every_5 h_6 => ⟨_, gTup (vs := [_, _]) (gCons (gNm) (gCons (gNm) (gNil))) rfl, wSeqN (k := (fun free_10 : (List (List Int)) => ((∀ x_12 ∈ modes_every_5.2, (∀ x_15 ∈ modes_every_5.2, (((L2.atI free_10 x_15).isSome = true) ∧ (∀ x_18 ∈ (ixT free_10 x_15), ((L2.atI free_10 x_12).isSome = true))))) ∧ (let lower_21 : (List (List Bool)) := (List.map (fun x_12 : Int => (List.map (fun x_15 : Int => (eqT (List.map (fun x_18 : Int => x_18) (List.filter (fun x_18 => (!inT x_18 (ixT free_10 x_12))) (ixT free_10 x_15))) ([] : (List Int)))) modes_every_5.2)) modes_every_5.2); (let dues_23 : (List (Option Int)) := ([] : (List (Option Int))); (True ∧ (forT (fun (x_71 : Int) (s_72 : (List (Option Int))) (k_73 : (List (Option Int)) → Prop) => (let some_77 : (List Int) := ([] : (List Int)); (True ∧ (forT (fun (x_108 : Int) (s_109 : (List Int)) (k_110 : (List Int) → Prop) => ((((L2.atI free_10 x_71).isSome = true) ∧ ((inT x_108 (ixT free_10 x_71)) = true → (∀ x_114 ∈ modes_every_5.2, ((((L2.atI lower_21 x_114).isSome = true) ∧ ((L2.atI (ixT lower_21 x_114) x_71).isSome = true)) ∧ ((!(ixT (ixT lower_21 x_114) x_71)) = true → ((L2.atI free_10 x_108).isSome = true)))))) ∧ (let due_119 : Bool := ((inT x_108 (ixT free_10 x_71)) && (eqT (List.map (fun x_114 : Int => x_114) (List.filter (fun x_114 => ((!(ixT (ixT lower_21 x_114) x_71)) && (inT x_114 (ixT free_10 x_108)))) modes_every_5.2)) ([] : (List Int)))); ((p_is_partner modes_every_5.1 x_71 x_108) ∧ (((!eqT (t_is_partner modes_every_5.1 x_71 x_108) due_119) = true → (q_ false)) ∧ ((!eqT (t_is_partner modes_every_5.1 x_71 x_108) due_119) = false → ((due_119 = true → (((L2.atI free_10 x_108).isSome = true) ∧ (∀ x_122 ∈ modes_every_5.2, (((L2.atI lower_21 x_122).isSome = true) ∧ ((L2.atI (ixT lower_21 x_122) x_71).isSome = true))))) ∧ (((due_119 && (!eqT (ixT free_10 x_108) (List.map (fun x_122 : Int => x_122) (List.filter (fun x_122 => (ixT (ixT lower_21 x_122) x_71)) modes_every_5.2)))) = true → (q_ false)) ∧ ((due_119 && (!eqT (ixT free_10 x_108) (List.map (fun x_122 : Int => x_122) (List.filter (fun x_122 => (ixT (ixT lower_21 x_122) x_71)) modes_every_5.2)))) = false → ((due_119 = true → (s_109.length + ([x_108] : (List Int)).length ≤ sizeLine)) ∧ (let some_128 : (List Int) := (if due_119 = true then (s_109 ++ ([x_108] : (List Int))) else s_109); (k_110 some_128)))))))))))) modes_every_5.2 some_77 (fun s_80 : (List Int) => ((∀ x_82 ∈ s_80, (((L2.atI s_80 (0 : Int)).isSome = true) ∧ (p_are_like modes_every_5.1 (ixT s_80 (0 : Int)) x_82))) ∧ (((!eqT (List.map (fun x_82 : Int => x_82) (List.filter (fun x_82 => (!(t_are_like modes_every_5.1 (ixT s_80 (0 : Int)) x_82))) s_80)) ([] : (List Int))) = true → (q_ false)) ∧ ((!eqT (List.map (fun x_82 : Int => x_82) (List.filter (fun x_82 => (!(t_are_like modes_every_5.1 (ixT s_80 (0 : Int)) x_82))) s_80)) ([] : (List Int))) = false → (((p_partner_of modes_every_5.1 x_71) ∧ ((!eqT s_80 ([] : (List Int))) = true → ((L2.atI s_80 (0 : Int)).isSome = true))) ∧ (((!eqT (t_partner_of modes_every_5.1 x_71) (if (!eqT s_80 ([] : (List Int))) = true then (some (ixT s_80 (0 : Int))) else (none : (Option Int)))) = true → (q_ false)) ∧ ((!eqT (t_partner_of modes_every_5.1 x_71) (if (!eqT s_80 ([] : (List Int))) = true then (some (ixT s_80 (0 : Int))) else (none : (Option Int)))) = false → ((s_72.length < sizeLine) ∧ (((!eqT s_80 ([] : (List Int))) = true → ((L2.atI s_80 (0 : Int)).isSome = true)) ∧ (let y_89 : (Option Int) := (if (!eqT s_80 ([] : (List Int))) = true then (some (ixT s_80 (0 : Int))) else (none : (Option Int))); (True ∧ (forT (fun (x_94 : Int) (s_95 : Unit) (k_96 : Unit → Prop) => ((((L2.atI free_10 x_71).isSome = true) ∧ ((!eqT (t_is_clashing modes_every_5.1 x_71 x_94) (!inT x_94 (ixT free_10 x_71))) = false → ((p_is_weaker modes_every_5.1 x_71 x_94) ∧ (((L2.atI lower_21 x_71).isSome = true) ∧ ((L2.atI (ixT lower_21 x_71) x_94).isSome = true))))) ∧ ((((!eqT (t_is_clashing modes_every_5.1 x_71 x_94) (!inT x_94 (ixT free_10 x_71))) || (!eqT (t_is_weaker modes_every_5.1 x_71 x_94) (ixT (ixT lower_21 x_71) x_94))) = true → (q_ false)) ∧ (((!eqT (t_is_clashing modes_every_5.1 x_71 x_94) (!inT x_94 (ixT free_10 x_71))) || (!eqT (t_is_weaker modes_every_5.1 x_71 x_94) (ixT (ixT lower_21 x_71) x_94))) = false → (k_96 ()))))) modes_every_5.2 () (fun s_92 : Unit => (k_73 (s_72 ++ [y_89]))))))))))))))))))) modes_every_5.2 dues_23 (fun s_26 : (List (Option Int)) => (((!inT (none : (Option Int)) s_26) = false → ((idxT s_26 (none : (Option Int))).isSome = true)) ∧ (let due_29 : (Str × PyData) := (if (!inT (none : (Option Int)) s_26) = true then (("partners" : Str), (enc (Vec.mk s_26))) else (("none" : Str), (enc (((idxT s_26 (none : (Option Int))).getD 0 : Nat) : Int)))); ((((p_partners_told modes_every_5.1) ∧ (eqOk (t_partners_told modes_every_5.1) due_29)) ∧ ((!eqT (t_partners_told modes_every_5.1) due_29) = false → (p_have_partners modes_every_5.1))) ∧ ((((!eqT (t_partners_told modes_every_5.1) due_29) || (!eqT (t_have_partners modes_every_5.1) (!inT (none : (Option Int)) s_26))) = true → (q_ false)) ∧ (((!eqT (t_partners_told modes_every_5.1) due_29) || (!eqT (t_have_partners modes_every_5.1) (!inT (none : (Option Int)) s_26))) = false → (True ∧ (forT (fun (x_46 : Int) (s_47 : Unit) (k_48 : Unit → Prop) => (True ∧ (forT (fun (x_55 : Int) (s_56 : Unit) (k_57 : Unit → Prop) => (((((L2.atI s_26 x_46).isSome = true) ∧ ((L2.atI s_26 x_55).isSome = true)) ∧ ((!inT (none : (Option Int)) (Vec.mk [(ixT s_26 x_46), (ixT s_26 x_55)] : (Vec (Option Int))).l) = true → ((((L2.atI lower_21 x_46).isSome = true) ∧ ((L2.atI (ixT lower_21 x_46) x_55).isSome = true)) ∧ (((((L2.atI s_26 x_55).isSome = true) ∧ (((ixT s_26 x_55)).isSome = true)) ∧ ((L2.atI lower_21 (Option.getD (ixT s_26 x_55) default)).isSome = true)) ∧ (((L2.atI s_26 x_46).isSome = true) ∧ (((ixT s_26 x_46)).isSome = true)) ∧ ((L2.atI (ixT lower_21 (Option.getD (ixT s_26 x_55) default)) (Option.getD (ixT s_26 x_46) default)).isSome = true))))) ∧ ((((!inT (none : (Option Int)) (Vec.mk [(ixT s_26 x_46), (ixT s_26 x_55)] : (Vec (Option Int))).l) && (!eqT (ixT (ixT lower_21 x_46) x_55) (ixT (ixT lower_21 (Option.getD (ixT s_26 x_55) default)) (Option.getD (ixT s_26 x_46) default)))) = true → (q_ false)) ∧ (((!inT (none : (Option Int)) (Vec.mk [(ixT s_26 x_46), (ixT s_26 x_55)] : (Vec (Option Int))).l) && (!eqT (ixT (ixT lower_21 x_46) x_55) (ixT (ixT lower_21 (Option.getD (ixT s_26 x_55) default)) (Option.getD (ixT s_26 x_46) default)))) = false → (((!inT (none : (Option Int)) s_26) = true → ((((L2.atI lower_21 x_46).isSome = true) ∧ ((L2.atI (ixT lower_21 x_46) x_55).isSome = true)) ∧ (((L2.atI s_26 x_55).isSome = true) ∧ ((L2.atI free_10 x_46).isSome = true)))) ∧ ((((!inT (none : (Option Int)) s_26) && (!eqT (ixT (ixT lower_21 x_46) x_55) (inT (ixT s_26 x_55) (List.map (fun y_ : Int => (some y_)) (ixT free_10 x_46))))) = true → (q_ false)) ∧ (((!inT (none : (Option Int)) s_26) && (!eqT (ixT (ixT lower_21 x_46) x_55) (inT (ixT s_26 x_55) (List.map (fun y_ : Int => (some y_)) (ixT free_10 x_46))))) = false → (k_57 ())))))))) modes_every_5.2 () (fun s_53 : Unit => (k_48 ()))))) modes_every_5.2 () (fun s_34 : Unit => (let told_36 : (List ((Vec Str) × (Vec (Str × Str)))) := ([((Vec.mk [("n" : Str), ("x" : Str)] : (Vec Str)), (Vec.mk [(("x" : Str), ("x" : Str))] : (Vec (Str × Str)))), ((Vec.mk [("n" : Str), ("s" : Str), ("x" : Str)] : (Vec Str)), (Vec.mk [(("s" : Str), ("x" : Str)), (("x" : Str), ("x" : Str))] : (Vec (Str × Str))))] : (List ((Vec Str) × (Vec (Str × Str))))); ((told_36.length + ([((Vec.mk [("n" : Str), ("a" : Str), ("b" : Str)] : (Vec Str)), (Vec.mk [(("a" : Str), ("a" : Str)), (("b" : Str), ("b" : Str))] : (Vec (Str × Str)))), ((Vec.mk [("n" : Str), ("i" : Str)] : (Vec Str)), (Vec.mk [] : (Vec (Str × Str)))), ((Vec.mk [("n" : Str), ("s" : Str), ("t" : Str)] : (Vec Str)), (Vec.mk [(("s" : Str), ("s" : Str))] : (Vec (Str × Str))))] : (List ((Vec Str) × (Vec (Str × Str))))).length ≤ sizeLine) ∧ (let told_38 : (List ((Vec Str) × (Vec (Str × Str)))) := (told_36 ++ ([((Vec.mk [("n" : Str), ("a" : Str), ("b" : Str)] : (Vec Str)), (Vec.mk [(("a" : Str), ("a" : Str)), (("b" : Str), ("b" : Str))] : (Vec (Str × Str)))), ((Vec.mk [("n" : Str), ("i" : Str)] : (Vec Str)), (Vec.mk [] : (Vec (Str × Str)))), ((Vec.mk [("n" : Str), ("s" : Str), ("t" : Str)] : (Vec Str)), (Vec.mk [(("s" : Str), ("s" : Str))] : (Vec (Str × Str))))] : (List ((Vec Str) × (Vec (Str × Str)))))); (let due_40 : (List (Str × PyData)) := ([(("partners" : Str), (enc ((1 : Int), (0 : Int)))), (("partners" : Str), (enc (T3.mk (2 : Int) (1 : Int) (0 : Int)))), (("none" : Str), (enc (0 : Int))), (("partners" : Str), (enc ((0 : Int), (0 : Int)))), (("partners" : Str), (enc (T3.mk (1 : Int) (0 : Int) (1 : Int))))] : (List (Str × PyData))); (((∀ x_42 ∈ told_38, ((p_modes_told x_42.1 (Vec.mk (List.map (fun y_ : (Str × Str) => (Vec.mk [y_.1, y_.2] : (Vec Str))) x_42.2.l))) ∧ (p_partners_told (t_modes_told x_42.1 (Vec.mk (List.map (fun y_ : (Str × Str) => (Vec.mk [y_.1, y_.2] : (Vec Str))) x_42.2.l)))))) ∧ (eqOk (List.map (fun x_42 : ((Vec Str) × (Vec (Str × Str))) => (t_partners_told (t_modes_told x_42.1 (Vec.mk (List.map (fun y_ : (Str × Str) => (Vec.mk [y_.1, y_.2] : (Vec Str))) x_42.2.l))))) told_38) due_40)) ∧ (q_ (eqT (List.map (fun x_42 : ((Vec Str) × (Vec (Str × Str))) => (t_partners_told (t_modes_told x_42.1 (Vec.mk (List.map (fun y_ : (Str × Str) => (Vec.mk [y_.1, y_.2] : (Vec Str))) x_42.2.l))))) told_38) due_40))))))))))))))))))))))) (wE (a := ((List.map (fun x_7 : Str => (t__law_free names_pairs_3.1 names_pairs_3.2 x_7)) names_pairs_3.1.l) : (List (List Int)))) (P := (∀ x_7 ∈ names_pairs_3.1.l, (p__law_free names_pairs_3.1 names_pairs_3.2 x_7))) (fun h_ => oCompA (α := Str) (g := fun x_7 => (t__law_free names_pairs_3.1 names_pairs_3.2 x_7)) (iV (oV rfl)) rfl (fun x_7 hx_8 => ⟨_, gNm, rfl, oCall (aC (oV rfl) (aC (oV rfl) (aC (oV rfl) (aN)))) rfl (ok__law_free names_pairs_3.1 names_pairs_3.2 x_7 (h_ x_7 hx_8))⟩))) h_6 (fun free_10 h_11 => wSeqN (k := (fun lower_21 : (List (List Bool)) => (let dues_23 : (List (Option Int)) := ([] : (List (Option Int))); (True ∧ (forT (fun (x_71 : Int) (s_72 : (List (Option Int))) (k_73 : (List (Option Int)) → Prop) => (let some_77 : (List Int) := ([] : (List Int)); (True ∧ (forT (fun (x_108 : Int) (s_109 : (List Int)) (k_110 : (List Int) → Prop) => ((((L2.atI free_10 x_71).isSome = true) ∧ ((inT x_108 (ixT free_10 x_71)) = true → (∀ x_114 ∈ modes_every_5.2, ((((L2.atI lower_21 x_114).isSome = true) ∧ ((L2.atI (ixT lower_21 x_114) x_71).isSome = true)) ∧ ((!(ixT (ixT lower_21 x_114) x_71)) = true → ((L2.atI free_10 x_108).isSome = true)))))) ∧ (let due_119 : Bool := ((inT x_108 (ixT free_10 x_71)) && (eqT (List.map (fun x_114 : Int => x_114) (List.filter (fun x_114 => ((!(ixT (ixT lower_21 x_114) x_71)) && (inT x_114 (ixT free_10 x_108)))) modes_every_5.2)) ([] : (List Int)))); ((p_is_partner modes_every_5.1 x_71 x_108) ∧ (((!eqT (t_is_partner modes_every_5.1 x_71 x_108) due_119) = true → (q_ false)) ∧ ((!eqT (t_is_partner modes_every_5.1 x_71 x_108) due_119) = false → ((due_119 = true → (((L2.atI free_10 x_108).isSome = true) ∧ (∀ x_122 ∈ modes_every_5.2, (((L2.atI lower_21 x_122).isSome = true) ∧ ((L2.atI (ixT lower_21 x_122) x_71).isSome = true))))) ∧ (((due_119 && (!eqT (ixT free_10 x_108) (List.map (fun x_122 : Int => x_122) (List.filter (fun x_122 => (ixT (ixT lower_21 x_122) x_71)) modes_every_5.2)))) = true → (q_ false)) ∧ ((due_119 && (!eqT (ixT free_10 x_108) (List.map (fun x_122 : Int => x_122) (List.filter (fun x_122 => (ixT (ixT lower_21 x_122) x_71)) modes_every_5.2)))) = false → ((due_119 = true → (s_109.length + ([x_108] : (List Int)).length ≤ sizeLine)) ∧ (let some_128 : (List Int) := (if due_119 = true then (s_109 ++ ([x_108] : (List Int))) else s_109); (k_110 some_128)))))))))))) modes_every_5.2 some_77 (fun s_80 : (List Int) => ((∀ x_82 ∈ s_80, (((L2.atI s_80 (0 : Int)).isSome = true) ∧ (p_are_like modes_every_5.1 (ixT s_80 (0 : Int)) x_82))) ∧ (((!eqT (List.map (fun x_82 : Int => x_82) (List.filter (fun x_82 => (!(t_are_like modes_every_5.1 (ixT s_80 (0 : Int)) x_82))) s_80)) ([] : (List Int))) = true → (q_ false)) ∧ ((!eqT (List.map (fun x_82 : Int => x_82) (List.filter (fun x_82 => (!(t_are_like modes_every_5.1 (ixT s_80 (0 : Int)) x_82))) s_80)) ([] : (List Int))) = false → (((p_partner_of modes_every_5.1 x_71) ∧ ((!eqT s_80 ([] : (List Int))) = true → ((L2.atI s_80 (0 : Int)).isSome = true))) ∧ (((!eqT (t_partner_of modes_every_5.1 x_71) (if (!eqT s_80 ([] : (List Int))) = true then (some (ixT s_80 (0 : Int))) else (none : (Option Int)))) = true → (q_ false)) ∧ ((!eqT (t_partner_of modes_every_5.1 x_71) (if (!eqT s_80 ([] : (List Int))) = true then (some (ixT s_80 (0 : Int))) else (none : (Option Int)))) = false → ((s_72.length < sizeLine) ∧ (((!eqT s_80 ([] : (List Int))) = true → ((L2.atI s_80 (0 : Int)).isSome = true)) ∧ (let y_89 : (Option Int) := (if (!eqT s_80 ([] : (List Int))) = true then (some (ixT s_80 (0 : Int))) else (none : (Option Int))); (True ∧ (forT (fun (x_94 : Int) (s_95 : Unit) (k_96 : Unit → Prop) => ((((L2.atI free_10 x_71).isSome = true) ∧ ((!eqT (t_is_clashing modes_every_5.1 x_71 x_94) (!inT x_94 (ixT free_10 x_71))) = false → ((p_is_weaker modes_every_5.1 x_71 x_94) ∧ (((L2.atI lower_21 x_71).isSome = true) ∧ ((L2.atI (ixT lower_21 x_71) x_94).isSome = true))))) ∧ ((((!eqT (t_is_clashing modes_every_5.1 x_71 x_94) (!inT x_94 (ixT free_10 x_71))) || (!eqT (t_is_weaker modes_every_5.1 x_71 x_94) (ixT (ixT lower_21 x_71) x_94))) = true → (q_ false)) ∧ (((!eqT (t_is_clashing modes_every_5.1 x_71 x_94) (!inT x_94 (ixT free_10 x_71))) || (!eqT (t_is_weaker modes_every_5.1 x_71 x_94) (ixT (ixT lower_21 x_71) x_94))) = false → (k_96 ()))))) modes_every_5.2 () (fun s_92 : Unit => (k_73 (s_72 ++ [y_89]))))))))))))))))))) modes_every_5.2 dues_23 (fun s_26 : (List (Option Int)) => (((!inT (none : (Option Int)) s_26) = false → ((idxT s_26 (none : (Option Int))).isSome = true)) ∧ (let due_29 : (Str × PyData) := (if (!inT (none : (Option Int)) s_26) = true then (("partners" : Str), (enc (Vec.mk s_26))) else (("none" : Str), (enc (((idxT s_26 (none : (Option Int))).getD 0 : Nat) : Int)))); ((((p_partners_told modes_every_5.1) ∧ (eqOk (t_partners_told modes_every_5.1) due_29)) ∧ ((!eqT (t_partners_told modes_every_5.1) due_29) = false → (p_have_partners modes_every_5.1))) ∧ ((((!eqT (t_partners_told modes_every_5.1) due_29) || (!eqT (t_have_partners modes_every_5.1) (!inT (none : (Option Int)) s_26))) = true → (q_ false)) ∧ (((!eqT (t_partners_told modes_every_5.1) due_29) || (!eqT (t_have_partners modes_every_5.1) (!inT (none : (Option Int)) s_26))) = false → (True ∧ (forT (fun (x_46 : Int) (s_47 : Unit) (k_48 : Unit → Prop) => (True ∧ (forT (fun (x_55 : Int) (s_56 : Unit) (k_57 : Unit → Prop) => (((((L2.atI s_26 x_46).isSome = true) ∧ ((L2.atI s_26 x_55).isSome = true)) ∧ ((!inT (none : (Option Int)) (Vec.mk [(ixT s_26 x_46), (ixT s_26 x_55)] : (Vec (Option Int))).l) = true → ((((L2.atI lower_21 x_46).isSome = true) ∧ ((L2.atI (ixT lower_21 x_46) x_55).isSome = true)) ∧ (((((L2.atI s_26 x_55).isSome = true) ∧ (((ixT s_26 x_55)).isSome = true)) ∧ ((L2.atI lower_21 (Option.getD (ixT s_26 x_55) default)).isSome = true)) ∧ (((L2.atI s_26 x_46).isSome = true) ∧ (((ixT s_26 x_46)).isSome = true)) ∧ ((L2.atI (ixT lower_21 (Option.getD (ixT s_26 x_55) default)) (Option.getD (ixT s_26 x_46) default)).isSome = true))))) ∧ ((((!inT (none : (Option Int)) (Vec.mk [(ixT s_26 x_46), (ixT s_26 x_55)] : (Vec (Option Int))).l) && (!eqT (ixT (ixT lower_21 x_46) x_55) (ixT (ixT lower_21 (Option.getD (ixT s_26 x_55) default)) (Option.getD (ixT s_26 x_46) default)))) = true → (q_ false)) ∧ (((!inT (none : (Option Int)) (Vec.mk [(ixT s_26 x_46), (ixT s_26 x_55)] : (Vec (Option Int))).l) && (!eqT (ixT (ixT lower_21 x_46) x_55) (ixT (ixT lower_21 (Option.getD (ixT s_26 x_55) default)) (Option.getD (ixT s_26 x_46) default)))) = false → (((!inT (none : (Option Int)) s_26) = true → ((((L2.atI lower_21 x_46).isSome = true) ∧ ((L2.atI (ixT lower_21 x_46) x_55).isSome = true)) ∧ (((L2.atI s_26 x_55).isSome = true) ∧ ((L2.atI free_10 x_46).isSome = true)))) ∧ ((((!inT (none : (Option Int)) s_26) && (!eqT (ixT (ixT lower_21 x_46) x_55) (inT (ixT s_26 x_55) (List.map (fun y_ : Int => (some y_)) (ixT free_10 x_46))))) = true → (q_ false)) ∧ (((!inT (none : (Option Int)) s_26) && (!eqT (ixT (ixT lower_21 x_46) x_55) (inT (ixT s_26 x_55) (List.map (fun y_ : Int => (some y_)) (ixT free_10 x_46))))) = false → (k_57 ())))))))) modes_every_5.2 () (fun s_53 : Unit => (k_48 ()))))) modes_every_5.2 () (fun s_34 : Unit => (let told_36 : (List ((Vec Str) × (Vec (Str × Str)))) := ([((Vec.mk [("n" : Str), ("x" : Str)] : (Vec Str)), (Vec.mk [(("x" : Str), ("x" : Str))] : (Vec (Str × Str)))), ((Vec.mk [("n" : Str), ("s" : Str), ("x" : Str)] : (Vec Str)), (Vec.mk [(("s" : Str), ("x" : Str)), (("x" : Str), ("x" : Str))] : (Vec (Str × Str))))] : (List ((Vec Str) × (Vec (Str × Str))))); ((told_36.length + ([((Vec.mk [("n" : Str), ("a" : Str), ("b" : Str)] : (Vec Str)), (Vec.mk [(("a" : Str), ("a" : Str)), (("b" : Str), ("b" : Str))] : (Vec (Str × Str)))), ((Vec.mk [("n" : Str), ("i" : Str)] : (Vec Str)), (Vec.mk [] : (Vec (Str × Str)))), ((Vec.mk [("n" : Str), ("s" : Str), ("t" : Str)] : (Vec Str)), (Vec.mk [(("s" : Str), ("s" : Str))] : (Vec (Str × Str))))] : (List ((Vec Str) × (Vec (Str × Str))))).length ≤ sizeLine) ∧ (let told_38 : (List ((Vec Str) × (Vec (Str × Str)))) := (told_36 ++ ([((Vec.mk [("n" : Str), ("a" : Str), ("b" : Str)] : (Vec Str)), (Vec.mk [(("a" : Str), ("a" : Str)), (("b" : Str), ("b" : Str))] : (Vec (Str × Str)))), ((Vec.mk [("n" : Str), ("i" : Str)] : (Vec Str)), (Vec.mk [] : (Vec (Str × Str)))), ((Vec.mk [("n" : Str), ("s" : Str), ("t" : Str)] : (Vec Str)), (Vec.mk [(("s" : Str), ("s" : Str))] : (Vec (Str × Str))))] : (List ((Vec Str) × (Vec (Str × Str)))))); (let due_40 : (List (Str × PyData)) := ([(("partners" : Str), (enc ((1 : Int), (0 : Int)))), (("partners" : Str), (enc (T3.mk (2 : Int) (1 : Int) (0 : Int)))), (("none" : Str), (enc (0 : Int))), (("partners" : Str), (enc ((0 : Int), (0 : Int)))), (("partners" : Str), (enc (T3.mk (1 : Int) (0 : Int) (1 : Int))))] : (List (Str × PyData))); (((∀ x_42 ∈ told_38, ((p_modes_told x_42.1 (Vec.mk (List.map (fun y_ : (Str × Str) => (Vec.mk [y_.1, y_.2] : (Vec Str))) x_42.2.l))) ∧ (p_partners_told (t_modes_told x_42.1 (Vec.mk (List.map (fun y_ : (Str × Str) => (Vec.mk [y_.1, y_.2] : (Vec Str))) x_42.2.l)))))) ∧ (eqOk (List.map (fun x_42 : ((Vec Str) × (Vec (Str × Str))) => (t_partners_told (t_modes_told x_42.1 (Vec.mk (List.map (fun y_ : (Str × Str) => (Vec.mk [y_.1, y_.2] : (Vec Str))) x_42.2.l))))) told_38) due_40)) ∧ (q_ (eqT (List.map (fun x_42 : ((Vec Str) × (Vec (Str × Str))) => (t_partners_told (t_modes_told x_42.1 (Vec.mk (List.map (fun y_ : (Str × Str) => (Vec.mk [y_.1, y_.2] : (Vec Str))) x_42.2.l))))) told_38) due_40))))))))))))))))))))) (wE (a := ((List.map (fun x_12 : Int => (List.map (fun x_15 : Int => (eqT (List.map (fun x_18 : Int => x_18) (List.filter (fun x_18 => (!inT x_18 (ixT free_10 x_12))) (ixT free_10 x_15))) ([] : (List Int)))) modes_every_5.2)) modes_every_5.2) : (List (List Bool)))) (P := (∀ x_12 ∈ modes_every_5.2, (∀ x_15 ∈ modes_every_5.2, (((L2.atI free_10 x_15).isSome = true) ∧ (∀ x_18 ∈ (ixT free_10 x_15), ((L2.atI free_10 x_12).isSome = true)))))) (fun h_ => oCompA (α := Int) (g := fun x_12 => (List.map (fun x_15 : Int => (eqT (List.map (fun x_18 : Int => x_18) (List.filter (fun x_18 => (!inT x_18 (ixT free_10 x_12))) (ixT free_10 x_15))) ([] : (List Int)))) modes_every_5.2)) (iL (oV rfl)) rfl (fun x_12 hx_13 => ⟨_, gNm, rfl, oCompA (α := Int) (g := fun x_15 => (eqT (List.map (fun x_18 : Int => x_18) (List.filter (fun x_18 => (!inT x_18 (ixT free_10 x_12))) (ixT free_10 x_15))) ([] : (List Int)))) (iL (oV rfl)) rfl (fun x_15 hx_16 => ⟨_, gNm, rfl, oEq (oComp (α := Int) (p := fun x_18 => (!inT x_18 (ixT free_10 x_12))) (g := fun x_18 => x_18) (iL (oIxL (oV rfl) (oV rfl) ((h_ x_12 hx_13) x_15 hx_16).1)) rfl (fun x_18 hx_19 => ⟨_, gNm, rfl, tT (oNiL (oV rfl) (oIxL (oV rfl) (oV rfl) (((h_ x_12 hx_13) x_15 hx_16).2 x_18 hx_19)) (inOk_no _ _)), fun hp_20 => oV rfl⟩)) (oLst (aN) (by show 0 ≤ sizeLine; decide)) eqOk_no⟩)⟩))) h_11 (fun lower_21 h_22 => seqOL (k := (fun dues_23 : (List (Option Int)) => (True ∧ (forT (fun (x_71 : Int) (s_72 : (List (Option Int))) (k_73 : (List (Option Int)) → Prop) => (let some_77 : (List Int) := ([] : (List Int)); (True ∧ (forT (fun (x_108 : Int) (s_109 : (List Int)) (k_110 : (List Int) → Prop) => ((((L2.atI free_10 x_71).isSome = true) ∧ ((inT x_108 (ixT free_10 x_71)) = true → (∀ x_114 ∈ modes_every_5.2, ((((L2.atI lower_21 x_114).isSome = true) ∧ ((L2.atI (ixT lower_21 x_114) x_71).isSome = true)) ∧ ((!(ixT (ixT lower_21 x_114) x_71)) = true → ((L2.atI free_10 x_108).isSome = true)))))) ∧ (let due_119 : Bool := ((inT x_108 (ixT free_10 x_71)) && (eqT (List.map (fun x_114 : Int => x_114) (List.filter (fun x_114 => ((!(ixT (ixT lower_21 x_114) x_71)) && (inT x_114 (ixT free_10 x_108)))) modes_every_5.2)) ([] : (List Int)))); ((p_is_partner modes_every_5.1 x_71 x_108) ∧ (((!eqT (t_is_partner modes_every_5.1 x_71 x_108) due_119) = true → (q_ false)) ∧ ((!eqT (t_is_partner modes_every_5.1 x_71 x_108) due_119) = false → ((due_119 = true → (((L2.atI free_10 x_108).isSome = true) ∧ (∀ x_122 ∈ modes_every_5.2, (((L2.atI lower_21 x_122).isSome = true) ∧ ((L2.atI (ixT lower_21 x_122) x_71).isSome = true))))) ∧ (((due_119 && (!eqT (ixT free_10 x_108) (List.map (fun x_122 : Int => x_122) (List.filter (fun x_122 => (ixT (ixT lower_21 x_122) x_71)) modes_every_5.2)))) = true → (q_ false)) ∧ ((due_119 && (!eqT (ixT free_10 x_108) (List.map (fun x_122 : Int => x_122) (List.filter (fun x_122 => (ixT (ixT lower_21 x_122) x_71)) modes_every_5.2)))) = false → ((due_119 = true → (s_109.length + ([x_108] : (List Int)).length ≤ sizeLine)) ∧ (let some_128 : (List Int) := (if due_119 = true then (s_109 ++ ([x_108] : (List Int))) else s_109); (k_110 some_128)))))))))))) modes_every_5.2 some_77 (fun s_80 : (List Int) => ((∀ x_82 ∈ s_80, (((L2.atI s_80 (0 : Int)).isSome = true) ∧ (p_are_like modes_every_5.1 (ixT s_80 (0 : Int)) x_82))) ∧ (((!eqT (List.map (fun x_82 : Int => x_82) (List.filter (fun x_82 => (!(t_are_like modes_every_5.1 (ixT s_80 (0 : Int)) x_82))) s_80)) ([] : (List Int))) = true → (q_ false)) ∧ ((!eqT (List.map (fun x_82 : Int => x_82) (List.filter (fun x_82 => (!(t_are_like modes_every_5.1 (ixT s_80 (0 : Int)) x_82))) s_80)) ([] : (List Int))) = false → (((p_partner_of modes_every_5.1 x_71) ∧ ((!eqT s_80 ([] : (List Int))) = true → ((L2.atI s_80 (0 : Int)).isSome = true))) ∧ (((!eqT (t_partner_of modes_every_5.1 x_71) (if (!eqT s_80 ([] : (List Int))) = true then (some (ixT s_80 (0 : Int))) else (none : (Option Int)))) = true → (q_ false)) ∧ ((!eqT (t_partner_of modes_every_5.1 x_71) (if (!eqT s_80 ([] : (List Int))) = true then (some (ixT s_80 (0 : Int))) else (none : (Option Int)))) = false → ((s_72.length < sizeLine) ∧ (((!eqT s_80 ([] : (List Int))) = true → ((L2.atI s_80 (0 : Int)).isSome = true)) ∧ (let y_89 : (Option Int) := (if (!eqT s_80 ([] : (List Int))) = true then (some (ixT s_80 (0 : Int))) else (none : (Option Int))); (True ∧ (forT (fun (x_94 : Int) (s_95 : Unit) (k_96 : Unit → Prop) => ((((L2.atI free_10 x_71).isSome = true) ∧ ((!eqT (t_is_clashing modes_every_5.1 x_71 x_94) (!inT x_94 (ixT free_10 x_71))) = false → ((p_is_weaker modes_every_5.1 x_71 x_94) ∧ (((L2.atI lower_21 x_71).isSome = true) ∧ ((L2.atI (ixT lower_21 x_71) x_94).isSome = true))))) ∧ ((((!eqT (t_is_clashing modes_every_5.1 x_71 x_94) (!inT x_94 (ixT free_10 x_71))) || (!eqT (t_is_weaker modes_every_5.1 x_71 x_94) (ixT (ixT lower_21 x_71) x_94))) = true → (q_ false)) ∧ (((!eqT (t_is_clashing modes_every_5.1 x_71 x_94) (!inT x_94 (ixT free_10 x_71))) || (!eqT (t_is_weaker modes_every_5.1 x_71 x_94) (ixT (ixT lower_21 x_71) x_94))) = false → (k_96 ()))))) modes_every_5.2 () (fun s_92 : Unit => (k_73 (s_72 ++ [y_89]))))))))))))))))))) modes_every_5.2 dues_23 (fun s_26 : (List (Option Int)) => (((!inT (none : (Option Int)) s_26) = false → ((idxT s_26 (none : (Option Int))).isSome = true)) ∧ (let due_29 : (Str × PyData) := (if (!inT (none : (Option Int)) s_26) = true then (("partners" : Str), (enc (Vec.mk s_26))) else (("none" : Str), (enc (((idxT s_26 (none : (Option Int))).getD 0 : Nat) : Int)))); ((((p_partners_told modes_every_5.1) ∧ (eqOk (t_partners_told modes_every_5.1) due_29)) ∧ ((!eqT (t_partners_told modes_every_5.1) due_29) = false → (p_have_partners modes_every_5.1))) ∧ ((((!eqT (t_partners_told modes_every_5.1) due_29) || (!eqT (t_have_partners modes_every_5.1) (!inT (none : (Option Int)) s_26))) = true → (q_ false)) ∧ (((!eqT (t_partners_told modes_every_5.1) due_29) || (!eqT (t_have_partners modes_every_5.1) (!inT (none : (Option Int)) s_26))) = false → (True ∧ (forT (fun (x_46 : Int) (s_47 : Unit) (k_48 : Unit → Prop) => (True ∧ (forT (fun (x_55 : Int) (s_56 : Unit) (k_57 : Unit → Prop) => (((((L2.atI s_26 x_46).isSome = true) ∧ ((L2.atI s_26 x_55).isSome = true)) ∧ ((!inT (none : (Option Int)) (Vec.mk [(ixT s_26 x_46), (ixT s_26 x_55)] : (Vec (Option Int))).l) = true → ((((L2.atI lower_21 x_46).isSome = true) ∧ ((L2.atI (ixT lower_21 x_46) x_55).isSome = true)) ∧ (((((L2.atI s_26 x_55).isSome = true) ∧ (((ixT s_26 x_55)).isSome = true)) ∧ ((L2.atI lower_21 (Option.getD (ixT s_26 x_55) default)).isSome = true)) ∧ (((L2.atI s_26 x_46).isSome = true) ∧ (((ixT s_26 x_46)).isSome = true)) ∧ ((L2.atI (ixT lower_21 (Option.getD (ixT s_26 x_55) default)) (Option.getD (ixT s_26 x_46) default)).isSome = true))))) ∧ ((((!inT (none : (Option Int)) (Vec.mk [(ixT s_26 x_46), (ixT s_26 x_55)] : (Vec (Option Int))).l) && (!eqT (ixT (ixT lower_21 x_46) x_55) (ixT (ixT lower_21 (Option.getD (ixT s_26 x_55) default)) (Option.getD (ixT s_26 x_46) default)))) = true → (q_ false)) ∧ (((!inT (none : (Option Int)) (Vec.mk [(ixT s_26 x_46), (ixT s_26 x_55)] : (Vec (Option Int))).l) && (!eqT (ixT (ixT lower_21 x_46) x_55) (ixT (ixT lower_21 (Option.getD (ixT s_26 x_55) default)) (Option.getD (ixT s_26 x_46) default)))) = false → (((!inT (none : (Option Int)) s_26) = true → ((((L2.atI lower_21 x_46).isSome = true) ∧ ((L2.atI (ixT lower_21 x_46) x_55).isSome = true)) ∧ (((L2.atI s_26 x_55).isSome = true) ∧ ((L2.atI free_10 x_46).isSome = true)))) ∧ ((((!inT (none : (Option Int)) s_26) && (!eqT (ixT (ixT lower_21 x_46) x_55) (inT (ixT s_26 x_55) (List.map (fun y_ : Int => (some y_)) (ixT free_10 x_46))))) = true → (q_ false)) ∧ (((!inT (none : (Option Int)) s_26) && (!eqT (ixT (ixT lower_21 x_46) x_55) (inT (ixT s_26 x_55) (List.map (fun y_ : Int => (some y_)) (ixT free_10 x_46))))) = false → (k_57 ())))))))) modes_every_5.2 () (fun s_53 : Unit => (k_48 ()))))) modes_every_5.2 () (fun s_34 : Unit => (let told_36 : (List ((Vec Str) × (Vec (Str × Str)))) := ([((Vec.mk [("n" : Str), ("x" : Str)] : (Vec Str)), (Vec.mk [(("x" : Str), ("x" : Str))] : (Vec (Str × Str)))), ((Vec.mk [("n" : Str), ("s" : Str), ("x" : Str)] : (Vec Str)), (Vec.mk [(("s" : Str), ("x" : Str)), (("x" : Str), ("x" : Str))] : (Vec (Str × Str))))] : (List ((Vec Str) × (Vec (Str × Str))))); ((told_36.length + ([((Vec.mk [("n" : Str), ("a" : Str), ("b" : Str)] : (Vec Str)), (Vec.mk [(("a" : Str), ("a" : Str)), (("b" : Str), ("b" : Str))] : (Vec (Str × Str)))), ((Vec.mk [("n" : Str), ("i" : Str)] : (Vec Str)), (Vec.mk [] : (Vec (Str × Str)))), ((Vec.mk [("n" : Str), ("s" : Str), ("t" : Str)] : (Vec Str)), (Vec.mk [(("s" : Str), ("s" : Str))] : (Vec (Str × Str))))] : (List ((Vec Str) × (Vec (Str × Str))))).length ≤ sizeLine) ∧ (let told_38 : (List ((Vec Str) × (Vec (Str × Str)))) := (told_36 ++ ([((Vec.mk [("n" : Str), ("a" : Str), ("b" : Str)] : (Vec Str)), (Vec.mk [(("a" : Str), ("a" : Str)), (("b" : Str), ("b" : Str))] : (Vec (Str × Str)))), ((Vec.mk [("n" : Str), ("i" : Str)] : (Vec Str)), (Vec.mk [] : (Vec (Str × Str)))), ((Vec.mk [("n" : Str), ("s" : Str), ("t" : Str)] : (Vec Str)), (Vec.mk [(("s" : Str), ("s" : Str))] : (Vec (Str × Str))))] : (List ((Vec Str) × (Vec (Str × Str)))))); (let due_40 : (List (Str × PyData)) := ([(("partners" : Str), (enc ((1 : Int), (0 : Int)))), (("partners" : Str), (enc (T3.mk (2 : Int) (1 : Int) (0 : Int)))), (("none" : Str), (enc (0 : Int))), (("partners" : Str), (enc ((0 : Int), (0 : Int)))), (("partners" : Str), (enc (T3.mk (1 : Int) (0 : Int) (1 : Int))))] : (List (Str × PyData))); (((∀ x_42 ∈ told_38, ((p_modes_told x_42.1 (Vec.mk (List.map (fun y_ : (Str × Str) => (Vec.mk [y_.1, y_.2] : (Vec Str))) x_42.2.l))) ∧ (p_partners_told (t_modes_told x_42.1 (Vec.mk (List.map (fun y_ : (Str × Str) => (Vec.mk [y_.1, y_.2] : (Vec Str))) x_42.2.l)))))) ∧ (eqOk (List.map (fun x_42 : ((Vec Str) × (Vec (Str × Str))) => (t_partners_told (t_modes_told x_42.1 (Vec.mk (List.map (fun y_ : (Str × Str) => (Vec.mk [y_.1, y_.2] : (Vec Str))) x_42.2.l))))) told_38) due_40)) ∧ (q_ (eqT (List.map (fun x_42 : ((Vec Str) × (Vec (Str × Str))) => (t_partners_told (t_modes_told x_42.1 (Vec.mk (List.map (fun y_ : (Str × Str) => (Vec.mk [y_.1, y_.2] : (Vec Str))) x_42.2.l))))) told_38) due_40)))))))))))))))))))) (wE' (a := (([] : (List (Option Int))) : (List (Option Int)))) (oLst (aN) (by show 0 ≤ sizeLine; decide))) h_22 (fun dues_23 h_24 => seqFor (step := (fun (x_71 : Int) (s_72 : (List (Option Int))) (k_73 : (List (Option Int)) → Prop) => (let some_77 : (List Int) := ([] : (List Int)); (True ∧ (forT (fun (x_108 : Int) (s_109 : (List Int)) (k_110 : (List Int) → Prop) => ((((L2.atI free_10 x_71).isSome = true) ∧ ((inT x_108 (ixT free_10 x_71)) = true → (∀ x_114 ∈ modes_every_5.2, ((((L2.atI lower_21 x_114).isSome = true) ∧ ((L2.atI (ixT lower_21 x_114) x_71).isSome = true)) ∧ ((!(ixT (ixT lower_21 x_114) x_71)) = true → ((L2.atI free_10 x_108).isSome = true)))))) ∧ (let due_119 : Bool := ((inT x_108 (ixT free_10 x_71)) && (eqT (List.map (fun x_114 : Int => x_114) (List.filter (fun x_114 => ((!(ixT (ixT lower_21 x_114) x_71)) && (inT x_114 (ixT free_10 x_108)))) modes_every_5.2)) ([] : (List Int)))); ((p_is_partner modes_every_5.1 x_71 x_108) ∧ (((!eqT (t_is_partner modes_every_5.1 x_71 x_108) due_119) = true → (q_ false)) ∧ ((!eqT (t_is_partner modes_every_5.1 x_71 x_108) due_119) = false → ((due_119 = true → (((L2.atI free_10 x_108).isSome = true) ∧ (∀ x_122 ∈ modes_every_5.2, (((L2.atI lower_21 x_122).isSome = true) ∧ ((L2.atI (ixT lower_21 x_122) x_71).isSome = true))))) ∧ (((due_119 && (!eqT (ixT free_10 x_108) (List.map (fun x_122 : Int => x_122) (List.filter (fun x_122 => (ixT (ixT lower_21 x_122) x_71)) modes_every_5.2)))) = true → (q_ false)) ∧ ((due_119 && (!eqT (ixT free_10 x_108) (List.map (fun x_122 : Int => x_122) (List.filter (fun x_122 => (ixT (ixT lower_21 x_122) x_71)) modes_every_5.2)))) = false → ((due_119 = true → (s_109.length + ([x_108] : (List Int)).length ≤ sizeLine)) ∧ (let some_128 : (List Int) := (if due_119 = true then (s_109 ++ ([x_108] : (List Int))) else s_109); (k_110 some_128)))))))))))) modes_every_5.2 some_77 (fun s_80 : (List Int) => ((∀ x_82 ∈ s_80, (((L2.atI s_80 (0 : Int)).isSome = true) ∧ (p_are_like modes_every_5.1 (ixT s_80 (0 : Int)) x_82))) ∧ (((!eqT (List.map (fun x_82 : Int => x_82) (List.filter (fun x_82 => (!(t_are_like modes_every_5.1 (ixT s_80 (0 : Int)) x_82))) s_80)) ([] : (List Int))) = true → (q_ false)) ∧ ((!eqT (List.map (fun x_82 : Int => x_82) (List.filter (fun x_82 => (!(t_are_like modes_every_5.1 (ixT s_80 (0 : Int)) x_82))) s_80)) ([] : (List Int))) = false → (((p_partner_of modes_every_5.1 x_71) ∧ ((!eqT s_80 ([] : (List Int))) = true → ((L2.atI s_80 (0 : Int)).isSome = true))) ∧ (((!eqT (t_partner_of modes_every_5.1 x_71) (if (!eqT s_80 ([] : (List Int))) = true then (some (ixT s_80 (0 : Int))) else (none : (Option Int)))) = true → (q_ false)) ∧ ((!eqT (t_partner_of modes_every_5.1 x_71) (if (!eqT s_80 ([] : (List Int))) = true then (some (ixT s_80 (0 : Int))) else (none : (Option Int)))) = false → ((s_72.length < sizeLine) ∧ (((!eqT s_80 ([] : (List Int))) = true → ((L2.atI s_80 (0 : Int)).isSome = true)) ∧ (let y_89 : (Option Int) := (if (!eqT s_80 ([] : (List Int))) = true then (some (ixT s_80 (0 : Int))) else (none : (Option Int))); (True ∧ (forT (fun (x_94 : Int) (s_95 : Unit) (k_96 : Unit → Prop) => ((((L2.atI free_10 x_71).isSome = true) ∧ ((!eqT (t_is_clashing modes_every_5.1 x_71 x_94) (!inT x_94 (ixT free_10 x_71))) = false → ((p_is_weaker modes_every_5.1 x_71 x_94) ∧ (((L2.atI lower_21 x_71).isSome = true) ∧ ((L2.atI (ixT lower_21 x_71) x_94).isSome = true))))) ∧ ((((!eqT (t_is_clashing modes_every_5.1 x_71 x_94) (!inT x_94 (ixT free_10 x_71))) || (!eqT (t_is_weaker modes_every_5.1 x_71 x_94) (ixT (ixT lower_21 x_71) x_94))) = true → (q_ false)) ∧ (((!eqT (t_is_clashing modes_every_5.1 x_71 x_94) (!inT x_94 (ixT free_10 x_71))) || (!eqT (t_is_weaker modes_every_5.1 x_71 x_94) (ixT (ixT lower_21 x_71) x_94))) = false → (k_96 ()))))) modes_every_5.2 () (fun s_92 : Unit => (k_73 (s_72 ++ [y_89])))))))))))))))))))) (fun s_25 : (List (Option Int)) => [.val .scr, .val (.src n_1), .val (.d (enc names_pairs_3.1)), .val (.d (enc names_pairs_3.2)), .val (.d (enc modes_every_5.1)), .val (.d (enc modes_every_5.2)), .val (.d (enc free_10)), .emp, .val (.d (enc lower_21)), .emp, .emp, .emp, .own (enc s_25), .emp, .emp, .emp, .emp, .emp]) dues_23 (fun s_26 : (List (Option Int)) => (((!inT (none : (Option Int)) s_26) = false → ((idxT s_26 (none : (Option Int))).isSome = true)) ∧ (let due_29 : (Str × PyData) := (if (!inT (none : (Option Int)) s_26) = true then (("partners" : Str), (enc (Vec.mk s_26))) else (("none" : Str), (enc (((idxT s_26 (none : (Option Int))).getD 0 : Nat) : Int)))); ((((p_partners_told modes_every_5.1) ∧ (eqOk (t_partners_told modes_every_5.1) due_29)) ∧ ((!eqT (t_partners_told modes_every_5.1) due_29) = false → (p_have_partners modes_every_5.1))) ∧ ((((!eqT (t_partners_told modes_every_5.1) due_29) || (!eqT (t_have_partners modes_every_5.1) (!inT (none : (Option Int)) s_26))) = true → (q_ false)) ∧ (((!eqT (t_partners_told modes_every_5.1) due_29) || (!eqT (t_have_partners modes_every_5.1) (!inT (none : (Option Int)) s_26))) = false → (True ∧ (forT (fun (x_46 : Int) (s_47 : Unit) (k_48 : Unit → Prop) => (True ∧ (forT (fun (x_55 : Int) (s_56 : Unit) (k_57 : Unit → Prop) => (((((L2.atI s_26 x_46).isSome = true) ∧ ((L2.atI s_26 x_55).isSome = true)) ∧ ((!inT (none : (Option Int)) (Vec.mk [(ixT s_26 x_46), (ixT s_26 x_55)] : (Vec (Option Int))).l) = true → ((((L2.atI lower_21 x_46).isSome = true) ∧ ((L2.atI (ixT lower_21 x_46) x_55).isSome = true)) ∧ (((((L2.atI s_26 x_55).isSome = true) ∧ (((ixT s_26 x_55)).isSome = true)) ∧ ((L2.atI lower_21 (Option.getD (ixT s_26 x_55) default)).isSome = true)) ∧ (((L2.atI s_26 x_46).isSome = true) ∧ (((ixT s_26 x_46)).isSome = true)) ∧ ((L2.atI (ixT lower_21 (Option.getD (ixT s_26 x_55) default)) (Option.getD (ixT s_26 x_46) default)).isSome = true))))) ∧ ((((!inT (none : (Option Int)) (Vec.mk [(ixT s_26 x_46), (ixT s_26 x_55)] : (Vec (Option Int))).l) && (!eqT (ixT (ixT lower_21 x_46) x_55) (ixT (ixT lower_21 (Option.getD (ixT s_26 x_55) default)) (Option.getD (ixT s_26 x_46) default)))) = true → (q_ false)) ∧ (((!inT (none : (Option Int)) (Vec.mk [(ixT s_26 x_46), (ixT s_26 x_55)] : (Vec (Option Int))).l) && (!eqT (ixT (ixT lower_21 x_46) x_55) (ixT (ixT lower_21 (Option.getD (ixT s_26 x_55) default)) (Option.getD (ixT s_26 x_46) default)))) = false → (((!inT (none : (Option Int)) s_26) = true → ((((L2.atI lower_21 x_46).isSome = true) ∧ ((L2.atI (ixT lower_21 x_46) x_55).isSome = true)) ∧ (((L2.atI s_26 x_55).isSome = true) ∧ ((L2.atI free_10 x_46).isSome = true)))) ∧ ((((!inT (none : (Option Int)) s_26) && (!eqT (ixT (ixT lower_21 x_46) x_55) (inT (ixT s_26 x_55) (List.map (fun y_ : Int => (some y_)) (ixT free_10 x_46))))) = true → (q_ false)) ∧ (((!inT (none : (Option Int)) s_26) && (!eqT (ixT (ixT lower_21 x_46) x_55) (inT (ixT s_26 x_55) (List.map (fun y_ : Int => (some y_)) (ixT free_10 x_46))))) = false → (k_57 ())))))))) modes_every_5.2 () (fun s_53 : Unit => (k_48 ()))))) modes_every_5.2 () (fun s_34 : Unit => (let told_36 : (List ((Vec Str) × (Vec (Str × Str)))) := ([((Vec.mk [("n" : Str), ("x" : Str)] : (Vec Str)), (Vec.mk [(("x" : Str), ("x" : Str))] : (Vec (Str × Str)))), ((Vec.mk [("n" : Str), ("s" : Str), ("x" : Str)] : (Vec Str)), (Vec.mk [(("s" : Str), ("x" : Str)), (("x" : Str), ("x" : Str))] : (Vec (Str × Str))))] : (List ((Vec Str) × (Vec (Str × Str))))); ((told_36.length + ([((Vec.mk [("n" : Str), ("a" : Str), ("b" : Str)] : (Vec Str)), (Vec.mk [(("a" : Str), ("a" : Str)), (("b" : Str), ("b" : Str))] : (Vec (Str × Str)))), ((Vec.mk [("n" : Str), ("i" : Str)] : (Vec Str)), (Vec.mk [] : (Vec (Str × Str)))), ((Vec.mk [("n" : Str), ("s" : Str), ("t" : Str)] : (Vec Str)), (Vec.mk [(("s" : Str), ("s" : Str))] : (Vec (Str × Str))))] : (List ((Vec Str) × (Vec (Str × Str))))).length ≤ sizeLine) ∧ (let told_38 : (List ((Vec Str) × (Vec (Str × Str)))) := (told_36 ++ ([((Vec.mk [("n" : Str), ("a" : Str), ("b" : Str)] : (Vec Str)), (Vec.mk [(("a" : Str), ("a" : Str)), (("b" : Str), ("b" : Str))] : (Vec (Str × Str)))), ((Vec.mk [("n" : Str), ("i" : Str)] : (Vec Str)), (Vec.mk [] : (Vec (Str × Str)))), ((Vec.mk [("n" : Str), ("s" : Str), ("t" : Str)] : (Vec Str)), (Vec.mk [(("s" : Str), ("s" : Str))] : (Vec (Str × Str))))] : (List ((Vec Str) × (Vec (Str × Str)))))); (let due_40 : (List (Str × PyData)) := ([(("partners" : Str), (enc ((1 : Int), (0 : Int)))), (("partners" : Str), (enc (T3.mk (2 : Int) (1 : Int) (0 : Int)))), (("none" : Str), (enc (0 : Int))), (("partners" : Str), (enc ((0 : Int), (0 : Int)))), (("partners" : Str), (enc (T3.mk (1 : Int) (0 : Int) (1 : Int))))] : (List (Str × PyData))); (((∀ x_42 ∈ told_38, ((p_modes_told x_42.1 (Vec.mk (List.map (fun y_ : (Str × Str) => (Vec.mk [y_.1, y_.2] : (Vec Str))) x_42.2.l))) ∧ (p_partners_told (t_modes_told x_42.1 (Vec.mk (List.map (fun y_ : (Str × Str) => (Vec.mk [y_.1, y_.2] : (Vec Str))) x_42.2.l)))))) ∧ (eqOk (List.map (fun x_42 : ((Vec Str) × (Vec (Str × Str))) => (t_partners_told (t_modes_told x_42.1 (Vec.mk (List.map (fun y_ : (Str × Str) => (Vec.mk [y_.1, y_.2] : (Vec Str))) x_42.2.l))))) told_38) due_40)) ∧ (q_ (eqT (List.map (fun x_42 : ((Vec Str) × (Vec (Str × Str))) => (t_partners_told (t_modes_told x_42.1 (Vec.mk (List.map (fun y_ : (Str × Str) => (Vec.mk [y_.1, y_.2] : (Vec Str))) x_42.2.l))))) told_38) due_40)))))))))))))))) (wIp (xs := modes_every_5.2) (P := True) (fun h_ => iL (oV rfl))) rfl h_24 (fun s_26 h_27 => wSeqN (k := (fun due_29 : (Str × PyData) => ((((p_partners_told modes_every_5.1) ∧ (eqOk (t_partners_told modes_every_5.1) due_29)) ∧ ((!eqT (t_partners_told modes_every_5.1) due_29) = false → (p_have_partners modes_every_5.1))) ∧ ((((!eqT (t_partners_told modes_every_5.1) due_29) || (!eqT (t_have_partners modes_every_5.1) (!inT (none : (Option Int)) s_26))) = true → (q_ false)) ∧ (((!eqT (t_partners_told modes_every_5.1) due_29) || (!eqT (t_have_partners modes_every_5.1) (!inT (none : (Option Int)) s_26))) = false → (True ∧ (forT (fun (x_46 : Int) (s_47 : Unit) (k_48 : Unit → Prop) => (True ∧ (forT (fun (x_55 : Int) (s_56 : Unit) (k_57 : Unit → Prop) => (((((L2.atI s_26 x_46).isSome = true) ∧ ((L2.atI s_26 x_55).isSome = true)) ∧ ((!inT (none : (Option Int)) (Vec.mk [(ixT s_26 x_46), (ixT s_26 x_55)] : (Vec (Option Int))).l) = true → ((((L2.atI lower_21 x_46).isSome = true) ∧ ((L2.atI (ixT lower_21 x_46) x_55).isSome = true)) ∧ (((((L2.atI s_26 x_55).isSome = true) ∧ (((ixT s_26 x_55)).isSome = true)) ∧ ((L2.atI lower_21 (Option.getD (ixT s_26 x_55) default)).isSome = true)) ∧ (((L2.atI s_26 x_46).isSome = true) ∧ (((ixT s_26 x_46)).isSome = true)) ∧ ((L2.atI (ixT lower_21 (Option.getD (ixT s_26 x_55) default)) (Option.getD (ixT s_26 x_46) default)).isSome = true))))) ∧ ((((!inT (none : (Option Int)) (Vec.mk [(ixT s_26 x_46), (ixT s_26 x_55)] : (Vec (Option Int))).l) && (!eqT (ixT (ixT lower_21 x_46) x_55) (ixT (ixT lower_21 (Option.getD (ixT s_26 x_55) default)) (Option.getD (ixT s_26 x_46) default)))) = true → (q_ false)) ∧ (((!inT (none : (Option Int)) (Vec.mk [(ixT s_26 x_46), (ixT s_26 x_55)] : (Vec (Option Int))).l) && (!eqT (ixT (ixT lower_21 x_46) x_55) (ixT (ixT lower_21 (Option.getD (ixT s_26 x_55) default)) (Option.getD (ixT s_26 x_46) default)))) = false → (((!inT (none : (Option Int)) s_26) = true → ((((L2.atI lower_21 x_46).isSome = true) ∧ ((L2.atI (ixT lower_21 x_46) x_55).isSome = true)) ∧ (((L2.atI s_26 x_55).isSome = true) ∧ ((L2.atI free_10 x_46).isSome = true)))) ∧ ((((!inT (none : (Option Int)) s_26) && (!eqT (ixT (ixT lower_21 x_46) x_55) (inT (ixT s_26 x_55) (List.map (fun y_ : Int => (some y_)) (ixT free_10 x_46))))) = true → (q_ false)) ∧ (((!inT (none : (Option Int)) s_26) && (!eqT (ixT (ixT lower_21 x_46) x_55) (inT (ixT s_26 x_55) (List.map (fun y_ : Int => (some y_)) (ixT free_10 x_46))))) = false → (k_57 ())))))))) modes_every_5.2 () (fun s_53 : Unit => (k_48 ()))))) modes_every_5.2 () (fun s_34 : Unit => (let told_36 : (List ((Vec Str) × (Vec (Str × Str)))) := ([((Vec.mk [("n" : Str), ("x" : Str)] : (Vec Str)), (Vec.mk [(("x" : Str), ("x" : Str))] : (Vec (Str × Str)))), ((Vec.mk [("n" : Str), ("s" : Str), ("x" : Str)] : (Vec Str)), (Vec.mk [(("s" : Str), ("x" : Str)), (("x" : Str), ("x" : Str))] : (Vec (Str × Str))))] : (List ((Vec Str) × (Vec (Str × Str))))); ((told_36.length + ([((Vec.mk [("n" : Str), ("a" : Str), ("b" : Str)] : (Vec Str)), (Vec.mk [(("a" : Str), ("a" : Str)), (("b" : Str), ("b" : Str))] : (Vec (Str × Str)))), ((Vec.mk [("n" : Str), ("i" : Str)] : (Vec Str)), (Vec.mk [] : (Vec (Str × Str)))), ((Vec.mk [("n" : Str), ("s" : Str), ("t" : Str)] : (Vec Str)), (Vec.mk [(("s" : Str), ("s" : Str))] : (Vec (Str × Str))))] : (List ((Vec Str) × (Vec (Str × Str))))).length ≤ sizeLine) ∧ (let told_38 : (List ((Vec Str) × (Vec (Str × Str)))) := (told_36 ++ ([((Vec.mk [("n" : Str), ("a" : Str), ("b" : Str)] : (Vec Str)), (Vec.mk [(("a" : Str), ("a" : Str)), (("b" : Str), ("b" : Str))] : (Vec (Str × Str)))), ((Vec.mk [("n" : Str), ("i" : Str)] : (Vec Str)), (Vec.mk [] : (Vec (Str × Str)))), ((Vec.mk [("n" : Str), ("s" : Str), ("t" : Str)] : (Vec Str)), (Vec.mk [(("s" : Str), ("s" : Str))] : (Vec (Str × Str))))] : (List ((Vec Str) × (Vec (Str × Str)))))); (let due_40 : (List (Str × PyData)) := ([(("partners" : Str), (enc ((1 : Int), (0 : Int)))), (("partners" : Str), (enc (T3.mk (2 : Int) (1 : Int) (0 : Int)))), (("none" : Str), (enc (0 : Int))), (("partners" : Str), (enc ((0 : Int), (0 : Int)))), (("partners" : Str), (enc (T3.mk (1 : Int) (0 : Int) (1 : Int))))] : (List (Str × PyData))); (((∀ x_42 ∈ told_38, ((p_modes_told x_42.1 (Vec.mk (List.map (fun y_ : (Str × Str) => (Vec.mk [y_.1, y_.2] : (Vec Str))) x_42.2.l))) ∧ (p_partners_told (t_modes_told x_42.1 (Vec.mk (List.map (fun y_ : (Str × Str) => (Vec.mk [y_.1, y_.2] : (Vec Str))) x_42.2.l)))))) ∧ (eqOk (List.map (fun x_42 : ((Vec Str) × (Vec (Str × Str))) => (t_partners_told (t_modes_told x_42.1 (Vec.mk (List.map (fun y_ : (Str × Str) => (Vec.mk [y_.1, y_.2] : (Vec Str))) x_42.2.l))))) told_38) due_40)) ∧ (q_ (eqT (List.map (fun x_42 : ((Vec Str) × (Vec (Str × Str))) => (t_partners_told (t_modes_told x_42.1 (Vec.mk (List.map (fun y_ : (Str × Str) => (Vec.mk [y_.1, y_.2] : (Vec Str))) x_42.2.l))))) told_38) due_40))))))))))))))) (wE (a := ((if (!inT (none : (Option Int)) s_26) = true then (("partners" : Str), (enc (Vec.mk s_26))) else (("none" : Str), (enc (((idxT s_26 (none : (Option Int))).getD 0 : Nat) : Int)))) : (Str × PyData))) (P := ((!inT (none : (Option Int)) s_26) = false → ((idxT s_26 (none : (Option Int))).isSome = true))) (fun h_ => oIte (x := (("partners" : Str), (enc (Vec.mk s_26)))) (y := (("none" : Str), (enc (((idxT s_26 (none : (Option Int))).getD 0 : Nat) : Int)))) (tT (oNiL (oC) (oO rfl) (inOk_no _ _))) (fun hc_28 => oTup (aC (oC) (aC (bTupL (oO rfl)) (aN))) (by show 2 ≤ sizeLine; decide)) (fun hc_28 => oTup (aC (oC) (aC (oIndex (oO rfl) (oC) (inOk_no _ _) (h_ hc_28)) (aN))) (by show 2 ≤ sizeLine; decide)))) h_27 (fun due_29 h_30 => wSeqI (k := (fun b_69 : Bool => (b_69 = true → (q_ false)) ∧ (b_69 = false → (True ∧ (forT (fun (x_46 : Int) (s_47 : Unit) (k_48 : Unit → Prop) => (True ∧ (forT (fun (x_55 : Int) (s_56 : Unit) (k_57 : Unit → Prop) => (((((L2.atI s_26 x_46).isSome = true) ∧ ((L2.atI s_26 x_55).isSome = true)) ∧ ((!inT (none : (Option Int)) (Vec.mk [(ixT s_26 x_46), (ixT s_26 x_55)] : (Vec (Option Int))).l) = true → ((((L2.atI lower_21 x_46).isSome = true) ∧ ((L2.atI (ixT lower_21 x_46) x_55).isSome = true)) ∧ (((((L2.atI s_26 x_55).isSome = true) ∧ (((ixT s_26 x_55)).isSome = true)) ∧ ((L2.atI lower_21 (Option.getD (ixT s_26 x_55) default)).isSome = true)) ∧ (((L2.atI s_26 x_46).isSome = true) ∧ (((ixT s_26 x_46)).isSome = true)) ∧ ((L2.atI (ixT lower_21 (Option.getD (ixT s_26 x_55) default)) (Option.getD (ixT s_26 x_46) default)).isSome = true))))) ∧ ((((!inT (none : (Option Int)) (Vec.mk [(ixT s_26 x_46), (ixT s_26 x_55)] : (Vec (Option Int))).l) && (!eqT (ixT (ixT lower_21 x_46) x_55) (ixT (ixT lower_21 (Option.getD (ixT s_26 x_55) default)) (Option.getD (ixT s_26 x_46) default)))) = true → (q_ false)) ∧ (((!inT (none : (Option Int)) (Vec.mk [(ixT s_26 x_46), (ixT s_26 x_55)] : (Vec (Option Int))).l) && (!eqT (ixT (ixT lower_21 x_46) x_55) (ixT (ixT lower_21 (Option.getD (ixT s_26 x_55) default)) (Option.getD (ixT s_26 x_46) default)))) = false → (((!inT (none : (Option Int)) s_26) = true → ((((L2.atI lower_21 x_46).isSome = true) ∧ ((L2.atI (ixT lower_21 x_46) x_55).isSome = true)) ∧ (((L2.atI s_26 x_55).isSome = true) ∧ ((L2.atI free_10 x_46).isSome = true)))) ∧ ((((!inT (none : (Option Int)) s_26) && (!eqT (ixT (ixT lower_21 x_46) x_55) (inT (ixT s_26 x_55) (List.map (fun y_ : Int => (some y_)) (ixT free_10 x_46))))) = true → (q_ false)) ∧ (((!inT (none : (Option Int)) s_26) && (!eqT (ixT (ixT lower_21 x_46) x_55) (inT (ixT s_26 x_55) (List.map (fun y_ : Int => (some y_)) (ixT free_10 x_46))))) = false → (k_57 ())))))))) modes_every_5.2 () (fun s_53 : Unit => (k_48 ()))))) modes_every_5.2 () (fun s_34 : Unit => (let told_36 : (List ((Vec Str) × (Vec (Str × Str)))) := ([((Vec.mk [("n" : Str), ("x" : Str)] : (Vec Str)), (Vec.mk [(("x" : Str), ("x" : Str))] : (Vec (Str × Str)))), ((Vec.mk [("n" : Str), ("s" : Str), ("x" : Str)] : (Vec Str)), (Vec.mk [(("s" : Str), ("x" : Str)), (("x" : Str), ("x" : Str))] : (Vec (Str × Str))))] : (List ((Vec Str) × (Vec (Str × Str))))); ((told_36.length + ([((Vec.mk [("n" : Str), ("a" : Str), ("b" : Str)] : (Vec Str)), (Vec.mk [(("a" : Str), ("a" : Str)), (("b" : Str), ("b" : Str))] : (Vec (Str × Str)))), ((Vec.mk [("n" : Str), ("i" : Str)] : (Vec Str)), (Vec.mk [] : (Vec (Str × Str)))), ((Vec.mk [("n" : Str), ("s" : Str), ("t" : Str)] : (Vec Str)), (Vec.mk [(("s" : Str), ("s" : Str))] : (Vec (Str × Str))))] : (List ((Vec Str) × (Vec (Str × Str))))).length ≤ sizeLine) ∧ (let told_38 : (List ((Vec Str) × (Vec (Str × Str)))) := (told_36 ++ ([((Vec.mk [("n" : Str), ("a" : Str), ("b" : Str)] : (Vec Str)), (Vec.mk [(("a" : Str), ("a" : Str)), (("b" : Str), ("b" : Str))] : (Vec (Str × Str)))), ((Vec.mk [("n" : Str), ("i" : Str)] : (Vec Str)), (Vec.mk [] : (Vec (Str × Str)))), ((Vec.mk [("n" : Str), ("s" : Str), ("t" : Str)] : (Vec Str)), (Vec.mk [(("s" : Str), ("s" : Str))] : (Vec (Str × Str))))] : (List ((Vec Str) × (Vec (Str × Str)))))); (let due_40 : (List (Str × PyData)) := ([(("partners" : Str), (enc ((1 : Int), (0 : Int)))), (("partners" : Str), (enc (T3.mk (2 : Int) (1 : Int) (0 : Int)))), (("none" : Str), (enc (0 : Int))), (("partners" : Str), (enc ((0 : Int), (0 : Int)))), (("partners" : Str), (enc (T3.mk (1 : Int) (0 : Int) (1 : Int))))] : (List (Str × PyData))); (((∀ x_42 ∈ told_38, ((p_modes_told x_42.1 (Vec.mk (List.map (fun y_ : (Str × Str) => (Vec.mk [y_.1, y_.2] : (Vec Str))) x_42.2.l))) ∧ (p_partners_told (t_modes_told x_42.1 (Vec.mk (List.map (fun y_ : (Str × Str) => (Vec.mk [y_.1, y_.2] : (Vec Str))) x_42.2.l)))))) ∧ (eqOk (List.map (fun x_42 : ((Vec Str) × (Vec (Str × Str))) => (t_partners_told (t_modes_told x_42.1 (Vec.mk (List.map (fun y_ : (Str × Str) => (Vec.mk [y_.1, y_.2] : (Vec Str))) x_42.2.l))))) told_38) due_40)) ∧ (q_ (eqT (List.map (fun x_42 : ((Vec Str) × (Vec (Str × Str))) => (t_partners_told (t_modes_told x_42.1 (Vec.mk (List.map (fun y_ : (Str × Str) => (Vec.mk [y_.1, y_.2] : (Vec Str))) x_42.2.l))))) told_38) due_40))))))))))))) (wTb (b := ((!eqT (t_partners_told modes_every_5.1) due_29) || (!eqT (t_have_partners modes_every_5.1) (!inT (none : (Option Int)) s_26)))) (P := (((p_partners_told modes_every_5.1) ∧ (eqOk (t_partners_told modes_every_5.1) due_29)) ∧ ((!eqT (t_partners_told modes_every_5.1) due_29) = false → (p_have_partners modes_every_5.1)))) (fun h_ => tOr' (tT (oNe (oCall (aC (oV rfl) (aN)) rfl (ok_partners_told modes_every_5.1 h_.1.1)) (oV rfl) h_.1.2)) (fun hb_31 => tT (oNe (oCall (aC (oV rfl) (aN)) rfl (ok_have_partners modes_every_5.1 (h_.2 hb_31))) (oNiL (oC) (oO rfl) (inOk_no _ _)) eqOk_bool)))) h_30 (fun h_70 => wEndR (k := q_) (wE' (a := (false : Bool)) (oC)) (h_70.1 rfl) hq_) (fun h_70 => seqFor (step := (fun (x_46 : Int) (s_47 : Unit) (k_48 : Unit → Prop) => (True ∧ (forT (fun (x_55 : Int) (s_56 : Unit) (k_57 : Unit → Prop) => (((((L2.atI s_26 x_46).isSome = true) ∧ ((L2.atI s_26 x_55).isSome = true)) ∧ ((!inT (none : (Option Int)) (Vec.mk [(ixT s_26 x_46), (ixT s_26 x_55)] : (Vec (Option Int))).l) = true → ((((L2.atI lower_21 x_46).isSome = true) ∧ ((L2.atI (ixT lower_21 x_46) x_55).isSome = true)) ∧ (((((L2.atI s_26 x_55).isSome = true) ∧ (((ixT s_26 x_55)).isSome = true)) ∧ ((L2.atI lower_21 (Option.getD (ixT s_26 x_55) default)).isSome = true)) ∧ (((L2.atI s_26 x_46).isSome = true) ∧ (((ixT s_26 x_46)).isSome = true)) ∧ ((L2.atI (ixT lower_21 (Option.getD (ixT s_26 x_55) default)) (Option.getD (ixT s_26 x_46) default)).isSome = true))))) ∧ ((((!inT (none : (Option Int)) (Vec.mk [(ixT s_26 x_46), (ixT s_26 x_55)] : (Vec (Option Int))).l) && (!eqT (ixT (ixT lower_21 x_46) x_55) (ixT (ixT lower_21 (Option.getD (ixT s_26 x_55) default)) (Option.getD (ixT s_26 x_46) default)))) = true → (q_ false)) ∧ (((!inT (none : (Option Int)) (Vec.mk [(ixT s_26 x_46), (ixT s_26 x_55)] : (Vec (Option Int))).l) && (!eqT (ixT (ixT lower_21 x_46) x_55) (ixT (ixT lower_21 (Option.getD (ixT s_26 x_55) default)) (Option.getD (ixT s_26 x_46) default)))) = false → (((!inT (none : (Option Int)) s_26) = true → ((((L2.atI lower_21 x_46).isSome = true) ∧ ((L2.atI (ixT lower_21 x_46) x_55).isSome = true)) ∧ (((L2.atI s_26 x_55).isSome = true) ∧ ((L2.atI free_10 x_46).isSome = true)))) ∧ ((((!inT (none : (Option Int)) s_26) && (!eqT (ixT (ixT lower_21 x_46) x_55) (inT (ixT s_26 x_55) (List.map (fun y_ : Int => (some y_)) (ixT free_10 x_46))))) = true → (q_ false)) ∧ (((!inT (none : (Option Int)) s_26) && (!eqT (ixT (ixT lower_21 x_46) x_55) (inT (ixT s_26 x_55) (List.map (fun y_ : Int => (some y_)) (ixT free_10 x_46))))) = false → (k_57 ())))))))) modes_every_5.2 () (fun s_53 : Unit => (k_48 ())))))) (fun s_33 : Unit => [.val .scr, .val (.src n_1), .val (.d (enc names_pairs_3.1)), .val (.d (enc names_pairs_3.2)), .val (.d (enc modes_every_5.1)), .val (.d (enc modes_every_5.2)), .val (.d (enc free_10)), .emp, .val (.d (enc lower_21)), .emp, .emp, .emp, .own (enc s_26), .emp, .emp, .val (.d (enc due_29)), .emp, .emp]) () (fun s_34 : Unit => (let told_36 : (List ((Vec Str) × (Vec (Str × Str)))) := ([((Vec.mk [("n" : Str), ("x" : Str)] : (Vec Str)), (Vec.mk [(("x" : Str), ("x" : Str))] : (Vec (Str × Str)))), ((Vec.mk [("n" : Str), ("s" : Str), ("x" : Str)] : (Vec Str)), (Vec.mk [(("s" : Str), ("x" : Str)), (("x" : Str), ("x" : Str))] : (Vec (Str × Str))))] : (List ((Vec Str) × (Vec (Str × Str))))); ((told_36.length + ([((Vec.mk [("n" : Str), ("a" : Str), ("b" : Str)] : (Vec Str)), (Vec.mk [(("a" : Str), ("a" : Str)), (("b" : Str), ("b" : Str))] : (Vec (Str × Str)))), ((Vec.mk [("n" : Str), ("i" : Str)] : (Vec Str)), (Vec.mk [] : (Vec (Str × Str)))), ((Vec.mk [("n" : Str), ("s" : Str), ("t" : Str)] : (Vec Str)), (Vec.mk [(("s" : Str), ("s" : Str))] : (Vec (Str × Str))))] : (List ((Vec Str) × (Vec (Str × Str))))).length ≤ sizeLine) ∧ (let told_38 : (List ((Vec Str) × (Vec (Str × Str)))) := (told_36 ++ ([((Vec.mk [("n" : Str), ("a" : Str), ("b" : Str)] : (Vec Str)), (Vec.mk [(("a" : Str), ("a" : Str)), (("b" : Str), ("b" : Str))] : (Vec (Str × Str)))), ((Vec.mk [("n" : Str), ("i" : Str)] : (Vec Str)), (Vec.mk [] : (Vec (Str × Str)))), ((Vec.mk [("n" : Str), ("s" : Str), ("t" : Str)] : (Vec Str)), (Vec.mk [(("s" : Str), ("s" : Str))] : (Vec (Str × Str))))] : (List ((Vec Str) × (Vec (Str × Str)))))); (let due_40 : (List (Str × PyData)) := ([(("partners" : Str), (enc ((1 : Int), (0 : Int)))), (("partners" : Str), (enc (T3.mk (2 : Int) (1 : Int) (0 : Int)))), (("none" : Str), (enc (0 : Int))), (("partners" : Str), (enc ((0 : Int), (0 : Int)))), (("partners" : Str), (enc (T3.mk (1 : Int) (0 : Int) (1 : Int))))] : (List (Str × PyData))); (((∀ x_42 ∈ told_38, ((p_modes_told x_42.1 (Vec.mk (List.map (fun y_ : (Str × Str) => (Vec.mk [y_.1, y_.2] : (Vec Str))) x_42.2.l))) ∧ (p_partners_told (t_modes_told x_42.1 (Vec.mk (List.map (fun y_ : (Str × Str) => (Vec.mk [y_.1, y_.2] : (Vec Str))) x_42.2.l)))))) ∧ (eqOk (List.map (fun x_42 : ((Vec Str) × (Vec (Str × Str))) => (t_partners_told (t_modes_told x_42.1 (Vec.mk (List.map (fun y_ : (Str × Str) => (Vec.mk [y_.1, y_.2] : (Vec Str))) x_42.2.l))))) told_38) due_40)) ∧ (q_ (eqT (List.map (fun x_42 : ((Vec Str) × (Vec (Str × Str))) => (t_partners_told (t_modes_told x_42.1 (Vec.mk (List.map (fun y_ : (Str × Str) => (Vec.mk [y_.1, y_.2] : (Vec Str))) x_42.2.l))))) told_38) due_40)))))))) (wIp (xs := modes_every_5.2) (P := True) (fun h_ => iL (oV rfl))) rfl (h_70.2 rfl) (fun s_34 h_35 => wSeqN (k := (fun told_36 : (List ((Vec Str) × (Vec (Str × Str)))) => ((told_36.length + ([((Vec.mk [("n" : Str), ("a" : Str), ("b" : Str)] : (Vec Str)), (Vec.mk [(("a" : Str), ("a" : Str)), (("b" : Str), ("b" : Str))] : (Vec (Str × Str)))), ((Vec.mk [("n" : Str), ("i" : Str)] : (Vec Str)), (Vec.mk [] : (Vec (Str × Str)))), ((Vec.mk [("n" : Str), ("s" : Str), ("t" : Str)] : (Vec Str)), (Vec.mk [(("s" : Str), ("s" : Str))] : (Vec (Str × Str))))] : (List ((Vec Str) × (Vec (Str × Str))))).length ≤ sizeLine) ∧ (let told_38 : (List ((Vec Str) × (Vec (Str × Str)))) := (told_36 ++ ([((Vec.mk [("n" : Str), ("a" : Str), ("b" : Str)] : (Vec Str)), (Vec.mk [(("a" : Str), ("a" : Str)), (("b" : Str), ("b" : Str))] : (Vec (Str × Str)))), ((Vec.mk [("n" : Str), ("i" : Str)] : (Vec Str)), (Vec.mk [] : (Vec (Str × Str)))), ((Vec.mk [("n" : Str), ("s" : Str), ("t" : Str)] : (Vec Str)), (Vec.mk [(("s" : Str), ("s" : Str))] : (Vec (Str × Str))))] : (List ((Vec Str) × (Vec (Str × Str)))))); (let due_40 : (List (Str × PyData)) := ([(("partners" : Str), (enc ((1 : Int), (0 : Int)))), (("partners" : Str), (enc (T3.mk (2 : Int) (1 : Int) (0 : Int)))), (("none" : Str), (enc (0 : Int))), (("partners" : Str), (enc ((0 : Int), (0 : Int)))), (("partners" : Str), (enc (T3.mk (1 : Int) (0 : Int) (1 : Int))))] : (List (Str × PyData))); (((∀ x_42 ∈ told_38, ((p_modes_told x_42.1 (Vec.mk (List.map (fun y_ : (Str × Str) => (Vec.mk [y_.1, y_.2] : (Vec Str))) x_42.2.l))) ∧ (p_partners_told (t_modes_told x_42.1 (Vec.mk (List.map (fun y_ : (Str × Str) => (Vec.mk [y_.1, y_.2] : (Vec Str))) x_42.2.l)))))) ∧ (eqOk (List.map (fun x_42 : ((Vec Str) × (Vec (Str × Str))) => (t_partners_told (t_modes_told x_42.1 (Vec.mk (List.map (fun y_ : (Str × Str) => (Vec.mk [y_.1, y_.2] : (Vec Str))) x_42.2.l))))) told_38) due_40)) ∧ (q_ (eqT (List.map (fun x_42 : ((Vec Str) × (Vec (Str × Str))) => (t_partners_told (t_modes_told x_42.1 (Vec.mk (List.map (fun y_ : (Str × Str) => (Vec.mk [y_.1, y_.2] : (Vec Str))) x_42.2.l))))) told_38) due_40)))))))) (wE' (a := (([((Vec.mk [("n" : Str), ("x" : Str)] : (Vec Str)), (Vec.mk [(("x" : Str), ("x" : Str))] : (Vec (Str × Str)))), ((Vec.mk [("n" : Str), ("s" : Str), ("x" : Str)] : (Vec Str)), (Vec.mk [(("s" : Str), ("x" : Str)), (("x" : Str), ("x" : Str))] : (Vec (Str × Str))))] : (List ((Vec Str) × (Vec (Str × Str))))) : (List ((Vec Str) × (Vec (Str × Str)))))) (oLst (aC (oTup (aC (oTup (aC (oC) (aC (oC) (aN))) (by show 2 ≤ sizeLine; decide)) (aC (oTup (aC (oTup (aC (oC) (aC (oC) (aN))) (by show 2 ≤ sizeLine; decide)) (aN)) (by show 1 ≤ sizeLine; decide)) (aN))) (by show 2 ≤ sizeLine; decide)) (aC (oTup (aC (oTup (aC (oC) (aC (oC) (aC (oC) (aN)))) (by show 3 ≤ sizeLine; decide)) (aC (oTup (aC (oTup (aC (oC) (aC (oC) (aN))) (by show 2 ≤ sizeLine; decide)) (aC (oTup (aC (oC) (aC (oC) (aN))) (by show 2 ≤ sizeLine; decide)) (aN))) (by show 2 ≤ sizeLine; decide)) (aN))) (by show 2 ≤ sizeLine; decide)) (aN))) (by show 2 ≤ sizeLine; decide))) h_35 (fun told_36 h_37 => wSeqN (k := (fun told_38 : (List ((Vec Str) × (Vec (Str × Str)))) => (let due_40 : (List (Str × PyData)) := ([(("partners" : Str), (enc ((1 : Int), (0 : Int)))), (("partners" : Str), (enc (T3.mk (2 : Int) (1 : Int) (0 : Int)))), (("none" : Str), (enc (0 : Int))), (("partners" : Str), (enc ((0 : Int), (0 : Int)))), (("partners" : Str), (enc (T3.mk (1 : Int) (0 : Int) (1 : Int))))] : (List (Str × PyData))); (((∀ x_42 ∈ told_38, ((p_modes_told x_42.1 (Vec.mk (List.map (fun y_ : (Str × Str) => (Vec.mk [y_.1, y_.2] : (Vec Str))) x_42.2.l))) ∧ (p_partners_told (t_modes_told x_42.1 (Vec.mk (List.map (fun y_ : (Str × Str) => (Vec.mk [y_.1, y_.2] : (Vec Str))) x_42.2.l)))))) ∧ (eqOk (List.map (fun x_42 : ((Vec Str) × (Vec (Str × Str))) => (t_partners_told (t_modes_told x_42.1 (Vec.mk (List.map (fun y_ : (Str × Str) => (Vec.mk [y_.1, y_.2] : (Vec Str))) x_42.2.l))))) told_38) due_40)) ∧ (q_ (eqT (List.map (fun x_42 : ((Vec Str) × (Vec (Str × Str))) => (t_partners_told (t_modes_told x_42.1 (Vec.mk (List.map (fun y_ : (Str × Str) => (Vec.mk [y_.1, y_.2] : (Vec Str))) x_42.2.l))))) told_38) due_40)))))) (wE (a := ((told_36 ++ ([((Vec.mk [("n" : Str), ("a" : Str), ("b" : Str)] : (Vec Str)), (Vec.mk [(("a" : Str), ("a" : Str)), (("b" : Str), ("b" : Str))] : (Vec (Str × Str)))), ((Vec.mk [("n" : Str), ("i" : Str)] : (Vec Str)), (Vec.mk [] : (Vec (Str × Str)))), ((Vec.mk [("n" : Str), ("s" : Str), ("t" : Str)] : (Vec Str)), (Vec.mk [(("s" : Str), ("s" : Str))] : (Vec (Str × Str))))] : (List ((Vec Str) × (Vec (Str × Str)))))) : (List ((Vec Str) × (Vec (Str × Str)))))) (P := (told_36.length + ([((Vec.mk [("n" : Str), ("a" : Str), ("b" : Str)] : (Vec Str)), (Vec.mk [(("a" : Str), ("a" : Str)), (("b" : Str), ("b" : Str))] : (Vec (Str × Str)))), ((Vec.mk [("n" : Str), ("i" : Str)] : (Vec Str)), (Vec.mk [] : (Vec (Str × Str)))), ((Vec.mk [("n" : Str), ("s" : Str), ("t" : Str)] : (Vec Str)), (Vec.mk [(("s" : Str), ("s" : Str))] : (Vec (Str × Str))))] : (List ((Vec Str) × (Vec (Str × Str))))).length ≤ sizeLine)) (fun h_ => oAddL (oV rfl) (oLst (aC (oTup (aC (oTup (aC (oC) (aC (oC) (aC (oC) (aN)))) (by show 3 ≤ sizeLine; decide)) (aC (oTup (aC (oTup (aC (oC) (aC (oC) (aN))) (by show 2 ≤ sizeLine; decide)) (aC (oTup (aC (oC) (aC (oC) (aN))) (by show 2 ≤ sizeLine; decide)) (aN))) (by show 2 ≤ sizeLine; decide)) (aN))) (by show 2 ≤ sizeLine; decide)) (aC (oTup (aC (oTup (aC (oC) (aC (oC) (aN))) (by show 2 ≤ sizeLine; decide)) (aC (oTup (aN) (by show 0 ≤ sizeLine; decide)) (aN))) (by show 2 ≤ sizeLine; decide)) (aC (oTup (aC (oTup (aC (oC) (aC (oC) (aC (oC) (aN)))) (by show 3 ≤ sizeLine; decide)) (aC (oTup (aC (oTup (aC (oC) (aC (oC) (aN))) (by show 2 ≤ sizeLine; decide)) (aN)) (by show 1 ≤ sizeLine; decide)) (aN))) (by show 2 ≤ sizeLine; decide)) (aN)))) (by show 3 ≤ sizeLine; decide)) h_)) h_37 (fun told_38 h_39 => wSeqN (k := (fun due_40 : (List (Str × PyData)) => (((∀ x_42 ∈ told_38, ((p_modes_told x_42.1 (Vec.mk (List.map (fun y_ : (Str × Str) => (Vec.mk [y_.1, y_.2] : (Vec Str))) x_42.2.l))) ∧ (p_partners_told (t_modes_told x_42.1 (Vec.mk (List.map (fun y_ : (Str × Str) => (Vec.mk [y_.1, y_.2] : (Vec Str))) x_42.2.l)))))) ∧ (eqOk (List.map (fun x_42 : ((Vec Str) × (Vec (Str × Str))) => (t_partners_told (t_modes_told x_42.1 (Vec.mk (List.map (fun y_ : (Str × Str) => (Vec.mk [y_.1, y_.2] : (Vec Str))) x_42.2.l))))) told_38) due_40)) ∧ (q_ (eqT (List.map (fun x_42 : ((Vec Str) × (Vec (Str × Str))) => (t_partners_told (t_modes_told x_42.1 (Vec.mk (List.map (fun y_ : (Str × Str) => (Vec.mk [y_.1, y_.2] : (Vec Str))) x_42.2.l))))) told_38) due_40))))) (wE' (a := (([(("partners" : Str), (enc ((1 : Int), (0 : Int)))), (("partners" : Str), (enc (T3.mk (2 : Int) (1 : Int) (0 : Int)))), (("none" : Str), (enc (0 : Int))), (("partners" : Str), (enc ((0 : Int), (0 : Int)))), (("partners" : Str), (enc (T3.mk (1 : Int) (0 : Int) (1 : Int))))] : (List (Str × PyData))) : (List (Str × PyData)))) (oLst (aC (oTup (aC (oC) (aC (oTup (aC (oC) (aC (oC) (aN))) (by show 2 ≤ sizeLine; decide)) (aN))) (by show 2 ≤ sizeLine; decide)) (aC (oTup (aC (oC) (aC (oTup (aC (oC) (aC (oC) (aC (oC) (aN)))) (by show 3 ≤ sizeLine; decide)) (aN))) (by show 2 ≤ sizeLine; decide)) (aC (oTup (aC (oC) (aC (oC) (aN))) (by show 2 ≤ sizeLine; decide)) (aC (oTup (aC (oC) (aC (oTup (aC (oC) (aC (oC) (aN))) (by show 2 ≤ sizeLine; decide)) (aN))) (by show 2 ≤ sizeLine; decide)) (aC (oTup (aC (oC) (aC (oTup (aC (oC) (aC (oC) (aC (oC) (aN)))) (by show 3 ≤ sizeLine; decide)) (aN))) (by show 2 ≤ sizeLine; decide)) (aN)))))) (by show 5 ≤ sizeLine; decide))) h_39 (fun due_40 h_41 => wEndR (k := q_) (wE (a := ((eqT (List.map (fun x_42 : ((Vec Str) × (Vec (Str × Str))) => (t_partners_told (t_modes_told x_42.1 (Vec.mk (List.map (fun y_ : (Str × Str) => (Vec.mk [y_.1, y_.2] : (Vec Str))) x_42.2.l))))) told_38) due_40) : Bool)) (P := ((∀ x_42 ∈ told_38, ((p_modes_told x_42.1 (Vec.mk (List.map (fun y_ : (Str × Str) => (Vec.mk [y_.1, y_.2] : (Vec Str))) x_42.2.l))) ∧ (p_partners_told (t_modes_told x_42.1 (Vec.mk (List.map (fun y_ : (Str × Str) => (Vec.mk [y_.1, y_.2] : (Vec Str))) x_42.2.l)))))) ∧ (eqOk (List.map (fun x_42 : ((Vec Str) × (Vec (Str × Str))) => (t_partners_told (t_modes_told x_42.1 (Vec.mk (List.map (fun y_ : (Str × Str) => (Vec.mk [y_.1, y_.2] : (Vec Str))) x_42.2.l))))) told_38) due_40))) (fun h_ => oEq (oCompA (α := ((Vec Str) × (Vec (Str × Str)))) (g := fun x_42 => (t_partners_told (t_modes_told x_42.1 (Vec.mk (List.map (fun y_ : (Str × Str) => (Vec.mk [y_.1, y_.2] : (Vec Str))) x_42.2.l))))) (iL (oV rfl)) rfl (fun x_42 hx_43 => ⟨_, gTup (vs := [_, _]) (gCons (gNm) (gCons (gNm) (gNil))) rfl, rfl, oCall (aC (oCall (aC (oV rfl) (aC (OkE.cast (oV rfl) (vec_coe (f := fun y_ : (Str × Str) => (Vec.mk [y_.1, y_.2] : (Vec Str))) (fun y_ => rfl) _)) (aN))) rfl (ok_modes_told x_42.1 (Vec.mk (List.map (fun y_ : (Str × Str) => (Vec.mk [y_.1, y_.2] : (Vec Str))) x_42.2.l)) (h_.1 x_42 hx_43).1)) (aN)) rfl (ok_partners_told (t_modes_told x_42.1 (Vec.mk (List.map (fun y_ : (Str × Str) => (Vec.mk [y_.1, y_.2] : (Vec Str))) x_42.2.l))) (h_.1 x_42 hx_43).2)⟩)) (oV rfl) h_.2)) h_41 hq_)))) (fun x_46 s_47 k_48 h_49 kk_50 hk_51 => OkG.ok (gNm) _ (endFor (step := (fun (x_55 : Int) (s_56 : Unit) (k_57 : Unit → Prop) => (((((L2.atI s_26 x_46).isSome = true) ∧ ((L2.atI s_26 x_55).isSome = true)) ∧ ((!inT (none : (Option Int)) (Vec.mk [(ixT s_26 x_46), (ixT s_26 x_55)] : (Vec (Option Int))).l) = true → ((((L2.atI lower_21 x_46).isSome = true) ∧ ((L2.atI (ixT lower_21 x_46) x_55).isSome = true)) ∧ (((((L2.atI s_26 x_55).isSome = true) ∧ (((ixT s_26 x_55)).isSome = true)) ∧ ((L2.atI lower_21 (Option.getD (ixT s_26 x_55) default)).isSome = true)) ∧ (((L2.atI s_26 x_46).isSome = true) ∧ (((ixT s_26 x_46)).isSome = true)) ∧ ((L2.atI (ixT lower_21 (Option.getD (ixT s_26 x_55) default)) (Option.getD (ixT s_26 x_46) default)).isSome = true))))) ∧ ((((!inT (none : (Option Int)) (Vec.mk [(ixT s_26 x_46), (ixT s_26 x_55)] : (Vec (Option Int))).l) && (!eqT (ixT (ixT lower_21 x_46) x_55) (ixT (ixT lower_21 (Option.getD (ixT s_26 x_55) default)) (Option.getD (ixT s_26 x_46) default)))) = true → (q_ false)) ∧ (((!inT (none : (Option Int)) (Vec.mk [(ixT s_26 x_46), (ixT s_26 x_55)] : (Vec (Option Int))).l) && (!eqT (ixT (ixT lower_21 x_46) x_55) (ixT (ixT lower_21 (Option.getD (ixT s_26 x_55) default)) (Option.getD (ixT s_26 x_46) default)))) = false → (((!inT (none : (Option Int)) s_26) = true → ((((L2.atI lower_21 x_46).isSome = true) ∧ ((L2.atI (ixT lower_21 x_46) x_55).isSome = true)) ∧ (((L2.atI s_26 x_55).isSome = true) ∧ ((L2.atI free_10 x_46).isSome = true)))) ∧ ((((!inT (none : (Option Int)) s_26) && (!eqT (ixT (ixT lower_21 x_46) x_55) (inT (ixT s_26 x_55) (List.map (fun y_ : Int => (some y_)) (ixT free_10 x_46))))) = true → (q_ false)) ∧ (((!inT (none : (Option Int)) s_26) && (!eqT (ixT (ixT lower_21 x_46) x_55) (inT (ixT s_26 x_55) (List.map (fun y_ : Int => (some y_)) (ixT free_10 x_46))))) = false → (k_57 ()))))))))) (fun s_52 : Unit => [.val .scr, .val (.src n_1), .val (.d (enc names_pairs_3.1)), .val (.d (enc names_pairs_3.2)), .val (.d (enc modes_every_5.1)), .val (.d (enc modes_every_5.2)), .val (.d (enc free_10)), .emp, .val (.d (enc lower_21)), .emp, .emp, .val (.d (enc x_46)), .own (enc s_26), .emp, .emp, .val (.d (enc due_29)), .emp, .emp]) () (fun s_53 : Unit => (k_48 ())) (wIp (xs := modes_every_5.2) (P := True) (fun h_ => iL (oV rfl))) rfl h_49 (fun s_53 h_54 => (hk_51 _ h_54)) (fun x_55 s_56 k_57 h_58 kk_59 hk_60 => OkG.ok (gNm) _ (wSeqI (k := (fun b_67 : Bool => (b_67 = true → (q_ false)) ∧ (b_67 = false → (((!inT (none : (Option Int)) s_26) = true → ((((L2.atI lower_21 x_46).isSome = true) ∧ ((L2.atI (ixT lower_21 x_46) x_55).isSome = true)) ∧ (((L2.atI s_26 x_55).isSome = true) ∧ ((L2.atI free_10 x_46).isSome = true)))) ∧ ((((!inT (none : (Option Int)) s_26) && (!eqT (ixT (ixT lower_21 x_46) x_55) (inT (ixT s_26 x_55) (List.map (fun y_ : Int => (some y_)) (ixT free_10 x_46))))) = true → (q_ false)) ∧ (((!inT (none : (Option Int)) s_26) && (!eqT (ixT (ixT lower_21 x_46) x_55) (inT (ixT s_26 x_55) (List.map (fun y_ : Int => (some y_)) (ixT free_10 x_46))))) = false → (k_57 ()))))))) (wTb (b := ((!inT (none : (Option Int)) (Vec.mk [(ixT s_26 x_46), (ixT s_26 x_55)] : (Vec (Option Int))).l) && (!eqT (ixT (ixT lower_21 x_46) x_55) (ixT (ixT lower_21 (Option.getD (ixT s_26 x_55) default)) (Option.getD (ixT s_26 x_46) default))))) (P := ((((L2.atI s_26 x_46).isSome = true) ∧ ((L2.atI s_26 x_55).isSome = true)) ∧ ((!inT (none : (Option Int)) (Vec.mk [(ixT s_26 x_46), (ixT s_26 x_55)] : (Vec (Option Int))).l) = true → ((((L2.atI lower_21 x_46).isSome = true) ∧ ((L2.atI (ixT lower_21 x_46) x_55).isSome = true)) ∧ (((((L2.atI s_26 x_55).isSome = true) ∧ (((ixT s_26 x_55)).isSome = true)) ∧ ((L2.atI lower_21 (Option.getD (ixT s_26 x_55) default)).isSome = true)) ∧ (((L2.atI s_26 x_46).isSome = true) ∧ (((ixT s_26 x_46)).isSome = true)) ∧ ((L2.atI (ixT lower_21 (Option.getD (ixT s_26 x_55) default)) (Option.getD (ixT s_26 x_46) default)).isSome = true)))))) (fun h_ => tAnd' (tT (oNiV (oC) (oTup (aC (oIxL (oO rfl) (oV rfl) h_.1.1) (aC (oIxL (oO rfl) (oV rfl) h_.1.2) (aN))) (by show 2 ≤ sizeLine; decide)) (inOk_no _ _))) (fun hb_61 => tT (oNe (oIxL (oIxL (oV rfl) (oV rfl) (h_.2 hb_61).1.1) (oV rfl) (h_.2 hb_61).1.2) (oIxL (oIxL (oV rfl) (OkE.cast (oIxL (oO rfl) (oV rfl) (h_.2 hb_61).2.1.1.1) (getD_coe (h_.2 hb_61).2.1.1.2)) (h_.2 hb_61).2.1.2) (OkE.cast (oIxL (oO rfl) (oV rfl) (h_.2 hb_61).2.2.1.1) (getD_coe (h_.2 hb_61).2.2.1.2)) (h_.2 hb_61).2.2.2) eqOk_bool)))) h_58 (fun h_68 => wEndR (k := q_) (wE' (a := (false : Bool)) (oC)) (h_68.1 rfl) hq_) (fun h_68 => wEndI (k := (fun b_65 : Bool => (b_65 = true → (q_ false)) ∧ (b_65 = false → (k_57 ())))) (wTb (b := ((!inT (none : (Option Int)) s_26) && (!eqT (ixT (ixT lower_21 x_46) x_55) (inT (ixT s_26 x_55) (List.map (fun y_ : Int => (some y_)) (ixT free_10 x_46)))))) (P := ((!inT (none : (Option Int)) s_26) = true → ((((L2.atI lower_21 x_46).isSome = true) ∧ ((L2.atI (ixT lower_21 x_46) x_55).isSome = true)) ∧ (((L2.atI s_26 x_55).isSome = true) ∧ ((L2.atI free_10 x_46).isSome = true))))) (fun h_ => tAnd' (tT (oNiL (oC) (oO rfl) (inOk_no _ _))) (fun hb_63 => tT (oNe (oIxL (oIxL (oV rfl) (oV rfl) (h_ hb_63).1.1) (oV rfl) (h_ hb_63).1.2) (oInL (oIxL (oO rfl) (oV rfl) (h_ hb_63).2.1) (OkE.cast (oIxL (oV rfl) (oV rfl) (h_ hb_63).2.2) (map_coe (f := fun y_ : Int => (some y_)) (fun y_ => rfl) _)) (inOk_no _ _)) eqOk_bool)))) (h_68.2 rfl) (fun h_66 => wEndR (k := q_) (wE' (a := (false : Bool)) (oC)) (h_66.1 rfl) hq_) (fun h_66 => (hk_60 _ (h_66.2 rfl))))))))))) (fun x_71 s_72 k_73 h_74 kk_75 hk_76 => OkG.ok (gNm) _ (wSeqN (k := (fun some_77 : (List Int) => (True ∧ (forT (fun (x_108 : Int) (s_109 : (List Int)) (k_110 : (List Int) → Prop) => ((((L2.atI free_10 x_71).isSome = true) ∧ ((inT x_108 (ixT free_10 x_71)) = true → (∀ x_114 ∈ modes_every_5.2, ((((L2.atI lower_21 x_114).isSome = true) ∧ ((L2.atI (ixT lower_21 x_114) x_71).isSome = true)) ∧ ((!(ixT (ixT lower_21 x_114) x_71)) = true → ((L2.atI free_10 x_108).isSome = true)))))) ∧ (let due_119 : Bool := ((inT x_108 (ixT free_10 x_71)) && (eqT (List.map (fun x_114 : Int => x_114) (List.filter (fun x_114 => ((!(ixT (ixT lower_21 x_114) x_71)) && (inT x_114 (ixT free_10 x_108)))) modes_every_5.2)) ([] : (List Int)))); ((p_is_partner modes_every_5.1 x_71 x_108) ∧ (((!eqT (t_is_partner modes_every_5.1 x_71 x_108) due_119) = true → (q_ false)) ∧ ((!eqT (t_is_partner modes_every_5.1 x_71 x_108) due_119) = false → ((due_119 = true → (((L2.atI free_10 x_108).isSome = true) ∧ (∀ x_122 ∈ modes_every_5.2, (((L2.atI lower_21 x_122).isSome = true) ∧ ((L2.atI (ixT lower_21 x_122) x_71).isSome = true))))) ∧ (((due_119 && (!eqT (ixT free_10 x_108) (List.map (fun x_122 : Int => x_122) (List.filter (fun x_122 => (ixT (ixT lower_21 x_122) x_71)) modes_every_5.2)))) = true → (q_ false)) ∧ ((due_119 && (!eqT (ixT free_10 x_108) (List.map (fun x_122 : Int => x_122) (List.filter (fun x_122 => (ixT (ixT lower_21 x_122) x_71)) modes_every_5.2)))) = false → ((due_119 = true → (s_109.length + ([x_108] : (List Int)).length ≤ sizeLine)) ∧ (let some_128 : (List Int) := (if due_119 = true then (s_109 ++ ([x_108] : (List Int))) else s_109); (k_110 some_128)))))))))))) modes_every_5.2 some_77 (fun s_80 : (List Int) => ((∀ x_82 ∈ s_80, (((L2.atI s_80 (0 : Int)).isSome = true) ∧ (p_are_like modes_every_5.1 (ixT s_80 (0 : Int)) x_82))) ∧ (((!eqT (List.map (fun x_82 : Int => x_82) (List.filter (fun x_82 => (!(t_are_like modes_every_5.1 (ixT s_80 (0 : Int)) x_82))) s_80)) ([] : (List Int))) = true → (q_ false)) ∧ ((!eqT (List.map (fun x_82 : Int => x_82) (List.filter (fun x_82 => (!(t_are_like modes_every_5.1 (ixT s_80 (0 : Int)) x_82))) s_80)) ([] : (List Int))) = false → (((p_partner_of modes_every_5.1 x_71) ∧ ((!eqT s_80 ([] : (List Int))) = true → ((L2.atI s_80 (0 : Int)).isSome = true))) ∧ (((!eqT (t_partner_of modes_every_5.1 x_71) (if (!eqT s_80 ([] : (List Int))) = true then (some (ixT s_80 (0 : Int))) else (none : (Option Int)))) = true → (q_ false)) ∧ ((!eqT (t_partner_of modes_every_5.1 x_71) (if (!eqT s_80 ([] : (List Int))) = true then (some (ixT s_80 (0 : Int))) else (none : (Option Int)))) = false → ((s_72.length < sizeLine) ∧ (((!eqT s_80 ([] : (List Int))) = true → ((L2.atI s_80 (0 : Int)).isSome = true)) ∧ (let y_89 : (Option Int) := (if (!eqT s_80 ([] : (List Int))) = true then (some (ixT s_80 (0 : Int))) else (none : (Option Int))); (True ∧ (forT (fun (x_94 : Int) (s_95 : Unit) (k_96 : Unit → Prop) => ((((L2.atI free_10 x_71).isSome = true) ∧ ((!eqT (t_is_clashing modes_every_5.1 x_71 x_94) (!inT x_94 (ixT free_10 x_71))) = false → ((p_is_weaker modes_every_5.1 x_71 x_94) ∧ (((L2.atI lower_21 x_71).isSome = true) ∧ ((L2.atI (ixT lower_21 x_71) x_94).isSome = true))))) ∧ ((((!eqT (t_is_clashing modes_every_5.1 x_71 x_94) (!inT x_94 (ixT free_10 x_71))) || (!eqT (t_is_weaker modes_every_5.1 x_71 x_94) (ixT (ixT lower_21 x_71) x_94))) = true → (q_ false)) ∧ (((!eqT (t_is_clashing modes_every_5.1 x_71 x_94) (!inT x_94 (ixT free_10 x_71))) || (!eqT (t_is_weaker modes_every_5.1 x_71 x_94) (ixT (ixT lower_21 x_71) x_94))) = false → (k_96 ()))))) modes_every_5.2 () (fun s_92 : Unit => (k_73 (s_72 ++ [y_89]))))))))))))))))))) (wE' (a := (([] : (List Int)) : (List Int))) (oLst (aN) (by show 0 ≤ sizeLine; decide))) h_74 (fun some_77 h_78 => seqFor (step := (fun (x_108 : Int) (s_109 : (List Int)) (k_110 : (List Int) → Prop) => ((((L2.atI free_10 x_71).isSome = true) ∧ ((inT x_108 (ixT free_10 x_71)) = true → (∀ x_114 ∈ modes_every_5.2, ((((L2.atI lower_21 x_114).isSome = true) ∧ ((L2.atI (ixT lower_21 x_114) x_71).isSome = true)) ∧ ((!(ixT (ixT lower_21 x_114) x_71)) = true → ((L2.atI free_10 x_108).isSome = true)))))) ∧ (let due_119 : Bool := ((inT x_108 (ixT free_10 x_71)) && (eqT (List.map (fun x_114 : Int => x_114) (List.filter (fun x_114 => ((!(ixT (ixT lower_21 x_114) x_71)) && (inT x_114 (ixT free_10 x_108)))) modes_every_5.2)) ([] : (List Int)))); ((p_is_partner modes_every_5.1 x_71 x_108) ∧ (((!eqT (t_is_partner modes_every_5.1 x_71 x_108) due_119) = true → (q_ false)) ∧ ((!eqT (t_is_partner modes_every_5.1 x_71 x_108) due_119) = false → ((due_119 = true → (((L2.atI free_10 x_108).isSome = true) ∧ (∀ x_122 ∈ modes_every_5.2, (((L2.atI lower_21 x_122).isSome = true) ∧ ((L2.atI (ixT lower_21 x_122) x_71).isSome = true))))) ∧ (((due_119 && (!eqT (ixT free_10 x_108) (List.map (fun x_122 : Int => x_122) (List.filter (fun x_122 => (ixT (ixT lower_21 x_122) x_71)) modes_every_5.2)))) = true → (q_ false)) ∧ ((due_119 && (!eqT (ixT free_10 x_108) (List.map (fun x_122 : Int => x_122) (List.filter (fun x_122 => (ixT (ixT lower_21 x_122) x_71)) modes_every_5.2)))) = false → ((due_119 = true → (s_109.length + ([x_108] : (List Int)).length ≤ sizeLine)) ∧ (let some_128 : (List Int) := (if due_119 = true then (s_109 ++ ([x_108] : (List Int))) else s_109); (k_110 some_128))))))))))))) (fun s_79 : (List Int) => [.val .scr, .val (.src n_1), .val (.d (enc names_pairs_3.1)), .val (.d (enc names_pairs_3.2)), .val (.d (enc modes_every_5.1)), .val (.d (enc modes_every_5.2)), .val (.d (enc free_10)), .emp, .val (.d (enc lower_21)), .emp, .emp, .val (.d (enc x_71)), .own (enc s_72), .val (.d (enc s_79)), .emp, .emp, .emp, .emp]) some_77 (fun s_80 : (List Int) => ((∀ x_82 ∈ s_80, (((L2.atI s_80 (0 : Int)).isSome = true) ∧ (p_are_like modes_every_5.1 (ixT s_80 (0 : Int)) x_82))) ∧ (((!eqT (List.map (fun x_82 : Int => x_82) (List.filter (fun x_82 => (!(t_are_like modes_every_5.1 (ixT s_80 (0 : Int)) x_82))) s_80)) ([] : (List Int))) = true → (q_ false)) ∧ ((!eqT (List.map (fun x_82 : Int => x_82) (List.filter (fun x_82 => (!(t_are_like modes_every_5.1 (ixT s_80 (0 : Int)) x_82))) s_80)) ([] : (List Int))) = false → (((p_partner_of modes_every_5.1 x_71) ∧ ((!eqT s_80 ([] : (List Int))) = true → ((L2.atI s_80 (0 : Int)).isSome = true))) ∧ (((!eqT (t_partner_of modes_every_5.1 x_71) (if (!eqT s_80 ([] : (List Int))) = true then (some (ixT s_80 (0 : Int))) else (none : (Option Int)))) = true → (q_ false)) ∧ ((!eqT (t_partner_of modes_every_5.1 x_71) (if (!eqT s_80 ([] : (List Int))) = true then (some (ixT s_80 (0 : Int))) else (none : (Option Int)))) = false → ((s_72.length < sizeLine) ∧ (((!eqT s_80 ([] : (List Int))) = true → ((L2.atI s_80 (0 : Int)).isSome = true)) ∧ (let y_89 : (Option Int) := (if (!eqT s_80 ([] : (List Int))) = true then (some (ixT s_80 (0 : Int))) else (none : (Option Int))); (True ∧ (forT (fun (x_94 : Int) (s_95 : Unit) (k_96 : Unit → Prop) => ((((L2.atI free_10 x_71).isSome = true) ∧ ((!eqT (t_is_clashing modes_every_5.1 x_71 x_94) (!inT x_94 (ixT free_10 x_71))) = false → ((p_is_weaker modes_every_5.1 x_71 x_94) ∧ (((L2.atI lower_21 x_71).isSome = true) ∧ ((L2.atI (ixT lower_21 x_71) x_94).isSome = true))))) ∧ ((((!eqT (t_is_clashing modes_every_5.1 x_71 x_94) (!inT x_94 (ixT free_10 x_71))) || (!eqT (t_is_weaker modes_every_5.1 x_71 x_94) (ixT (ixT lower_21 x_71) x_94))) = true → (q_ false)) ∧ (((!eqT (t_is_clashing modes_every_5.1 x_71 x_94) (!inT x_94 (ixT free_10 x_71))) || (!eqT (t_is_weaker modes_every_5.1 x_71 x_94) (ixT (ixT lower_21 x_71) x_94))) = false → (k_96 ()))))) modes_every_5.2 () (fun s_92 : Unit => (k_73 (s_72 ++ [y_89]))))))))))))))) (wIp (xs := modes_every_5.2) (P := True) (fun h_ => iL (oV rfl))) rfl h_78 (fun s_80 h_81 => wSeqI (k := (fun b_106 : Bool => (b_106 = true → (q_ false)) ∧ (b_106 = false → (((p_partner_of modes_every_5.1 x_71) ∧ ((!eqT s_80 ([] : (List Int))) = true → ((L2.atI s_80 (0 : Int)).isSome = true))) ∧ (((!eqT (t_partner_of modes_every_5.1 x_71) (if (!eqT s_80 ([] : (List Int))) = true then (some (ixT s_80 (0 : Int))) else (none : (Option Int)))) = true → (q_ false)) ∧ ((!eqT (t_partner_of modes_every_5.1 x_71) (if (!eqT s_80 ([] : (List Int))) = true then (some (ixT s_80 (0 : Int))) else (none : (Option Int)))) = false → ((s_72.length < sizeLine) ∧ (((!eqT s_80 ([] : (List Int))) = true → ((L2.atI s_80 (0 : Int)).isSome = true)) ∧ (let y_89 : (Option Int) := (if (!eqT s_80 ([] : (List Int))) = true then (some (ixT s_80 (0 : Int))) else (none : (Option Int))); (True ∧ (forT (fun (x_94 : Int) (s_95 : Unit) (k_96 : Unit → Prop) => ((((L2.atI free_10 x_71).isSome = true) ∧ ((!eqT (t_is_clashing modes_every_5.1 x_71 x_94) (!inT x_94 (ixT free_10 x_71))) = false → ((p_is_weaker modes_every_5.1 x_71 x_94) ∧ (((L2.atI lower_21 x_71).isSome = true) ∧ ((L2.atI (ixT lower_21 x_71) x_94).isSome = true))))) ∧ ((((!eqT (t_is_clashing modes_every_5.1 x_71 x_94) (!inT x_94 (ixT free_10 x_71))) || (!eqT (t_is_weaker modes_every_5.1 x_71 x_94) (ixT (ixT lower_21 x_71) x_94))) = true → (q_ false)) ∧ (((!eqT (t_is_clashing modes_every_5.1 x_71 x_94) (!inT x_94 (ixT free_10 x_71))) || (!eqT (t_is_weaker modes_every_5.1 x_71 x_94) (ixT (ixT lower_21 x_71) x_94))) = false → (k_96 ()))))) modes_every_5.2 () (fun s_92 : Unit => (k_73 (s_72 ++ [y_89])))))))))))))) (wTb (b := (!eqT (List.map (fun x_82 : Int => x_82) (List.filter (fun x_82 => (!(t_are_like modes_every_5.1 (ixT s_80 (0 : Int)) x_82))) s_80)) ([] : (List Int)))) (P := (∀ x_82 ∈ s_80, (((L2.atI s_80 (0 : Int)).isSome = true) ∧ (p_are_like modes_every_5.1 (ixT s_80 (0 : Int)) x_82)))) (fun h_ => tT (oNe (oComp (α := Int) (p := fun x_82 => (!(t_are_like modes_every_5.1 (ixT s_80 (0 : Int)) x_82))) (g := fun x_82 => x_82) (iL (oV rfl)) rfl (fun x_82 hx_83 => ⟨_, gNm, rfl, tNot' (tTruB (oCall (aC (oV rfl) (aC (oIxL (oV rfl) (oC) (h_ x_82 hx_83).1) (aC (oV rfl) (aN)))) rfl (ok_are_like modes_every_5.1 (ixT s_80 (0 : Int)) x_82 (h_ x_82 hx_83).2))), fun hp_84 => oV rfl⟩)) (oLst (aN) (by show 0 ≤ sizeLine; decide)) eqOk_no))) h_81 (fun h_107 => wEndR (k := q_) (wE' (a := (false : Bool)) (oC)) (h_107.1 rfl) hq_) (fun h_107 => wSeqI (k := (fun b_104 : Bool => (b_104 = true → (q_ false)) ∧ (b_104 = false → ((s_72.length < sizeLine) ∧ (((!eqT s_80 ([] : (List Int))) = true → ((L2.atI s_80 (0 : Int)).isSome = true)) ∧ (let y_89 : (Option Int) := (if (!eqT s_80 ([] : (List Int))) = true then (some (ixT s_80 (0 : Int))) else (none : (Option Int))); (True ∧ (forT (fun (x_94 : Int) (s_95 : Unit) (k_96 : Unit → Prop) => ((((L2.atI free_10 x_71).isSome = true) ∧ ((!eqT (t_is_clashing modes_every_5.1 x_71 x_94) (!inT x_94 (ixT free_10 x_71))) = false → ((p_is_weaker modes_every_5.1 x_71 x_94) ∧ (((L2.atI lower_21 x_71).isSome = true) ∧ ((L2.atI (ixT lower_21 x_71) x_94).isSome = true))))) ∧ ((((!eqT (t_is_clashing modes_every_5.1 x_71 x_94) (!inT x_94 (ixT free_10 x_71))) || (!eqT (t_is_weaker modes_every_5.1 x_71 x_94) (ixT (ixT lower_21 x_71) x_94))) = true → (q_ false)) ∧ (((!eqT (t_is_clashing modes_every_5.1 x_71 x_94) (!inT x_94 (ixT free_10 x_71))) || (!eqT (t_is_weaker modes_every_5.1 x_71 x_94) (ixT (ixT lower_21 x_71) x_94))) = false → (k_96 ()))))) modes_every_5.2 () (fun s_92 : Unit => (k_73 (s_72 ++ [y_89]))))))))))) (wTb (b := (!eqT (t_partner_of modes_every_5.1 x_71) (if (!eqT s_80 ([] : (List Int))) = true then (some (ixT s_80 (0 : Int))) else (none : (Option Int))))) (P := ((p_partner_of modes_every_5.1 x_71) ∧ ((!eqT s_80 ([] : (List Int))) = true → ((L2.atI s_80 (0 : Int)).isSome = true)))) (fun h_ => tT (oNe (oCall (aC (oV rfl) (aC (oV rfl) (aN))) rfl (ok_partner_of modes_every_5.1 x_71 h_.1)) (oIte (x := (some (ixT s_80 (0 : Int)))) (y := (none : (Option Int))) (tT (oNe (oV rfl) (oLst (aN) (by show 0 ≤ sizeLine; decide)) eqOk_no)) (fun hc_86 => oIxL (oV rfl) (oC) (h_.2 hc_86)) (fun hc_86 => oC)) eqOk_no))) (h_107.2 rfl) (fun h_105 => wEndR (k := q_) (wE' (a := (false : Bool)) (oC)) (h_105.1 rfl) hq_) (fun h_105 => seqApp (xs := s_72) (k := (fun y_89 : (Option Int) => (True ∧ (forT (fun (x_94 : Int) (s_95 : Unit) (k_96 : Unit → Prop) => ((((L2.atI free_10 x_71).isSome = true) ∧ ((!eqT (t_is_clashing modes_every_5.1 x_71 x_94) (!inT x_94 (ixT free_10 x_71))) = false → ((p_is_weaker modes_every_5.1 x_71 x_94) ∧ (((L2.atI lower_21 x_71).isSome = true) ∧ ((L2.atI (ixT lower_21 x_71) x_94).isSome = true))))) ∧ ((((!eqT (t_is_clashing modes_every_5.1 x_71 x_94) (!inT x_94 (ixT free_10 x_71))) || (!eqT (t_is_weaker modes_every_5.1 x_71 x_94) (ixT (ixT lower_21 x_71) x_94))) = true → (q_ false)) ∧ (((!eqT (t_is_clashing modes_every_5.1 x_71 x_94) (!inT x_94 (ixT free_10 x_71))) || (!eqT (t_is_weaker modes_every_5.1 x_71 x_94) (ixT (ixT lower_21 x_71) x_94))) = false → (k_96 ()))))) modes_every_5.2 () (fun s_92 : Unit => (k_73 (s_72 ++ [y_89]))))))) rfl (wE (a := ((if (!eqT s_80 ([] : (List Int))) = true then (some (ixT s_80 (0 : Int))) else (none : (Option Int))) : (Option Int))) (P := ((!eqT s_80 ([] : (List Int))) = true → ((L2.atI s_80 (0 : Int)).isSome = true))) (fun h_ => oIte (x := (some (ixT s_80 (0 : Int)))) (y := (none : (Option Int))) (tT (oNe (oV rfl) (oLst (aN) (by show 0 ≤ sizeLine; decide)) eqOk_no)) (fun hc_88 => oIxL (oV rfl) (oC) (h_ hc_88)) (fun hc_88 => oC))) (h_105.2 rfl).2 (h_105.2 rfl).1 (fun y_89 h_90 => endFor (step := (fun (x_94 : Int) (s_95 : Unit) (k_96 : Unit → Prop) => ((((L2.atI free_10 x_71).isSome = true) ∧ ((!eqT (t_is_clashing modes_every_5.1 x_71 x_94) (!inT x_94 (ixT free_10 x_71))) = false → ((p_is_weaker modes_every_5.1 x_71 x_94) ∧ (((L2.atI lower_21 x_71).isSome = true) ∧ ((L2.atI (ixT lower_21 x_71) x_94).isSome = true))))) ∧ ((((!eqT (t_is_clashing modes_every_5.1 x_71 x_94) (!inT x_94 (ixT free_10 x_71))) || (!eqT (t_is_weaker modes_every_5.1 x_71 x_94) (ixT (ixT lower_21 x_71) x_94))) = true → (q_ false)) ∧ (((!eqT (t_is_clashing modes_every_5.1 x_71 x_94) (!inT x_94 (ixT free_10 x_71))) || (!eqT (t_is_weaker modes_every_5.1 x_71 x_94) (ixT (ixT lower_21 x_71) x_94))) = false → (k_96 ())))))) (fun s_91 : Unit => [.val .scr, .val (.src n_1), .val (.d (enc names_pairs_3.1)), .val (.d (enc names_pairs_3.2)), .val (.d (enc modes_every_5.1)), .val (.d (enc modes_every_5.2)), .val (.d (enc free_10)), .emp, .val (.d (enc lower_21)), .emp, .emp, .val (.d (enc x_71)), .own (enc (s_72 ++ [y_89])), .val (.d (enc s_80)), .emp, .emp, .emp, .emp]) () (fun s_92 : Unit => (k_73 (s_72 ++ [y_89]))) (wIp (xs := modes_every_5.2) (P := True) (fun h_ => iL (oV rfl))) rfl h_90 (fun s_92 h_93 => (hk_76 _ h_93)) (fun x_94 s_95 k_96 h_97 kk_98 hk_99 => OkG.ok (gNm) _ (wEndI (k := (fun b_102 : Bool => (b_102 = true → (q_ false)) ∧ (b_102 = false → (k_96 ())))) (wTb (b := ((!eqT (t_is_clashing modes_every_5.1 x_71 x_94) (!inT x_94 (ixT free_10 x_71))) || (!eqT (t_is_weaker modes_every_5.1 x_71 x_94) (ixT (ixT lower_21 x_71) x_94)))) (P := (((L2.atI free_10 x_71).isSome = true) ∧ ((!eqT (t_is_clashing modes_every_5.1 x_71 x_94) (!inT x_94 (ixT free_10 x_71))) = false → ((p_is_weaker modes_every_5.1 x_71 x_94) ∧ (((L2.atI lower_21 x_71).isSome = true) ∧ ((L2.atI (ixT lower_21 x_71) x_94).isSome = true)))))) (fun h_ => tOr' (tT (oNe (oCall (aC (oV rfl) (aC (oV rfl) (aC (oV rfl) (aN)))) rfl (ok_is_clashing modes_every_5.1 x_71 x_94)) (oNiL (oV rfl) (oIxL (oV rfl) (oV rfl) h_.1) (inOk_no _ _)) eqOk_bool)) (fun hb_100 => tT (oNe (oCall (aC (oV rfl) (aC (oV rfl) (aC (oV rfl) (aN)))) rfl (ok_is_weaker modes_every_5.1 x_71 x_94 (h_.2 hb_100).1)) (oIxL (oIxL (oV rfl) (oV rfl) (h_.2 hb_100).2.1) (oV rfl) (h_.2 hb_100).2.2) eqOk_bool)))) h_97 (fun h_103 => wEndR (k := q_) (wE' (a := (false : Bool)) (oC)) (h_103.1 rfl) hq_) (fun h_103 => (hk_99 _ (h_103.2 rfl))))))))) (fun x_108 s_109 k_110 h_111 kk_112 hk_113 => OkG.ok (gNm) _ (wSeqN (k := (fun due_119 : Bool => ((p_is_partner modes_every_5.1 x_71 x_108) ∧ (((!eqT (t_is_partner modes_every_5.1 x_71 x_108) due_119) = true → (q_ false)) ∧ ((!eqT (t_is_partner modes_every_5.1 x_71 x_108) due_119) = false → ((due_119 = true → (((L2.atI free_10 x_108).isSome = true) ∧ (∀ x_122 ∈ modes_every_5.2, (((L2.atI lower_21 x_122).isSome = true) ∧ ((L2.atI (ixT lower_21 x_122) x_71).isSome = true))))) ∧ (((due_119 && (!eqT (ixT free_10 x_108) (List.map (fun x_122 : Int => x_122) (List.filter (fun x_122 => (ixT (ixT lower_21 x_122) x_71)) modes_every_5.2)))) = true → (q_ false)) ∧ ((due_119 && (!eqT (ixT free_10 x_108) (List.map (fun x_122 : Int => x_122) (List.filter (fun x_122 => (ixT (ixT lower_21 x_122) x_71)) modes_every_5.2)))) = false → ((due_119 = true → (s_109.length + ([x_108] : (List Int)).length ≤ sizeLine)) ∧ (let some_128 : (List Int) := (if due_119 = true then (s_109 ++ ([x_108] : (List Int))) else s_109); (k_110 some_128))))))))))) (wE (a := (((inT x_108 (ixT free_10 x_71)) && (eqT (List.map (fun x_114 : Int => x_114) (List.filter (fun x_114 => ((!(ixT (ixT lower_21 x_114) x_71)) && (inT x_114 (ixT free_10 x_108)))) modes_every_5.2)) ([] : (List Int)))) : Bool)) (P := (((L2.atI free_10 x_71).isSome = true) ∧ ((inT x_108 (ixT free_10 x_71)) = true → (∀ x_114 ∈ modes_every_5.2, ((((L2.atI lower_21 x_114).isSome = true) ∧ ((L2.atI (ixT lower_21 x_114) x_71).isSome = true)) ∧ ((!(ixT (ixT lower_21 x_114) x_71)) = true → ((L2.atI free_10 x_108).isSome = true))))))) (fun h_ => oAnd (oInL (oV rfl) (oIxL (oV rfl) (oV rfl) h_.1) (inOk_no _ _)) (fun hb_118 => oEq (oComp (α := Int) (p := fun x_114 => ((!(ixT (ixT lower_21 x_114) x_71)) && (inT x_114 (ixT free_10 x_108)))) (g := fun x_114 => x_114) (iL (oV rfl)) rfl (fun x_114 hx_115 => ⟨_, gNm, rfl, tAnd' (tNot' (tTruB (oIxL (oIxL (oV rfl) (oV rfl) ((h_.2 hb_118) x_114 hx_115).1.1) (oV rfl) ((h_.2 hb_118) x_114 hx_115).1.2))) (fun hb_117 => tT (oInL (oV rfl) (oIxL (oV rfl) (oV rfl) (((h_.2 hb_118) x_114 hx_115).2 hb_117)) (inOk_no _ _))), fun hp_116 => oV rfl⟩)) (oLst (aN) (by show 0 ≤ sizeLine; decide)) eqOk_no))) h_111 (fun due_119 h_120 => wSeqI (k := (fun b_132 : Bool => (b_132 = true → (q_ false)) ∧ (b_132 = false → ((due_119 = true → (((L2.atI free_10 x_108).isSome = true) ∧ (∀ x_122 ∈ modes_every_5.2, (((L2.atI lower_21 x_122).isSome = true) ∧ ((L2.atI (ixT lower_21 x_122) x_71).isSome = true))))) ∧ (((due_119 && (!eqT (ixT free_10 x_108) (List.map (fun x_122 : Int => x_122) (List.filter (fun x_122 => (ixT (ixT lower_21 x_122) x_71)) modes_every_5.2)))) = true → (q_ false)) ∧ ((due_119 && (!eqT (ixT free_10 x_108) (List.map (fun x_122 : Int => x_122) (List.filter (fun x_122 => (ixT (ixT lower_21 x_122) x_71)) modes_every_5.2)))) = false → ((due_119 = true → (s_109.length + ([x_108] : (List Int)).length ≤ sizeLine)) ∧ (let some_128 : (List Int) := (if due_119 = true then (s_109 ++ ([x_108] : (List Int))) else s_109); (k_110 some_128))))))))) (wTb (b := (!eqT (t_is_partner modes_every_5.1 x_71 x_108) due_119)) (P := (p_is_partner modes_every_5.1 x_71 x_108)) (fun h_ => tT (oNe (oCall (aC (oV rfl) (aC (oV rfl) (aC (oV rfl) (aN)))) rfl (ok_is_partner modes_every_5.1 x_71 x_108 h_)) (oV rfl) eqOk_bool))) h_120 (fun h_133 => wEndR (k := q_) (wE' (a := (false : Bool)) (oC)) (h_133.1 rfl) hq_) (fun h_133 => wSeqI (k := (fun b_130 : Bool => (b_130 = true → (q_ false)) ∧ (b_130 = false → ((due_119 = true → (s_109.length + ([x_108] : (List Int)).length ≤ sizeLine)) ∧ (let some_128 : (List Int) := (if due_119 = true then (s_109 ++ ([x_108] : (List Int))) else s_109); (k_110 some_128)))))) (wTb (b := (due_119 && (!eqT (ixT free_10 x_108) (List.map (fun x_122 : Int => x_122) (List.filter (fun x_122 => (ixT (ixT lower_21 x_122) x_71)) modes_every_5.2))))) (P := (due_119 = true → (((L2.atI free_10 x_108).isSome = true) ∧ (∀ x_122 ∈ modes_every_5.2, (((L2.atI lower_21 x_122).isSome = true) ∧ ((L2.atI (ixT lower_21 x_122) x_71).isSome = true)))))) (fun h_ => tAnd' (tTruB (oV rfl)) (fun hb_125 => tT (oNe (oIxL (oV rfl) (oV rfl) (h_ hb_125).1) (oComp (α := Int) (p := fun x_122 => (ixT (ixT lower_21 x_122) x_71)) (g := fun x_122 => x_122) (iL (oV rfl)) rfl (fun x_122 hx_123 => ⟨_, gNm, rfl, tTruB (oIxL (oIxL (oV rfl) (oV rfl) ((h_ hb_125).2 x_122 hx_123).1) (oV rfl) ((h_ hb_125).2 x_122 hx_123).2), fun hp_124 => oV rfl⟩)) eqOk_no)))) (h_133.2 rfl) (fun h_131 => wEndR (k := q_) (wE' (a := (false : Bool)) (oC)) (h_131.1 rfl) hq_) (fun h_131 => wEndN (k := (fun some_128 : (List Int) => (k_110 some_128))) (wE (a := ((if due_119 = true then (s_109 ++ ([x_108] : (List Int))) else s_109) : (List Int))) (P := (due_119 = true → (s_109.length + ([x_108] : (List Int)).length ≤ sizeLine))) (fun h_ => oIte (x := (s_109 ++ ([x_108] : (List Int)))) (y := s_109) (tTruB (oV rfl)) (fun hc_127 => oAddL (oV rfl) (oLst (aC (oV rfl) (aN)) (by show 1 ≤ sizeLine; decide)) (h_ hc_127)) (fun hc_127 => oV rfl))) (h_131.2 rfl) (fun some_128 h_129 => (hk_113 _ h_129)))))))))))))⟩)⟩))⟩
end Ty
namespace Pu
open PySem R
open Enc (enc)
abbrev Md := (Vec Str) × (Vec (Vec Int))
/-! ### the words over a clash table -/
structure Tab (m : Md) (n : Int) (c : Int → Int → Bool) : Prop where
  len : (m.1.l.length : Int) = n
  le : n ≤ 1000
  cl : ∀ i j, 0 ≤ i → i < n → 0 ≤ j → j < n → Ty.t_is_clashing m i j = c i j
  sym : ∀ i j, c i j = c j i
section
variable {m : Md} {n : Int} {c : Int → Int → Bool}
abbrev Rg (n : Int) : List Int := rangeT 0 n
def LW (n : Int) (c : Int → Int → Bool) (a b : Int) : Bool := (Rg n).all fun k => !c a k || c b k
def PT (n : Int) (c : Int → Int → Bool) (a p : Int) : Bool := (Rg n).all fun k => c p k != LW n c k a
theorem mapid {α : Type} (xs : List α) : List.map (fun x : α => x) xs = xs := List.map_id xs
theorem all_modes (T : Tab m n c) : Ty.t_all_modes m = Rg n := by
  unfold Ty.t_all_modes
  rw [T.len]
theorem p_all (T : Tab m n c) : Ty.p_all_modes m := by
  unfold Ty.p_all_modes
  have := T.len
  have := T.le
  constructor <;> omega
theorem filter_congr' {α : Type} {p q : α → Bool} {xs : List α} (h : ∀ x ∈ xs, p x = q x) : xs.filter p = xs.filter q := List.filter_congr h
theorem cw (T : Tab m n c) {a : Int} (h0 : 0 ≤ a) (h1 : a < n) : Ty.t_clashing_with m a = ⟨(Rg n).filter fun k => c a k⟩ := by
  unfold Ty.t_clashing_with
  rw [all_modes T, mapid]
  congr 1
  refine List.filter_congr fun k hk => ?_
  have := mem_rangeT.mp hk
  exact T.cl a k h0 h1 this.1 this.2
theorem eq_nil {α : Type} [Enc α] [DecidableEq α] [Lawful α] (p : α → Bool) (xs : List α) : eqT (xs.filter p) [] = xs.all fun x => !p x := by
  rw [eqT_eq]
  cases h : xs.all fun x => !p x with
  | true =>
    refine decide_eq_true (List.filter_eq_nil_iff.mpr fun x hx q => ?_)
    have := List.all_eq_true.mp h x hx
    rw [q] at this
    cases this
  | false =>
    refine decide_eq_false fun e => ?_
    have := List.filter_eq_nil_iff.mp e
    have q : (xs.all fun x => !p x) = true := List.all_eq_true.mpr fun x hx => by
      have := this x hx
      cases h : p x
      · rfl
      · exact absurd h this
    rw [h] at q
    cases q
theorem all_congr' {α : Type} {p q : α → Bool} : ∀ {xs : List α}, (∀ x ∈ xs, p x = q x) → xs.all p = xs.all q
  | [], _ => rfl
  | x :: xs, h => by rw [List.all_cons, List.all_cons, h x List.mem_cons_self, all_congr' fun y hy => h y (List.mem_cons_of_mem _ hy)]
theorem weaker (T : Tab m n c) {a b : Int} (h0 : 0 ≤ a) (h1 : a < n) (g0 : 0 ≤ b) (g1 : b < n) : Ty.t_is_weaker m a b = LW n c a b := by
  unfold Ty.t_is_weaker
  rw [cw T h0 h1, mapid, eq_nil]
  show ((Rg n).filter fun k => c a k).all (fun x => !!Ty.t_is_clashing m x b) = _
  unfold LW
  rw [List.all_filter]
  refine all_congr' fun k hk => ?_
  have hr := mem_rangeT.mp hk
  rw [T.cl k b hr.1 hr.2 g0 g1, T.sym k b, Bool.not_not]
theorem partner (T : Tab m n c) {a p : Int} (h0 : 0 ≤ a) (h1 : a < n) (g0 : 0 ≤ p) (g1 : p < n) : Ty.t_is_partner m a p = PT n c a p := by
  unfold Ty.t_is_partner
  rw [all_modes T, mapid, eq_nil]
  unfold PT
  refine all_congr' fun k hk => ?_
  have hr := mem_rangeT.mp hk
  rw [T.cl p k g0 g1 hr.1 hr.2, weaker T hr.1 hr.2 h0 h1, eqT_eq]
  cases c p k <;> cases LW n c k a <;> rfl
theorem p_weaker (T : Tab m n c) (a b : Int) : Ty.p_is_weaker m a b := p_all T
theorem p_partner (T : Tab m n c) (a b : Int) : Ty.p_is_partner m a b := ⟨p_all T, fun x _ => p_weaker T x a⟩
theorem p_like (T : Tab m n c) (a b : Int) : Ty.p_are_like m a b := ⟨p_all T, p_all T⟩
def Ps (n : Int) (c : Int → Int → Bool) (a : Int) : List Int := (Rg n).filter fun p => PT n c a p
theorem p_some (T : Tab m n c) {a : Int} (h0 : 0 ≤ a) (h1 : a < n) : Ty.t_partner_of_some m a = Ps n c a := by
  unfold Ty.t_partner_of_some
  rw [all_modes T, mapid]
  refine List.filter_congr fun k hk => ?_
  have hr := mem_rangeT.mp hk
  exact partner T h0 h1 hr.1 hr.2
def hd (xs : List Int) : Option Int := if (!eqT xs ([] : List Int)) = true then some (ixT xs 0) else none
theorem partner_of (T : Tab m n c) {a : Int} (h0 : 0 ≤ a) (h1 : a < n) : Ty.t_partner_of m a = hd (Ps n c a) := by
  unfold Ty.t_partner_of hd
  rw [p_some T h0 h1]
theorem hd_ok {xs : List Int} (h : (!eqT xs ([] : List Int)) = true) : (L2.atI xs 0).isSome = true := by
  rw [eqT_eq] at h
  cases xs with
  | nil => simp at h
  | cons x xs => exact atI_isSome (Int.le_refl _) (by simp)
theorem p_partner_of (T : Tab m n c) {a : Int} (h0 : 0 ≤ a) (h1 : a < n) : Ty.p_partner_of m a := ⟨⟨p_all T, fun x _ => p_partner T a x⟩, fun h => hd_ok h⟩
theorem told_some (T : Tab m n c) : Ty.t_partners_told_some m = (Rg n).map fun a => hd (Ps n c a) := by
  unfold Ty.t_partners_told_some
  rw [all_modes T]
  refine List.map_congr_left fun a ha => ?_
  have hr := mem_rangeT.mp ha
  exact partner_of T hr.1 hr.2
theorem idx_of_in {α : Type} [Enc α] {x : α} {xs : List α} (h : inT x xs = true) : (idxT xs x).isSome = true := by
  unfold idxT
  have : (List.findIdx? (fun z => eqT z x) xs) ≠ none := fun e => by
    have := List.findIdx?_eq_none_iff.mp e
    obtain ⟨z, hz, q⟩ := List.any_eq_true.mp h
    rw [this z hz] at q
    cases q
  exact Option.isSome_iff_ne_none.mpr this
theorem p_told (T : Tab m n c) : Ty.p_partners_told m := ⟨⟨p_all T, fun x hx => by
  rw [all_modes T] at hx
  have hr := mem_rangeT.mp hx
  exact p_partner_of T hr.1 hr.2⟩, fun h => idx_of_in h⟩
end
end Pu
namespace Pu
open PySem R
open Enc (enc)
/-- what is drawn -/
structure Good (N : List Str) (P : List (Vec Str)) : Prop where
  nd : N.Nodup
  len : N.length ≤ 1000
  lay : ∀ x ∈ N, layT x
  pr : ∀ p ∈ P, ∃ x y, p = Vec.mk [x, y] ∧ x ∈ N ∧ y ∈ N
section
variable {N : List Str} {P : List (Vec Str)}
def cB (N : List Str) (P : List (Vec Str)) (i j : Int) : Bool := decide (Vec.mk [ixT N i, ixT N j] ∈ P) || decide (Vec.mk [ixT N j, ixT N i] ∈ P)
theorem cB_sym (i j : Int) : cB N P i j = cB N P j i := by
  unfold cB
  exact Bool.or_comm _ _
theorem at_of {x : Str} (h : x ∈ N) : ∃ i : Int, 0 ≤ i ∧ i < N.length ∧ ixT N i = x := by
  obtain ⟨j, hj, rfl⟩ := List.mem_iff_getElem.mp h
  exact ⟨j, by omega, by omega, ixT_nat hj⟩
theorem ix_inj (g : Good N P) {i j : Int} (h0 : 0 ≤ i) (h1 : i < N.length) (g0 : 0 ≤ j) (g1 : j < N.length) (e : ixT N i = ixT N j) : i = j := by
  obtain ⟨a, rfl⟩ := Int.eq_ofNat_of_zero_le h0
  obtain ⟨b, rfl⟩ := Int.eq_ofNat_of_zero_le g0
  rw [ixT_nat (by omega), ixT_nat (by omega)] at e
  have := (List.getElem_inj g.nd).mp e
  omega
theorem known (g : Good N P) (Q : Vec (Vec Str)) {i : Int} (h0 : 0 ≤ i) (h1 : i < N.length) : getT (Ty.t_modes_told_known ⟨N⟩ Q) (ixT N i) = some i := by
  unfold Ty.t_modes_told_known
  refine getT_nodup ?_ ?_
  · rw [List.map_map]
    have e : ((fun x : Str × Int => x.1) ∘ fun x_1 : Int × Str => (x_1.2, x_1.1)) = fun p : Int × Str => p.2 := rfl
    rw [e]
    have : (enumT N).map (fun p : Int × Str => p.2) = N := by
      unfold enumT
      rw [List.map_map]
      show N.zipIdx.map (fun p => p.1) = N
      exact List.zipIdx_map_fst ..
    rw [this]
    exact g.nd
  · obtain ⟨j, rfl⟩ := Int.eq_ofNat_of_zero_le h0
    have hj : j < N.length := by omega
    refine List.mem_map.mpr ⟨((j : Int), ixT N (j : Int)), mem_enumT.mpr ⟨j, rfl, ?_⟩, rfl⟩
    show N[j]? = some (ixT N (j : Int))
    rw [ixT_nat hj]
    simp [hj]
theorem some_mem (g : Good N P) {i j : Int} (h0 : 0 ≤ i) (h1 : i < N.length) (g0 : 0 ≤ j) (g1 : j < N.length) : (Vec.mk [min i j, max i j] : Vec Int) ∈ Ty.t_modes_told_some ⟨N⟩ ⟨P⟩ ↔ cB N P i j = true := by
  unfold Ty.t_modes_told_some
  rw [List.mem_map]
  have key : ∀ a b : Int, 0 ≤ a → a < N.length → 0 ≤ b → b < N.length → (Vec.mk (sortT ([((getT (Ty.t_modes_told_known ⟨N⟩ ⟨P⟩) (ixT ([ixT N a, ixT N b] : List Str) 0)).getD default), ((getT (Ty.t_modes_told_known ⟨N⟩ ⟨P⟩) (ixT ([ixT N a, ixT N b] : List Str) 1)).getD default)] : List Int)) : Vec Int) = Vec.mk [min a b, max a b] := fun a b a0 a1 b0 b1 => by
    have e0 : ixT ([ixT N a, ixT N b] : List Str) 0 = ixT N a := rfl
    have e1 : ixT ([ixT N a, ixT N b] : List Str) 1 = ixT N b := rfl
    rw [e0, e1, known g _ a0 a1, known g _ b0 b1, ← sortT_two]
    rfl
  unfold cB
  rw [Bool.or_eq_true, decide_eq_true_iff, decide_eq_true_iff]
  constructor
  · rintro ⟨p, hp, e⟩
    obtain ⟨x, y, rfl, hx, hy⟩ := g.pr p hp
    obtain ⟨a, a0, a1, rfl⟩ := at_of hx
    obtain ⟨b, b0, b1, rfl⟩ := at_of hy
    have e' := (key a b a0 a1 b0 b1).symm.trans e
    have e2 : [min a b, max a b] = [min i j, max i j] := Vec.mk.inj e'
    simp only [List.cons.injEq, and_true] at e2
    have : (a = i ∧ b = j) ∨ (a = j ∧ b = i) := by omega
    rcases this with ⟨rfl, rfl⟩ | ⟨rfl, rfl⟩
    · exact .inl hp
    · exact .inr hp
  · rintro (h | h)
    · exact ⟨_, h, key i j h0 h1 g0 g1⟩
    · refine ⟨_, h, (key j i g0 g1 h0 h1).trans ?_⟩
      congr 2
      · exact Int.min_comm j i
      · rw [Int.max_comm j i]
theorem tab (g : Good N P) : Tab (Ty.t_modes_told ⟨N⟩ ⟨P⟩) N.length (cB N P) := by
  refine ⟨rfl, by have := g.len; omega, fun i j h0 h1 g0 g1 => ?_, cB_sym⟩
  unfold Ty.t_is_clashing
  rw [inT_eq]
  have e : (Vec.mk [min i j, max i j] ∈ (Ty.t_modes_told ⟨N⟩ ⟨P⟩).2.l) ↔ cB N P i j = true := by
    show Vec.mk [min i j, max i j] ∈ sortT _ ↔ _
    rw [mem_sortT, mem_dictT, List.map_map]
    have : ((fun x : Vec Int × Unit => x.1) ∘ fun x_7 : Vec Int => (x_7, ())) = id := rfl
    rw [this, List.map_id]
    exact some_mem g h0 h1 g0 g1
  cases h : cB N P i j with
  | true => exact decide_eq_true (e.mpr h)
  | false => exact decide_eq_false fun q => absurd (h.symm.trans (e.mp q)) Bool.false_ne_true
theorem flat_nonempty (g : Good N P) : Ty.p_modes_told ⟨N⟩ ⟨P⟩ := by
  refine ⟨fun p hp => ?_, ?_⟩
  · obtain ⟨x, y, rfl, hx, hy⟩ := g.pr p hp
    obtain ⟨a, a0, a1, rfl⟩ := at_of hx
    obtain ⟨b, b0, b1, rfl⟩ := at_of hy
    refine ⟨rfl, ?_, ?_⟩
    · show (getT _ (ixT N a)).isSome = true
      rw [known g _ a0 a1]; rfl
    · show (getT _ (ixT N b)).isSome = true
      rw [known g _ b0 b1]; rfl
  · refine .inr (.inr ⟨fun _ => false, fun d hd => ?_⟩)
    obtain ⟨v, hv, rfl⟩ := List.mem_map.mp hd
    have hv' := mem_dictT.mp hv
    rw [List.map_map] at hv'
    have : ((fun x : Vec Int × Unit => x.1) ∘ fun x_7 : Vec Int => (x_7, ())) = id := rfl
    rw [this, List.map_id] at hv'
    unfold Ty.t_modes_told_some at hv'
    obtain ⟨p, hp, rfl⟩ := List.mem_map.mp hv'
    generalize ((getT (Ty.t_modes_told_known ⟨N⟩ ⟨P⟩) (ixT p.l 0)).getD default) = a
    generalize ((getT (Ty.t_modes_told_known ⟨N⟩ ⟨P⟩) (ixT p.l 1)).getD default) = b
    rw [sortT_two]
    exact ⟨_, _, rfl, rfl⟩
/-! ### free, lower -/
def fr (N : List Str) (P : List (Vec Str)) (a : Int) : List Int := (Rg N.length).filter fun k => !cB N P a k
theorem enumT_range (xs : List Str) : enumT xs = (rangeT 0 xs.length).map fun k => (k, ixT xs k) := by
  refine List.ext_getElem? fun j => ?_
  unfold enumT
  rw [rangeT_nat, List.map_map, List.getElem?_map, List.getElem?_map, List.getElem?_zipIdx]
  by_cases h : j < xs.length
  · rw [List.getElem?_range h, List.getElem?_eq_getElem h]
    show some ((((0 + j : Nat)) : Int), xs[j]) = some ((j : Int), ixT xs (j : Int))
    rw [ixT_nat h, Nat.zero_add]
  · rw [List.getElem?_eq_none (by omega), List.getElem?_eq_none (by simpa using h)]
    rfl
theorem law_free (g : Good N P) {a : Int} (h0 : 0 ≤ a) (h1 : a < N.length) : Ty.t__law_free ⟨N⟩ ⟨P⟩ (ixT N a) = fr N P a := by
  unfold Ty.t__law_free fr
  rw [enumT_range, List.filter_map, List.map_map]
  have e : ((fun x_1 : Int × Str => x_1.1) ∘ fun k => (k, ixT N k)) = id := rfl
  rw [e, List.map_id]
  refine List.filter_congr fun k _ => ?_
  show ((!inT (Vec.mk [ixT N a, ixT N k]) P) && (!inT (Vec.mk [ixT N k, ixT N a]) P)) = !cB N P a k
  rw [inT_eq, inT_eq]
  unfold cB
  rw [Bool.not_or]
def F (N : List Str) (P : List (Vec Str)) : List (List Int) := List.map (fun x_7 : Str => Ty.t__law_free ⟨N⟩ ⟨P⟩ x_7) N
theorem F_len : (F N P).length = N.length := by simp [F]
theorem F_at (g : Good N P) {a : Int} (h0 : 0 ≤ a) (h1 : a < N.length) : ixT (F N P) a = fr N P a := by
  rw [← law_free g h0 h1]
  obtain ⟨j, rfl⟩ := Int.eq_ofNat_of_zero_le h0
  have hj : j < N.length := by omega
  rw [ixT_nat (by rw [F_len]; exact hj), ixT_nat hj]
  simp [F]
theorem F_some {a : Int} (h0 : 0 ≤ a) (h1 : a < N.length) : (L2.atI (F N P) a).isSome = true := atI_isSome h0 (by rw [F_len]; exact h1)
theorem in_fr {a b : Int} : inT b (fr N P a) = (decide (0 ≤ b ∧ b < N.length) && !cB N P a b) := by
  rw [inT_eq]
  unfold fr
  by_cases h : 0 ≤ b ∧ b < N.length
  · rw [decide_eq_true h, Bool.true_and]
    cases e : cB N P a b with
    | true =>
      refine decide_eq_false fun q => ?_
      have := (List.mem_filter.mp q).2
      rw [e] at this
      cases this
    | false => exact decide_eq_true (List.mem_filter.mpr ⟨mem_rangeT.mpr h, by rw [e]; rfl⟩)
  · rw [decide_eq_false h, Bool.false_and]
    exact decide_eq_false fun q => h (mem_rangeT.mp (List.mem_filter.mp q).1)
def Lo (N : List Str) (P : List (Vec Str)) : List (List Bool) := List.map (fun x_12 : Int => (List.map (fun x_15 : Int => (eqT (List.map (fun x_18 : Int => x_18) (List.filter (fun x_18 => (!inT x_18 (ixT (F N P) x_12))) (ixT (F N P) x_15))) ([] : (List Int)))) (rangeT 0 (N.length : Int)))) (rangeT 0 (N.length : Int))
theorem Lo_len : (Lo N P).length = N.length := by simp [Lo, rangeT_length]
theorem Lo_row {a : Int} (h0 : 0 ≤ a) (h1 : a < N.length) : (ixT (Lo N P) a).length = N.length := by
  unfold Lo
  rw [ixT_map_range h0 h1]
  simp [rangeT_length]
theorem Lo_some {a : Int} (h0 : 0 ≤ a) (h1 : a < N.length) : (L2.atI (Lo N P) a).isSome = true := atI_isSome h0 (by rw [Lo_len]; exact h1)
theorem Lo_some2 {a b : Int} (h0 : 0 ≤ a) (h1 : a < N.length) (g0 : 0 ≤ b) (g1 : b < N.length) : (L2.atI (ixT (Lo N P) a) b).isSome = true := atI_isSome g0 (by rw [Lo_row h0 h1]; exact g1)
theorem Lo_at (g : Good N P) {a b : Int} (h0 : 0 ≤ a) (h1 : a < N.length) (g0 : 0 ≤ b) (g1 : b < N.length) : ixT (ixT (Lo N P) a) b = LW N.length (cB N P) a b := by
  unfold Lo
  rw [ixT_map_range h0 h1, ixT_map_range g0 g1, mapid, eq_nil, F_at g h0 h1, F_at g g0 g1]
  unfold LW
  show ((Rg N.length).filter _).all _ = _
  rw [List.all_filter]
  refine all_congr' fun k hk => ?_
  have hr := mem_rangeT.mp hk
  rw [in_fr, decide_eq_true hr, Bool.true_and, Bool.not_not, Bool.not_not, Bool.or_comm]
end
end Pu
namespace Pu
open PySem R
open Enc (enc)
section
variable {n : Int} {c : Int → Int → Bool}
theorem LW_iff {a b : Int} : LW n c a b = true ↔ ∀ k, 0 ≤ k → k < n → c a k = true → c b k = true := by
  unfold LW
  rw [List.all_eq_true]
  constructor
  · intro h k h0 h1 q
    have := h k (mem_rangeT.mpr ⟨h0, h1⟩)
    rw [q] at this
    simpa using this
  · intro h k hk
    have hr := mem_rangeT.mp hk
    cases e : c a k with
    | false => rfl
    | true => rw [h k hr.1 hr.2 e]; rfl
theorem PT_iff {a p : Int} : PT n c a p = true ↔ ∀ k, 0 ≤ k → k < n → (c p k = !LW n c k a) := by
  unfold PT
  rw [List.all_eq_true]
  constructor
  · intro h k h0 h1
    have := h k (mem_rangeT.mpr ⟨h0, h1⟩)
    revert this
    cases c p k <;> cases LW n c k a <;> simp
  · intro h k hk
    have hr := mem_rangeT.mp hk
    rw [h k hr.1 hr.2]
    cases LW n c k a <;> rfl
theorem LW_refl (a : Int) : LW n c a a = true := LW_iff.mpr fun _ _ _ h => h
theorem LW_trans {a b d : Int} (h : LW n c a b = true) (g : LW n c b d = true) : LW n c a d = true := LW_iff.mpr fun k h0 h1 q => LW_iff.mp g k h0 h1 (LW_iff.mp h k h0 h1 q)
theorem due_eq (sym : ∀ i j, c i j = c j i) {a p : Int} (a0 : 0 ≤ a) (a1 : a < n) (p0 : 0 ≤ p) (p1 : p < n) : (!c a p && (Rg n).all fun k => LW n c k a || c p k) = PT n c a p := by
  rw [Bool.eq_iff_iff, Bool.and_eq_true, List.all_eq_true, PT_iff]
  constructor
  · rintro ⟨h1, h2⟩ k k0 k1
    have := h2 k (mem_rangeT.mpr ⟨k0, k1⟩)
    cases e : LW n c k a with
    | false => rw [e, Bool.false_or] at this; rw [this]; rfl
    | true =>
      cases e2 : c p k with
      | false => rfl
      | true =>
        have := LW_iff.mp e p p0 p1 (by rw [sym]; exact e2)
        rw [this] at h1
        cases h1
  · intro h
    refine ⟨?_, fun k hk => ?_⟩
    · have := h a a0 a1
      rw [LW_refl] at this
      rw [sym, this]
      rfl
    · have hr := mem_rangeT.mp hk
      rw [h k hr.1 hr.2]
      cases LW n c k a <;> rfl
theorem pair_eq {a b pa pb : Int} (a0 : 0 ≤ a) (a1 : a < n) (h : PT n c a pa = true) (g : PT n c b pb = true) : LW n c a b = LW n c pb pa := by
  have h' := PT_iff.mp h
  have g' := PT_iff.mp g
  rw [Bool.eq_iff_iff]
  constructor
  · intro q
    refine LW_iff.mpr fun k k0 k1 w => ?_
    rw [g' k k0 k1] at w
    rw [h' k k0 k1]
    cases e : LW n c k a with
    | false => rfl
    | true => rw [LW_trans e q] at w; cases w
  · intro q
    have := LW_iff.mp q a a0 a1
    rw [g' a a0 a1, h' a a0 a1, LW_refl] at this
    cases e : LW n c a b with
    | true => rfl
    | false => rw [e] at this; exact absurd (this rfl) (by decide)
theorem mem_Ps {a p : Int} : p ∈ Ps n c a ↔ (0 ≤ p ∧ p < n) ∧ PT n c a p = true := by
  unfold Ps
  rw [List.mem_filter, mem_rangeT]
theorem hd_some {xs : List Int} {p : Int} (h : hd xs = some p) : p ∈ xs := by
  unfold hd at h
  cases xs with
  | nil => rw [eqT_eq] at h; simp at h
  | cons x xs =>
    split at h
    · cases h
      exact ixT_mem (Int.le_refl _) (by simp)
    · cases h
end
theorem eqT_self {α : Type} [Enc α] [DecidableEq α] [Lawful α] (x : α) : eqT x x = true := by rw [eqT_eq]; exact decide_eq_true rfl
theorem ne_self {α : Type} [Enc α] [DecidableEq α] [Lawful α] {x y : α} (h : x = y) : (!eqT x y) = false := by rw [h, eqT_self]; rfl
/-- the told pair, whatever it holds -/
theorem pair_self {d : PyData} {s : Str} (h : PyData.eqv d d = true) : eqT (s, d) (s, d) = true := by
  show (PyData.eqv (.str s) (.str s) && (PyData.eqv d d && true)) = true
  rw [h]
  show ((s == s) && true) = true
  rw [beq_self_eq_true]
  rfl
theorem lay_vo (D : List (Option Int)) : layT (Vec.mk D) := NoStr.lay _
theorem tell_ok (b : Bool) (D : List (Option Int)) (i : Int) : SeqAt.shaped (enc ((if b = true then (("none" : Str), (enc i : PyData)) else (("partners" : Str), enc (Vec.mk D))) : Str × PyData)) = true := by
  cases b with
  | true =>
    have : SeqAt.shaped (enc (("none" : Str), i)) = true := shaped_of (lay_pair (show layT ("none" : Str) by unfold layT; decide +kernel) (NoStr.lay i))
    exact this
  | false =>
    have : SeqAt.shaped (enc (("partners" : Str), Vec.mk D)) = true := shaped_of (lay_pair (show layT ("partners" : Str) by unfold layT; decide +kernel) (NoStr.lay _))
    exact this
end Pu
namespace Pu
open PySem R
open Enc (enc)
abbrev nn (N : List Str) : Int := (N.length : Int)
def D (N : List Str) (P : List (Vec Str)) : List (Option Int) := (Rg N.length).map fun a => hd (Ps N.length (cB N P) a)
theorem D_at {N : List Str} {P : List (Vec Str)} {a : Int} (h0 : 0 ≤ a) (h1 : a < N.length) : ixT (D N P) a = hd (Ps N.length (cB N P) a) := ixT_map_range h0 h1
theorem D_some {N : List Str} {P : List (Vec Str)} {a : Int} (h0 : 0 ≤ a) (h1 : a < N.length) : (L2.atI (D N P) a).isSome = true := atI_isSome h0 (by simp only [D, List.length_map, rangeT_length]; omega)
theorem pref {α : Type} {xs p post : List α} {x : α} (e : xs = p ++ x :: post) : x ∈ xs := by rw [e]; simp
section
variable {N : List Str} {P : List (Vec Str)} (g : Good N P)
include g
theorem like {a p q : Int} (p0 : 0 ≤ p) (p1 : p < N.length) (q0 : 0 ≤ q) (q1 : q < N.length) (hp : PT N.length (cB N P) a p = true) (hq : PT N.length (cB N P) a q = true) : Ty.t_are_like (Ty.t_modes_told ⟨N⟩ ⟨P⟩) p q = true := by
  unfold Ty.t_are_like
  rw [cw (tab g) p0 p1, cw (tab g) q0 q1, eqT_eq]
  refine decide_eq_true (congrArg Vec.mk (List.filter_congr fun k hk => ?_))
  have hr := mem_rangeT.mp hk
  rw [PT_iff.mp hp k hr.1 hr.2, PT_iff.mp hq k hr.1 hr.2]
/-- due, as the law counts it -/
theorem due_is {a p : Int} (a0 : 0 ≤ a) (a1 : a < N.length) (p0 : 0 ≤ p) (p1 : p < N.length) :
    ((inT p (ixT (F N P) a)) && (eqT (List.map (fun x_114 : Int => x_114) (List.filter (fun x_114 => ((!(ixT (ixT (Lo N P) x_114) a)) && (inT x_114 (ixT (F N P) p)))) (Rg N.length))) ([] : (List Int)))) = PT N.length (cB N P) a p := by
  rw [mapid, eq_nil, F_at g a0 a1, F_at g p0 p1, in_fr, decide_eq_true ⟨p0, p1⟩, Bool.true_and, ← due_eq cB_sym a0 a1 p0 p1]
  congr 1
  refine all_congr' fun k hk => ?_
  have hr := mem_rangeT.mp hk
  rw [Lo_at g hr.1 hr.2 a0 a1, in_fr, decide_eq_true hr, Bool.true_and]
  cases LW N.length (cB N P) k a <;> cases cB N P p k <;> rfl
theorem row_is {a p : Int} (a0 : 0 ≤ a) (a1 : a < N.length) (p0 : 0 ≤ p) (p1 : p < N.length) (h : PT N.length (cB N P) a p = true) : ixT (F N P) p = List.map (fun x_122 : Int => x_122) (List.filter (fun x_122 => (ixT (ixT (Lo N P) x_122) a)) (Rg N.length)) := by
  rw [mapid, F_at g p0 p1]
  refine List.filter_congr fun k hk => ?_
  have hr := mem_rangeT.mp hk
  rw [Lo_at g hr.1 hr.2 a0 a1, PT_iff.mp h k hr.1 hr.2, Bool.not_not]
theorem nb : -(2 ^ 62) ≤ nn N ∧ nn N ≤ 16777216 := by
  have := g.len
  unfold nn
  constructor <;> omega
end
theorem told_is {N : List Str} {P : List (Vec Str)} (g : Good N P) : Ty.t_partners_told (Ty.t_modes_told ⟨N⟩ ⟨P⟩) = if inT none (D N P) = true then (("none" : Str), enc (((idxT (D N P) none).getD 0 : Nat) : Int)) else (("partners" : Str), enc (Vec.mk (D N P))) := by
  unfold Ty.t_partners_told
  rw [told_some (tab g)]
  rfl
end Pu
namespace Pu
open PySem PySem.Spec PyProof.Rows R
open Enc (enc)
theorem inT_iff {α : Type} [Enc α] [DecidableEq α] [Lawful α] {x : α} {xs : List α} : inT x xs = true ↔ x ∈ xs := by
  rw [inT_eq]
  exact decide_eq_true_iff
theorem inOk_pairs {N : List Str} {P : List (Vec Str)} (g : Good N P) {x y : Str} (hx : x ∈ N) (hy : y ∈ N) : inOk (Vec.mk [x, y] : Vec Str) P := by
  refine inOk_lay (lay_vec fun a ha => ?_) (fun p hp => ?_)
  · rcases List.mem_cons.mp ha with rfl | ha
    · exact g.lay _ hx
    · rw [List.mem_singleton.mp ha]; exact g.lay _ hy
  · obtain ⟨a, b, rfl, h1, h2⟩ := g.pr p hp
    refine lay_vec fun c hc => ?_
    rcases List.mem_cons.mp hc with rfl | hc
    · exact g.lay _ h1
    · rw [List.mem_singleton.mp hc]; exact g.lay _ h2
theorem p_free {N : List Str} {P : List (Vec Str)} (g : Good N P) {x : Str} (hx : x ∈ N) : Ty.p__law_free ⟨N⟩ ⟨P⟩ x := by
  intro p hp
  obtain ⟨j, _, h⟩ := mem_enumT.mp hp
  have hm : p.2 ∈ N := List.mem_of_getElem? h
  exact ⟨inOk_pairs g hx hm, fun _ => inOk_pairs g hm hx⟩
def goodB (N : List Str) (P : List (Vec Str)) : Bool := decide N.Nodup && decide (N.length ≤ 1000) && (N.all fun x => (enc x).canLay0) && P.all fun p => match p.l with
  | [x, y] => decide (x ∈ N) && decide (y ∈ N)
  | _ => false
theorem good_of {N : List Str} {P : List (Vec Str)} (h : goodB N P = true) : Good N P := by
  unfold goodB at h
  simp only [Bool.and_eq_true, decide_eq_true_eq] at h
  obtain ⟨⟨⟨h1, h2⟩, h3⟩, h4⟩ := h
  refine ⟨h1, h2, fun x hx => List.all_eq_true.mp h3 x hx, fun p hp => ?_⟩
  have := List.all_eq_true.mp h4 p hp
  obtain ⟨l⟩ := p
  match l, this with
  | [x, y], h =>
    simp only [Bool.and_eq_true, decide_eq_true_eq] at h
    exact ⟨x, y, rfl, h.1, h.2⟩
theorem law_body (drawn : ∀ Q : ((Vec Str) × (Vec (Vec Str))) → Prop, (∀ N P, Good N P → Q (⟨N⟩, ⟨P⟩)) → Ty.w__law_drawn Q) : Ty.w_law (fun b => b = true) := by
  unfold Ty.w_law
  refine drawn _ fun N P g => ?_
  refine ⟨⟨flat_nonempty g, nb g⟩, fun x hx => p_free g hx, ?_⟩
  have hle : (N.length : Int) ≤ 1000 := by have := g.len; omega
  have T := tab g
  refine ⟨fun a ha b hb => ?_, trivial, ?_⟩
  · have ra := mem_rangeT.mp ha
    have rb := mem_rangeT.mp hb
    exact ⟨F_some rb.1 rb.2, fun _ _ => F_some ra.1 ra.2⟩
  refine forT_by (fun p s => s = p.map fun a => hd (Ps N.length (cB N P) a)) rfl ?_ ?_
  · rintro pre a post s k e rfl hk
    have ha : a ∈ Rg N.length := by rw [show Rg N.length = pre ++ a :: post from e]; simp
    have ra := mem_rangeT.mp ha
    refine ⟨trivial, ?_⟩
    refine forT_by (fun p s => s = p.filter fun q => PT N.length (cB N P) a q) rfl ?_ ?_
    · rintro pre2 p post2 s k2 e2 rfl hk2
      have hp : p ∈ Rg N.length := by rw [show Rg N.length = pre2 ++ p :: post2 from e2]; simp
      have rp := mem_rangeT.mp hp
      have hd' := due_is g ra.1 ra.2 rp.1 rp.2
      have hlen : pre2.length ≤ 1000 := by
        have h1 := congrArg List.length e2
        have h2 : (rangeT 0 (N.length : Int)).length = N.length := by rw [rangeT_length]; omega
        have h3 : (rangeT 0 (N.length : Int)).length = (pre2 ++ p :: post2).length := h1
        rw [h2, List.length_append, List.length_cons] at h3
        have := g.len
        omega
      refine ⟨⟨F_some ra.1 ra.2, fun _ k hk => ?_⟩, p_partner T a p, ?_⟩
      · have rk := mem_rangeT.mp hk
        exact ⟨⟨Lo_some rk.1 rk.2, Lo_some2 rk.1 rk.2 ra.1 ra.2⟩, fun _ => F_some rp.1 rp.2⟩
      refine ⟨fun h => ?_, fun _ => ⟨fun _ => ⟨F_some rp.1 rp.2, fun k hk => ?_⟩, fun h => ?_, fun _ => ⟨fun _ => ?_, ?_⟩⟩⟩
      · have h' := h
        rw [partner T ra.1 ra.2 rp.1 rp.2] at h'
        exact absurd (h'.symm.trans (ne_self hd'.symm)) (by decide)
      · have rk := mem_rangeT.mp hk
        exact ⟨Lo_some rk.1 rk.2, Lo_some2 rk.1 rk.2 ra.1 ra.2⟩
      · have h' : (PT N.length (cB N P) a p && (!eqT (ixT (F N P) p) (List.map (fun x_122 : Int => x_122) (List.filter (fun x_122 => (ixT (ixT (Lo N P) x_122) a)) (Rg N.length))))) = true := by
          rw [← hd']; exact h
        rw [Bool.and_eq_true] at h'
        exact absurd (h'.2.symm.trans (ne_self (row_is g ra.1 ra.2 rp.1 rp.2 h'.1))) (by decide)
      · show (pre2.filter _).length + 1 ≤ sizeLine
        have := List.length_filter_le (fun q => PT N.length (cB N P) a q) pre2
        rw [sizeLine_eq]
        omega
      · refine hk2 _ ?_
        have e3 : ((inT p (ixT (F N P) a)) && (eqT (List.map (fun x_114 : Int => x_114) (List.filter (fun x_114 => ((!(ixT (ixT (Lo N P) x_114) a)) && (inT x_114 (ixT (F N P) p)))) (Rg N.length))) ([] : (List Int)))) = PT N.length (cB N P) a p := hd'
        rw [List.filter_append]
        show (if ((inT p (ixT (F N P) a)) && (eqT (List.map (fun x_114 : Int => x_114) (List.filter (fun x_114 => ((!(ixT (ixT (Lo N P) x_114) a)) && (inT x_114 (ixT (F N P) p)))) (Rg N.length))) ([] : (List Int)))) = true then _ else _) = _
        rw [e3]
        cases h : PT N.length (cB N P) a p with
        | true => simp [h]
        | false => simp [h]
    · rintro s rfl
      have hs : (rangeT 0 (N.length : Int)).filter (fun q => PT N.length (cB N P) a q) = Ps N.length (cB N P) a := rfl
      have mem0 : ∀ x ∈ Ps N.length (cB N P) a, ixT (Ps N.length (cB N P) a) 0 ∈ Ps N.length (cB N P) a := fun x hx => by
        refine ixT_mem (Int.le_refl _) ?_
        have := List.length_pos_of_mem hx
        omega
      have likes : (List.map (fun x_82 : Int => x_82) (List.filter (fun x_82 => (!(Ty.t_are_like (Ty.t_modes_told ⟨N⟩ ⟨P⟩) (ixT (Ps N.length (cB N P) a) (0 : Int)) x_82))) (Ps N.length (cB N P) a))) = [] := by
        rw [mapid]
        refine List.filter_eq_nil_iff.mpr fun x hx => ?_
        have h1 := mem_Ps.mp hx
        have h0 := mem_Ps.mp (mem0 x hx)
        rw [like g h0.1.1 h0.1.2 h1.1.1 h1.1.2 h0.2 h1.2]
        simp
      have po := partner_of T ra.1 ra.2
      refine ⟨fun x hx => ⟨atI_isSome (Int.le_refl _) ?_, p_like T _ _⟩, fun h => ?_, fun _ => ⟨⟨p_partner_of T ra.1 ra.2, fun h => hd_ok h⟩, fun h => ?_, fun _ => ⟨?_, fun h => hd_ok h, trivial, ?_⟩⟩⟩
      · have := List.length_pos_of_mem hx
        omega
      · exact absurd (h.symm.trans (ne_self likes)) (by decide)
      · exact absurd (h.symm.trans (ne_self po)) (by decide)
      · show (pre.map _).length < sizeLine
        have h1 := congrArg List.length e
        have h2 : (rangeT 0 (N.length : Int)).length = N.length := by rw [rangeT_length]; omega
        have h3 : (rangeT 0 (N.length : Int)).length = (pre ++ a :: post).length := h1
        rw [h2, List.length_append, List.length_cons] at h3
        have := g.len
        rw [List.length_map, sizeLine_eq]
        omega
      · refine forT_all (fun _ => True) trivial (fun b hb s k _ hk => ?_) fun _ _ => hk _ ?_
        · have rb := mem_rangeT.mp hb
          have e1 : (!eqT (Ty.t_is_clashing (Ty.t_modes_told ⟨N⟩ ⟨P⟩) a b) (!inT b (ixT (F N P) a))) = false := by
            refine ne_self ?_
            rw [T.cl a b ra.1 ra.2 rb.1 rb.2, F_at g ra.1 ra.2, in_fr, decide_eq_true rb, Bool.true_and, Bool.not_not]
          have e2 : (!eqT (Ty.t_is_weaker (Ty.t_modes_told ⟨N⟩ ⟨P⟩) a b) (ixT (ixT (Lo N P) a) b)) = false := by
            refine ne_self ?_
            rw [weaker T ra.1 ra.2 rb.1 rb.2, Lo_at g ra.1 ra.2 rb.1 rb.2]
          refine ⟨⟨F_some ra.1 ra.2, fun _ => ⟨p_weaker T a b, Lo_some ra.1 ra.2, Lo_some2 ra.1 ra.2 rb.1 rb.2⟩⟩, fun h => ?_, fun _ => hk _ trivial⟩
          have h' : ((!eqT (Ty.t_is_clashing (Ty.t_modes_told ⟨N⟩ ⟨P⟩) a b) (!inT b (ixT (F N P) a))) || (!eqT (Ty.t_is_weaker (Ty.t_modes_told ⟨N⟩ ⟨P⟩) a b) (ixT (ixT (Lo N P) a) b))) = true := h
          rw [e1, e2] at h'
          cases h'
        · rw [List.map_append]
          rfl
  · rintro s rfl
    have dn : (D N P) = (rangeT 0 (N.length : Int)).map fun a => hd (Ps N.length (cB N P) a) := rfl
    have part : ∀ a : Int, 0 ≤ a → a < N.length → ∀ p, ixT (D N P) a = some p → (0 ≤ p ∧ p < N.length) ∧ PT N.length (cB N P) a p = true := fun a a0 a1 p h => by
      rw [D_at a0 a1] at h
      exact mem_Ps.mp (hd_some h)
    have ti := told_is g
    have hb : (!eqT (Ty.t_partners_told (Ty.t_modes_told ⟨N⟩ ⟨P⟩)) (if (!inT (none : (Option Int)) (D N P)) = true then (("partners" : Str), (enc (Vec.mk (D N P)))) else (("none" : Str), (enc (((idxT (D N P) (none : (Option Int))).getD 0 : Nat) : Int))))) = false := by
      rw [ti]
      cases inT (none : Option Int) (D N P) with
      | true =>
        exact congrArg Bool.not (pair_self (s := ("none" : Str)) (d := enc (((idxT (D N P) none).getD 0 : Nat) : Int)) (eqT_self (((idxT (D N P) none).getD 0 : Nat) : Int)))
      | false =>
        exact congrArg Bool.not (pair_self (s := ("partners" : Str)) (d := enc (Vec.mk (D N P))) (eqT_self (Vec.mk (D N P))))
    have hh : (!eqT (Ty.t_have_partners (Ty.t_modes_told ⟨N⟩ ⟨P⟩)) (!inT (none : (Option Int)) (D N P))) = false := by
      refine ne_self ?_
      unfold Ty.t_have_partners
      rw [ti]
      cases inT (none : Option Int) (D N P) with
      | true => rfl
      | false => rfl
    have eo : eqOk (Ty.t_partners_told (Ty.t_modes_told ⟨N⟩ ⟨P⟩)) (if (!inT (none : (Option Int)) (D N P)) = true then (("partners" : Str), (enc (Vec.mk (D N P)))) else (("none" : Str), (enc (((idxT (D N P) (none : (Option Int))).getD 0 : Nat) : Int)))) := by
      have e2 : (if (!inT (none : (Option Int)) (D N P)) = true then (("partners" : Str), (enc (Vec.mk (D N P)) : PyData)) else (("none" : Str), (enc (((idxT (D N P) (none : (Option Int))).getD 0 : Nat) : Int) : PyData))) = if inT none (D N P) = true then (("none" : Str), enc (((idxT (D N P) none).getD 0 : Nat) : Int)) else (("partners" : Str), enc (Vec.mk (D N P))) := by
        cases inT (none : Option Int) (D N P) <;> rfl
      rw [ti, e2]
      exact .inr ⟨tell_ok _ _ _, tell_ok _ _ _⟩
    refine ⟨fun h => idx_of_in (by simpa using h), ⟨⟨p_told T, eo⟩, fun _ => p_told T⟩, fun h => ?_, fun _ => ⟨trivial, ?_⟩⟩
    · have h' : ((!eqT (Ty.t_partners_told (Ty.t_modes_told ⟨N⟩ ⟨P⟩)) (if (!inT (none : (Option Int)) (D N P)) = true then (("partners" : Str), (enc (Vec.mk (D N P)))) else (("none" : Str), (enc (((idxT (D N P) (none : (Option Int))).getD 0 : Nat) : Int))))) || (!eqT (Ty.t_have_partners (Ty.t_modes_told ⟨N⟩ ⟨P⟩)) (!inT (none : (Option Int)) (D N P)))) = true := h
      rw [hb, hh] at h'
      cases h'
    · refine forT_all (fun _ => True) trivial (fun a ha s k _ hk => ⟨trivial, forT_all (fun _ => True) trivial (fun b hb' s2 k2 _ hk2 => ?_) fun _ _ => hk _ trivial⟩) fun _ _ => ?_
      · have ra : 0 ≤ a ∧ a < (N.length : Int) := mem_rangeT.mp ha
        have rb : 0 ≤ b ∧ b < (N.length : Int) := mem_rangeT.mp hb'
        have nn2 : inT (none : Option Int) [ixT (D N P) a, ixT (D N P) b] = (decide (none = ixT (D N P) a) || decide (none = ixT (D N P) b)) := by
          rw [inT_eq]
          simp
        have both : (!inT (none : (Option Int)) (Vec.mk [(ixT (D N P) a), (ixT (D N P) b)] : (Vec (Option Int))).l) = true → ∃ pa pb, ixT (D N P) a = some pa ∧ ixT (D N P) b = some pb := fun h => by
          have h' : (!inT (none : Option Int) [ixT (D N P) a, ixT (D N P) b]) = true := h
          rw [nn2] at h'
          cases ea : ixT (D N P) a with
          | none => rw [ea] at h'; simp at h'
          | some pa =>
            cases eb : ixT (D N P) b with
            | none => rw [eb] at h'; simp at h'
            | some pb => exact ⟨pa, pb, rfl, rfl⟩
        have all : (!inT (none : (Option Int)) (D N P)) = true → ∃ pb, ixT (D N P) b = some pb := fun h => by
          cases eb : ixT (D N P) b with
          | some pb => exact ⟨pb, rfl⟩
          | none =>
            have : ixT (D N P) b ∈ D N P := ixT_mem rb.1 (by simp only [D, List.length_map, rangeT_length]; omega)
            rw [eb] at this
            have q : inT (none : Option Int) (D N P) = true := inT_iff.mpr this
            rw [q] at h
            cases h
        refine ⟨⟨⟨D_some ra.1 ra.2, D_some rb.1 rb.2⟩, fun h => ?_⟩, fun h => ?_, fun _ => ⟨fun _ => ⟨⟨Lo_some ra.1 ra.2, Lo_some2 ra.1 ra.2 rb.1 rb.2⟩, D_some rb.1 rb.2, F_some ra.1 ra.2⟩, fun h => ?_, fun _ => hk2 _ trivial⟩⟩
        · obtain ⟨pa, pb, ea, eb⟩ := both h
          obtain ⟨⟨pa0, pa1⟩, pa2⟩ := part a ra.1 ra.2 pa ea
          obtain ⟨⟨pb0, pb1⟩, pb2⟩ := part b rb.1 rb.2 pb eb
          refine ⟨⟨Lo_some ra.1 ra.2, Lo_some2 ra.1 ra.2 rb.1 rb.2⟩, ⟨⟨D_some rb.1 rb.2, ?_⟩, ?_⟩, ⟨D_some ra.1 ra.2, ?_⟩, ?_⟩
          · show (ixT (D N P) b).isSome = true
            rw [eb]; rfl
          · show (L2.atI (Lo N P) ((ixT (D N P) b).getD default)).isSome = true
            rw [eb]; exact Lo_some pb0 pb1
          · show (ixT (D N P) a).isSome = true
            rw [ea]; rfl
          · show (L2.atI (ixT (Lo N P) ((ixT (D N P) b).getD default)) ((ixT (D N P) a).getD default)).isSome = true
            rw [ea, eb]; exact Lo_some2 pb0 pb1 pa0 pa1
        · have h' : ((!inT (none : (Option Int)) (Vec.mk [(ixT (D N P) a), (ixT (D N P) b)] : (Vec (Option Int))).l) && (!eqT (ixT (ixT (Lo N P) a) b) (ixT (ixT (Lo N P) (Option.getD (ixT (D N P) b) default)) (Option.getD (ixT (D N P) a) default)))) = true := h
          rw [Bool.and_eq_true] at h'
          obtain ⟨pa, pb, ea, eb⟩ := both h'.1
          obtain ⟨⟨pa0, pa1⟩, pa2⟩ := part a ra.1 ra.2 pa ea
          obtain ⟨⟨pb0, pb1⟩, pb2⟩ := part b rb.1 rb.2 pb eb
          have h2 := h'.2
          rw [ea, eb] at h2
          refine absurd (h2.symm.trans (ne_self ?_)) (by decide)
          show ixT (ixT (Lo N P) a) b = ixT (ixT (Lo N P) pb) pa
          rw [Lo_at g ra.1 ra.2 rb.1 rb.2, Lo_at g pb0 pb1 pa0 pa1, pair_eq ra.1 ra.2 pa2 pb2]
        · have h' : ((!inT (none : (Option Int)) (D N P)) && (!eqT (ixT (ixT (Lo N P) a) b) (inT (ixT (D N P) b) (List.map (fun y_ : Int => (some y_)) (ixT (F N P) a))))) = true := h
          rw [Bool.and_eq_true] at h'
          obtain ⟨pb, eb⟩ := all h'.1
          obtain ⟨⟨pb0, pb1⟩, pb2⟩ := part b rb.1 rb.2 pb eb
          have h2 := h'.2
          refine absurd (h2.symm.trans (ne_self ?_)) (by decide)
          rw [eb, F_at g ra.1 ra.2, Lo_at g ra.1 ra.2 rb.1 rb.2]
          have em : (some pb ∈ List.map (fun y_ : Int => some y_) (fr N P a)) ↔ pb ∈ fr N P a := by
            simp
          have ef : pb ∈ fr N P a ↔ LW N.length (cB N P) a b = true := by
            unfold fr
            rw [List.mem_filter, mem_rangeT, cB_sym a pb, PT_iff.mp pb2 a ra.1 ra.2, Bool.not_not]
            exact ⟨fun q => q.2, fun q => ⟨⟨pb0, pb1⟩, q⟩⟩
          rw [Bool.eq_iff_iff, inT_iff, em, ef]
      · refine ⟨by decide, ⟨fun x hx => ?_, ?_⟩, ?_⟩
        · have gg := good_of (List.all_eq_true.mp (show ((([((Vec.mk [("n" : Str), ("x" : Str)] : (Vec Str)), (Vec.mk [(("x" : Str), ("x" : Str))] : (Vec (Str × Str)))), ((Vec.mk [("n" : Str), ("s" : Str), ("x" : Str)] : (Vec Str)), (Vec.mk [(("s" : Str), ("x" : Str)), (("x" : Str), ("x" : Str))] : (Vec (Str × Str))))] : (List ((Vec Str) × (Vec (Str × Str)))) ) ++ ([((Vec.mk [("n" : Str), ("a" : Str), ("b" : Str)] : (Vec Str)), (Vec.mk [(("a" : Str), ("a" : Str)), (("b" : Str), ("b" : Str))] : (Vec (Str × Str)))), ((Vec.mk [("n" : Str), ("i" : Str)] : (Vec Str)), (Vec.mk [] : (Vec (Str × Str)))), ((Vec.mk [("n" : Str), ("s" : Str), ("t" : Str)] : (Vec Str)), (Vec.mk [(("s" : Str), ("s" : Str))] : (Vec (Str × Str))))] : (List ((Vec Str) × (Vec (Str × Str)))))).all fun x => goodB x.1.l (List.map (fun y_ : (Str × Str) => (Vec.mk [y_.1, y_.2] : (Vec Str))) x.2.l)) = true by decide +kernel) x hx)
          exact ⟨flat_nonempty gg, p_told (tab gg)⟩
        · exact .inr ⟨by decide +kernel, by decide +kernel⟩
        · decide +kernel
end Pu
namespace Pu
open PySem PySem.Spec PyProof.Rows R
open Enc (enc)
abbrev Dr := Str × (List Str)
def kinds : List Dr := ([(("nx" : Str), ([("xx" : Str)] : (List Str))), (("nsx" : Str), ([("sx" : Str), ("xx" : Str)] : (List Str))), (("nijsx" : Str), ([("ix" : Str), ("js" : Str), ("jx" : Str), ("sx" : Str), ("xx" : Str)] : (List Str)))] ++ [(("nst" : Str), ([("ss" : Str), ("st" : Str), ("tt" : Str)] : (List Str)))]) ++ [(("nab" : Str), ([("aa" : Str), ("bb" : Str)] : (List Str))), (("nik" : Str), ([] : (List Str)))]
theorem of_ok {Q : Dr → Prop} (h : ∀ r ∈ kinds, Q r) : Ty.w__law_of kinds Q := by
  refine ⟨by decide +kernel, fun v v0 v1 => ?_⟩
  have hl : v < (kinds.length : Int) := by
    have : max1 (kinds.length : Int) = kinds.length := by decide +kernel
    rw [← this]
    exact v1
  exact ⟨atI_isSome v0 hl, h _ (ixT_mem v0 hl)⟩
def sg (c : Nat) : Str := ⟨#[c]⟩
theorem chars_pair {x y : Str} {N : List Str} (h : ∀ z ∈ N, ∃ c, z = sg c) (hx : x ∈ N) (hy : y ∈ N) : charsT (x ++ y) = [x, y] ∧ (x ++ y).cps.size = 2 := by
  obtain ⟨c, rfl⟩ := h x hx
  obtain ⟨d, rfl⟩ := h y hy
  exact ⟨rfl, rfl⟩
theorem chars_sg (z : Str) : ∀ x ∈ charsT z, ∃ c, x = sg c := fun x hx => by
  obtain ⟨c, _, rfl⟩ := List.mem_map.mp hx
  exact ⟨c, rfl⟩
theorem cut_size (z : Str) (o : Option Int) : (L2.cutS z o none).cps.size ≤ z.cps.size := by
  unfold L2.cutS
  rw [List.size_toArray, List.length_take, List.length_drop, Array.length_toList]
  omega
theorem cut_sub (z : Str) (o : Option Int) : ∀ x ∈ charsT (L2.cutS z o none), x ∈ charsT z := fun x hx => by
  unfold charsT at hx ⊢
  obtain ⟨c, hc, rfl⟩ := List.mem_map.mp hx
  refine List.mem_map.mpr ⟨c, ?_, rfl⟩
  unfold L2.cutS at hc
  have hc' : c ∈ (z.cps.toList.drop (HT.sIx z.length 0 o)).take (HT.sIx z.length z.length none - HT.sIx z.length 0 o) := by simpa using hc
  exact List.mem_of_mem_drop (List.mem_of_mem_take hc')
theorem drawn_ok (Q : ((Vec Str) × (Vec (Vec Str))) → Prop) (h : ∀ N P, Good N P → Q (⟨N⟩, ⟨P⟩)) : Ty.w__law_drawn Q := by
  unfold Ty.w__law_drawn
  refine ⟨by decide, by decide, of_ok fun r hr => ⟨by decide, fun v _ _ => ⟨eqOk_int, fun _ => ⟨by decide, fun w w0 w1 => ⟨by decide +kernel, ?_⟩⟩, fun _ => ⟨⟨?_, ?_⟩, h _ _ ?_⟩⟩⟩⟩
  · -- a drawn one
    have hw : w < 5 := by
      have : max1 (5 : Int) = 5 := by decide
      rw [← this]; exact w1
    have facts : goodB (charsT (L2.cutS ("nabcde" : Str) none (some ((2 : Int) + w)))) [] = true ∧ (L2.cutS ("nabcde" : Str) none (some ((2 : Int) + w))).length ≤ 1000 ∧ (L2.cutS ("nabcde" : Str) none (some ((2 : Int) + w))).cps.size ≤ 1000 := by
      have : w = 0 ∨ w = 1 ∨ w = 2 ∨ w = 3 ∨ w = 4 := by omega
      rcases this with rfl | rfl | rfl | rfl | rfl <;> exact ⟨by decide +kernel, by decide +kernel, by decide +kernel⟩
    obtain ⟨gz, l1, l2⟩ := facts
    generalize L2.cutS ("nabcde" : Str) none (some ((2 : Int) + w)) = Z at gz l1 l2 ⊢
    have l3 : ∀ o : Option Int, (L2.cutS Z o none).cps.size ≤ 1000 := fun o => Nat.le_trans (cut_size Z o) l2
    have sub := cut_sub Z
    have g0 := good_of gz
    have ce : ∀ z : Str, (charsT z).length = z.cps.size := fun z => by simp [charsT]
    have two : ∀ d : Str, (∃ x y, d = x ++ y ∧ x ∈ charsT Z ∧ y ∈ charsT Z) → charsT d ∈ (charsT Z).flatMap (fun x => (charsT Z).map fun y => [x, y]) ∧ d.cps.size ≤ sizeLine := fun d ⟨x, y, e, hx, hy⟩ => by
      subst e
      obtain ⟨e1, e2⟩ := chars_pair (chars_sg Z) hx hy
      refine ⟨?_, by rw [e2]; decide⟩
      rw [e1]
      exact List.mem_flatMap.mpr ⟨x, hx, List.mem_map.mpr ⟨y, hy, rfl⟩⟩
    refine ⟨⟨by rw [sizeLine_eq]; omega, by have := l3 (some 1); rw [sizeLine_eq]; omega⟩, ?_⟩
    refine forT_by (fun p s => s.length ≤ 1000 * p.length ∧ ∀ d ∈ s, ∃ x y, d = x ++ y ∧ x ∈ charsT Z ∧ y ∈ charsT Z) ⟨by simp, by simp⟩ ?_ ?_
    · rintro p x post s k e ⟨i1, i2⟩ hk
      have hx : x ∈ enumT (charsT (L2.cutS Z (some (1 : Int)) none)) := by rw [e]; simp
      obtain ⟨j, _, hj⟩ := mem_enumT.mp hx
      have hx2 : x.2 ∈ charsT Z := sub _ _ (List.mem_of_getElem? hj)
      have pl : p.length ≤ 1000 := by
        have h1 := congrArg List.length e
        rw [enumT_length, ce, List.length_append, List.length_cons] at h1
        have := l3 (some 1)
        omega
      refine ⟨⟨by rw [sizeLine_eq]; omega, by have := l3 (some (x.1 + 1)); rw [sizeLine_eq]; omega⟩, ?_⟩
      refine goW_all (fun d => ∃ y, d = x.2 ++ y ∧ y ∈ charsT Z) (fun y hy k2 hn hs => ⟨by decide, fun v _ _ => ⟨eqOk_int, fun _ => ⟨?_, hs _ ⟨y, rfl, sub _ _ hy⟩⟩, fun _ => hn⟩⟩) fun out ol oh => ?_
      · obtain ⟨c, e1⟩ := chars_sg Z _ hx2
        obtain ⟨d, e2⟩ := chars_sg Z _ (sub _ _ hy)
        rw [e1, e2]
        show 1 + 1 ≤ sizeLine
        decide
      · have ol' : out.length ≤ 1000 := by
          have := l3 (some (x.1 + 1))
          rw [List.length_nil, ce] at ol
          omega
        refine ⟨by rw [sizeLine_eq]; omega, hk _ ⟨?_, fun d hd => ?_⟩⟩
        · rw [List.length_append, List.length_append, List.length_singleton]
          omega
        · rcases List.mem_append.mp hd with q | q
          · exact i2 d q
          · rcases oh d q with q | ⟨y, rfl, hy⟩
            · cases q
            · exact ⟨_, _, rfl, hx2, hy⟩
    · rintro s ⟨_, i2⟩
      refine ⟨⟨by rw [sizeLine_eq]; omega, fun d hd => (two d (i2 d hd)).2⟩, h _ _ ⟨g0.nd, g0.len, g0.lay, fun p hp => ?_⟩⟩
      obtain ⟨d, hd, rfl⟩ := List.mem_map.mp hp
      obtain ⟨x, y, rfl, hx, hy⟩ := i2 d hd
      exact ⟨x, y, congrArg Vec.mk (chars_pair (chars_sg Z) hx hy).1, hx, hy⟩
  · have : ∀ r ∈ kinds, r.1.cps.size ≤ sizeLine := by decide +kernel
    exact this r hr
  · have : ∀ r ∈ kinds, ∀ x ∈ r.2, x.cps.size ≤ sizeLine := by decide +kernel
    exact this r hr
  · have : ∀ r ∈ kinds, goodB (charsT r.1) (List.map (fun x_33 : Str => (Vec.mk (charsT x_33))) r.2) = true := by decide +kernel
    exact good_of (this r hr)
end Pu
namespace Pu
theorem law_holds : Ty.w_law fun b => b = true := law_body drawn_ok
end Pu
namespace Pu
theorem law_true : Lw.C_law [.scr] fun v => v = .d (.bool true) := Ty.okw_law.ok (fun b => b = true) law_holds _ fun a h => h ▸ rfl
end Pu
namespace Lw
open PySem PySem.Spec PyProof.Rows L2 R
structure Mg (mg : Str → Option Value) : Prop where
  abs : mg "abs" = none
  dict : mg "dict" = none
  enumerate : mg "enumerate" = none
  int : mg "int" = none
  len : mg "len" = none
  list : mg "list" = none
  max : mg "max" = none
  min : mg "min" = none
  range : mg "range" = none
  sorted : mg "sorted" = none
  tuple : mg "tuple" = none
  c_LACKS : ∃ t, mg "LACKS" = some (.str "none" t)
  c_PARTNERS : ∃ t, mg "PARTNERS" = some (.str "partners" t)
section
variable {P : Program} {w : World} {K : PySem.W.Frag} {mg : Str → Option Value} {base : Heap}
theorem hu64 {k : Nat} {A : Around} (hr : Room k A) : A.units + 64 < cLine := by have := hr.un; omega
theorem hu65 {k : Nat} {A : Around} (hr : Room k A) : A.units + 65 < cLine := by have := hr.un; omega
theorem hu66 {k : Nat} {A : Around} (hr : Room k A) : A.units + 66 < cLine := by have := hr.un; omega
theorem hu1 {k : Nat} {A : Around} (hr : Room k A) : A.units + 1 < cLine := by have := hr.un; omega
abbrev DAt (K : PySem.W.Frag) (mg : Str → Option Value) (x : Str) (i : Nat) : Prop := DefAt K mg x (defArgs (Hd.top i)) (defBody (Hd.top i)) (defScope (Hd.top i))
theorem c__law_pick (M : Mg mg) (D : DAt K mg "_law_pick" 15) : Cal P w K mg base 1 "_law_pick" ["source", "many"] cPick := by
  have S : FnScope NP ["source", "many"] (defScope (Hd.top 15)) := ⟨rfl, rfl, rfl, by decide +kernel, rfl, by decide +kernel, by decide +kernel⟩
  have ND := S.nd
  refine okT D S (fun _ _ _ _ _ _ us hl => match us, hl with | [_, _], _ => rfl) (tPick K) (fun f cdv A outer s H E hr => ?_) fun vs H Q E h => pick_law (K := ⟨K, P, w⟩) h
  exact pss_cons (ps_while PassesOwn.never (PW.pt (pw_and (pt_cmpR op_gt (pv 1) pe_int (nomark _)) (pw_and (pt_cmpR op_lt (pe_dget (hu1 hr) (pv 0) pe_str fun _ _ => rfl) pe_int (nomark _)) (pw_and1 (pt_cmpR op_gt (pe_callB call_len rfl M.len boot_len (pa_cons (pe_dget (hu1 hr) (pv 0) pe_str fun _ _ => rfl) pa_nil)) pe_int (nomark _))))))
      (pss_one (ps_dput (hu1 hr) (pv 0) pe_str (pe_bm0 PySem.F.plainAttrs_list PySem.F.slot_list_pop PySem.F.type_list_pop mt_pop (pe_dget (hu1 hr) (pv 0) pe_str fun _ _ => rfl)) rfl)))
    (pss_cons (ps_set (i := 2) ND rfl (.inl rfl) (pe_dget (hu1 hr) (pv 0) pe_str fun _ _ => rfl))
    (pss_cons (ps_if (PW.pt (pw_or (pt_cmpR op_lt (pv 1) pe_int (nomark _)) (pw_or1 (pt_cmpR op_gt (pv 2) pe_int (nomark _)))))
      (pss_cons (ps_dput (hu1 hr) (pv 0) pe_str (pe_op op_fdiv (pv 2) (pe_callB (call_max2 rfl) rfl M.max boot_max (pa_cons pe_int (pa_cons (pv 1) pa_nil)))) rfl)
      (pss_one (ps_ret (pe_op op_mod (pe_callTy call_int1 rfl M.int boot_int (pa_cons (pv 2) pa_nil)) (pe_callB (call_max2 rfl) rfl M.max boot_max (pa_cons pe_int (pa_cons (pv 1) pa_nil)))))))
      pss_nil)
    (pss_cons (ps_dput (hu1 hr) (pv 0) pe_str (pe_op op_add (pe_dget (hu1 hr) (pv 0) pe_str fun _ _ => rfl) pe_int) rfl)
    (pss_cons (ps_set (i := 3) ND rfl (.inl rfl) (pe_op op_mod (pe_callTy call_int1 rfl M.int boot_int (pa_cons (pe_op op_add (pe_dget (hu1 hr) (pv 0) pe_str fun _ _ => rfl) (pe_op op_mul (pe_dget (hu1 hr) (pv 0) pe_str fun _ _ => rfl) pe_int)) pa_nil)) pe_int))
    (pss_cons (ps_set (i := 3) ND rfl (.inl rfl) (pe_op op_mod (pe_callTy call_int1 rfl M.int boot_int (pa_cons (pe_op op_add (pe_op op_mul (pv 3) (pv 3)) (pe_op op_mul (pe_dget (hu1 hr) (pv 0) pe_str fun _ _ => rfl) pe_int)) pa_nil)) pe_int))
    (pss_cons (ps_dput (hu1 hr) (pv 0) pe_str (pv 3) rfl)
    (pss_one (ps_ret (pe_op op_mod (pe_callTy call_int1 rfl M.int boot_int (pa_cons (pe_op op_fdiv (pv 3) pe_int) pa_nil)) (pv 1))))))))))
theorem c__law_source (M : Mg mg) (D : DAt K mg "_law_source" 14) : Cal P w K mg base 1 "_law_source" ["script"] cSource := by
  have S : FnScope NS ["script"] (defScope (Hd.top 14)) := ⟨rfl, rfl, rfl, by decide +kernel, rfl, by decide +kernel, by decide +kernel⟩
  have ND := S.nd
  refine okT D S (fun _ _ _ _ _ _ us hl => match us, hl with | [_], _ => rfl) (tSource K) (fun f cdv A outer s H E hr => ?_) fun vs H Q E h => source_law (K := ⟨K, P, w⟩) h
  exact pss_cons (ps_set (i := 1) ND rfl (.inl rfl) pe_int)
    (pss_cons (ps_for PassesOwn.never rfl (pi_seq (pv 0)) (pg_name (i := 2) ND rfl (.inl rfl)) (pss_one (ps_set (i := 1) ND rfl (.inl rfl) (pe_op op_mod (pe_callTy call_int1 rfl M.int boot_int (pa_cons (pe_op op_add (pe_op op_add (pe_op op_mul (pv 1) pe_int) (pe_op op_mul (pv 2) pe_int)) pe_int) pa_nil)) pe_int))) (by intro _; rfl))
    (pss_one (ps_ret (pe_disp (pps_cons pe_str (pe_revL (pe_lc (own := [("cell", 2)]) rfl ND (pi_seq (pv 0)) (blkOk_by (by kernel_rfl)) (fun s H C cl fp => pg_name (i := 2) ND rfl (.inl rfl)) (fun s H C cl fp => pts_nil) (fun s H C cl fp => pe_callB call_abs rfl M.abs boot_abs (pa_cons (pv 2) pa_nil)) (by intro _; rfl))) (pps_cons pe_str pe_int (pps_cons pe_str (pv 1) (pps_cons pe_str pe_int pps_nil)))) rfl rfl (by decide) (by decide)))))
theorem c_modes_told (M : Mg mg) (D : DAt K mg "modes_told" 3)  : Cal P w K mg base 1 "modes_told" ["names", "pairs"] C_modes_told := by
  have S : FnScope N_modes_told ["names", "pairs"] (defScope (Hd.top 3)) := ⟨rfl, rfl, rfl, by decide +kernel, rfl, by decide +kernel, by decide +kernel⟩
  have ND := S.nd
  refine okD D S (fun _ _ _ _ _ _ us hl => match us, hl with | [_, _], _ => rfl) r_modes_told fun f cdv A outer s H E hr => ?_
  exact rss_cons (rs_set (i := 2) ND rfl (by first | exact Or.inl rfl | exact Or.inr rfl) (cT (call_dictG rfl (hu66 hr)) br_dict boot_dict M.dict (rab_cons (RE.bb (re_lc (own := [("number", 3), ("name", 4)]) rfl ND (ri_enum (by rfl) M.enumerate (v 0)) (by kernel_rfl) (by decide) (fun s_ H_ C_ cl_ fp_ => rg_tup rfl (rgs_cons (gN 3 ND) (rgs_cons (gN 4 ND) (rgs_nil)))) (fun s_ H_ C_ cl_ fp_ => rts_nil) (fun s_ H_ C_ cl_ fp_ => re_tup (ra_cons (v 4) (ra_cons (v 3) (ra_nil)))))) (rab_nil))))
      (rss_cons (rs_setLc (i := 5) (own := [("one", 6), ("other", 7)]) rfl ND rfl rfl rfl (ri_seq (v 1)) (by kernel_rfl) (by decide) (fun s_ H_ C_ cl_ fp_ => rg_tup rfl (rgs_cons (gN 6 ND) (rgs_cons (gN 7 ND) (rgs_nil)))) (fun s_ H_ C_ cl_ fp_ => rts_nil) (fun s_ H_ C_ cl_ fp_ => cT (call_tupleG rfl) br_tuple boot_tuple M.tuple (rab_cons (RE.bb (cB (call_sortedG rfl) br_sorted boot_sorted M.sorted (rab_cons (RE.bb (re_lst (ra_cons (re_idx (hu64 hr) (vB 2) (vB 6) (fun _ _ => rfl)) (ra_cons (re_idx (hu64 hr) (vB 2) (vB 7) (fun _ _ => rfl)) (ra_nil))))) (rab_nil)))) (rab_nil))))
      (rss_one (rs_ret (re_tup (ra_cons (cT (call_tupleG rfl) br_tuple boot_tuple M.tuple (rab_cons (vB 0) (rab_nil))) (ra_cons (cT (call_tupleG rfl) br_tuple boot_tuple M.tuple (rab_cons (RE.bb (cB (call_sortedG rfl) br_sorted boot_sorted M.sorted (rab_cons (RE.bb (cT (call_dictG rfl (hu66 hr)) br_dict boot_dict M.dict (rab_cons (RE.bb (re_lc (own := [("pair", 8)]) rfl ND (ri_seq (v 5)) (by kernel_rfl) (by decide) (fun s_ H_ C_ cl_ fp_ => gN 8 ND) (fun s_ H_ C_ cl_ fp_ => rts_nil) (fun s_ H_ C_ cl_ fp_ => re_tup (ra_cons (v 8) (ra_cons (re_non) (ra_nil)))))) (rab_nil)))) (rab_nil)))) (rab_nil))) (ra_nil)))))))
theorem c_all_modes (M : Mg mg) (D : DAt K mg "all_modes" 4)  : Cal P w K mg base 1 "all_modes" ["modes"] C_all_modes := by
  have S : FnScope N_all_modes ["modes"] (defScope (Hd.top 4)) := ⟨rfl, rfl, rfl, by decide +kernel, rfl, by decide +kernel, by decide +kernel⟩
  have ND := S.nd
  refine okD D S (fun _ _ _ _ _ _ us hl => match us, hl with | [_], _ => rfl) r_all_modes fun f cdv A outer s H E hr => ?_
  exact rss_one (rs_ret (re_listRg1 rfl (by rfl) M.list (by rfl) M.range (RE.bb (cB call_lenG br_len PySem.boot_len M.len (rab_cons (RE.bb (re_idx (hu64 hr) (vB 0) (RE.bb (re_int)) (fun _ _ => rfl))) (rab_nil))))))
theorem c_is_clashing (M : Mg mg) (D : DAt K mg "is_clashing" 5)  : Cal P w K mg base 1 "is_clashing" ["modes", "one", "other"] C_is_clashing := by
  have S : FnScope N_is_clashing ["modes", "one", "other"] (defScope (Hd.top 5)) := ⟨rfl, rfl, rfl, by decide +kernel, rfl, by decide +kernel, by decide +kernel⟩
  have ND := S.nd
  refine okD D S (fun _ _ _ _ _ _ us hl => match us, hl with | [_, _, _], _ => rfl) r_is_clashing fun f cdv A outer s H E hr => ?_
  exact rss_one (rs_ret (re_cmp (cIn (hu65 hr)) (RE.bb (re_tup (ra_cons (cB (call_min2 rfl) br_min2 boot_min M.min (rab_cons (vB 1) (rab_cons (vB 2) (rab_nil)))) (ra_cons (cB (call_max2 rfl) br_max2 boot_max M.max (rab_cons (vB 1) (rab_cons (vB 2) (rab_nil)))) (ra_nil))))) (RE.bb (re_idx (hu64 hr) (vB 0) (RE.bb (re_int)) (fun _ _ => rfl))) (by rfl)))
theorem c__law_free (M : Mg mg) (D : DAt K mg "_law_free" 18)  : Cal P w K mg base 1 "_law_free" ["names", "pairs", "one"] C__law_free := by
  have S : FnScope N__law_free ["names", "pairs", "one"] (defScope (Hd.top 18)) := ⟨rfl, rfl, rfl, by decide +kernel, rfl, by decide +kernel, by decide +kernel⟩
  have ND := S.nd
  refine okD D S (fun _ _ _ _ _ _ us hl => match us, hl with | [_, _, _], _ => rfl) r__law_free fun f cdv A outer s H E hr => ?_
  exact rss_one (rs_ret (re_lc (own := [("k", 3), ("other", 4)]) rfl ND (ri_enum (by rfl) M.enumerate (v 0)) (by kernel_rfl) (by decide) (fun s_ H_ C_ cl_ fp_ => rg_tup rfl (rgs_cons (gN 3 ND) (rgs_cons (gN 4 ND) (rgs_nil)))) (fun s_ H_ C_ cl_ fp_ => rts_one (RW.t (rw_and (rt_cmp (cNotIn (hu65 hr)) (RE.bb (re_tup (ra_cons (v 2) (ra_cons (v 4) (ra_nil))))) (vB 1) (by rfl)) (rw_and1 (rt_cmp (cNotIn (hu65 hr)) (RE.bb (re_tup (ra_cons (v 4) (ra_cons (v 2) (ra_nil))))) (vB 1) (by rfl)))))) (fun s_ H_ C_ cl_ fp_ => v 3)))
theorem c_clashing_with (M : Mg mg) (D : DAt K mg "clashing_with" 6) (c_all_modes : Cal P w K mg base 1 "all_modes" ["modes"] C_all_modes) (c_is_clashing : Cal P w K mg base 1 "is_clashing" ["modes", "one", "other"] C_is_clashing) : Cal P w K mg base 2 "clashing_with" ["modes", "mode"] C_clashing_with := by
  have S : FnScope N_clashing_with ["modes", "mode"] (defScope (Hd.top 6)) := ⟨rfl, rfl, rfl, by decide +kernel, rfl, by decide +kernel, by decide +kernel⟩
  have ND := S.nd
  refine okD D S (fun _ _ _ _ _ _ us hl => match us, hl with | [_, _], _ => rfl) r_clashing_with fun f cdv A outer s H E hr => ?_
  exact rss_one (rs_ret (cT (call_tupleG rfl) br_tuple boot_tuple M.tuple (rab_cons (RE.bb (re_lc (own := [("other", 2)]) rfl ND (ri_seq (re_callC (c_all_modes.mono (k := 1) (by decide)) hr (ra_cons (v 0) (ra_nil)))) (by kernel_rfl) (by decide) (fun s_ H_ C_ cl_ fp_ => gN 2 ND) (fun s_ H_ C_ cl_ fp_ => rts_one (rt_tru (RE.bb (re_callC (c_is_clashing.mono (k := 1) (by decide)) hr (ra_cons (v 0) (ra_cons (v 1) (ra_cons (v 2) (ra_nil)))))))) (fun s_ H_ C_ cl_ fp_ => v 2))) (rab_nil))))
theorem c__law_of (M : Mg mg) (D : DAt K mg "_law_of" 16) (c__law_pick : Cal P w K mg base 1 "_law_pick" ["source", "many"] cPick) : Cal P w K mg base 2 "_law_of" ["source", "some"] C__law_of := by
  have S : FnScope N__law_of ["source", "some"] (defScope (Hd.top 16)) := ⟨rfl, rfl, rfl, by decide +kernel, rfl, by decide +kernel, by decide +kernel⟩
  have ND := S.nd
  refine okD D S (fun _ _ _ _ _ _ us hl => match us, hl with | [_, _], _ => rfl) r__law_of fun f cdv A outer s H E hr => ?_
  exact rss_one (rs_ret (re_idx (hu64 hr) (vB 1) (RE.bb (re_callC (c__law_pick.mono (k := 1) (by decide)) hr (ra_cons (v 0) (ra_cons (cB call_lenG br_len PySem.boot_len M.len (rab_cons (vB 1) (rab_nil))) (ra_nil))))) (fun _ _ => rfl)))
theorem c_is_weaker (M : Mg mg) (D : DAt K mg "is_weaker" 7) (c_clashing_with : Cal P w K mg base 2 "clashing_with" ["modes", "mode"] C_clashing_with) (c_is_clashing : Cal P w K mg base 1 "is_clashing" ["modes", "one", "other"] C_is_clashing) : Cal P w K mg base 3 "is_weaker" ["modes", "one", "other"] C_is_weaker := by
  have S : FnScope N_is_weaker ["modes", "one", "other"] (defScope (Hd.top 7)) := ⟨rfl, rfl, rfl, by decide +kernel, rfl, by decide +kernel, by decide +kernel⟩
  have ND := S.nd
  refine okD D S (fun _ _ _ _ _ _ us hl => match us, hl with | [_, _, _], _ => rfl) r_is_weaker fun f cdv A outer s H E hr => ?_
  exact rss_one (rs_ret (re_cmp (cEq (hu64 hr)) (RE.bb (re_lc (own := [("mode", 3)]) rfl ND (ri_seq (re_callC (c_clashing_with.mono (k := 2) (by decide)) hr (ra_cons (v 0) (ra_cons (v 1) (ra_nil))))) (by kernel_rfl) (by decide) (fun s_ H_ C_ cl_ fp_ => gN 3 ND) (fun s_ H_ C_ cl_ fp_ => rts_one (rt_not (rt_tru (RE.bb (re_callC (c_is_clashing.mono (k := 2) (by decide)) hr (ra_cons (v 0) (ra_cons (v 3) (ra_cons (v 2) (ra_nil))))))))) (fun s_ H_ C_ cl_ fp_ => v 3))) (RE.bb (re_lst (ra_nil))) (nomark _)))
theorem c_are_like (M : Mg mg) (D : DAt K mg "are_like" 8) (c_clashing_with : Cal P w K mg base 2 "clashing_with" ["modes", "mode"] C_clashing_with) : Cal P w K mg base 3 "are_like" ["modes", "one", "other"] C_are_like := by
  have S : FnScope N_are_like ["modes", "one", "other"] (defScope (Hd.top 8)) := ⟨rfl, rfl, rfl, by decide +kernel, rfl, by decide +kernel, by decide +kernel⟩
  have ND := S.nd
  refine okD D S (fun _ _ _ _ _ _ us hl => match us, hl with | [_, _, _], _ => rfl) r_are_like fun f cdv A outer s H E hr => ?_
  exact rss_one (rs_ret (re_cmp (cEq (hu64 hr)) (RE.bb (re_callC (c_clashing_with.mono (k := 2) (by decide)) hr (ra_cons (v 0) (ra_cons (v 1) (ra_nil))))) (RE.bb (re_callC (c_clashing_with.mono (k := 2) (by decide)) hr (ra_cons (v 0) (ra_cons (v 2) (ra_nil))))) (nomark _)))
theorem c__law_drawn (M : Mg mg) (D : DAt K mg "_law_drawn" 17) (c__law_of : Cal P w K mg base 2 "_law_of" ["source", "some"] C__law_of) (c__law_pick : Cal P w K mg base 1 "_law_pick" ["source", "many"] cPick) : Cal P w K mg base 3 "_law_drawn" ["source"] C__law_drawn := by
  have S : FnScope N__law_drawn ["source"] (defScope (Hd.top 17)) := ⟨rfl, rfl, rfl, by decide +kernel, rfl, by decide +kernel, by decide +kernel⟩
  have ND := S.nd
  refine okD D S (fun _ _ _ _ _ _ us hl => match us, hl with | [_], _ => rfl) r__law_drawn fun f cdv A outer s H E hr => ?_
  exact rss_cons (rs_own (i := 1) ND rfl (by first | exact Or.inl rfl | exact Or.inr rfl) (rf_lst (ra_cons (re_tup (ra_cons (re_str) (ra_cons (re_lst (ra_cons (re_str) (ra_nil))) (ra_nil)))) (ra_cons (re_tup (ra_cons (re_str) (ra_cons (re_lst (ra_cons (re_str) (ra_cons (re_str) (ra_nil)))) (ra_nil)))) (ra_cons (re_tup (ra_cons (re_str) (ra_cons (re_lst (ra_cons (re_str) (ra_cons (re_str) (ra_cons (re_str) (ra_cons (re_str) (ra_cons (re_str) (ra_nil))))))) (ra_nil)))) (ra_nil))))))
      (rss_cons (sApp 1 (re_tup (ra_cons (re_str) (ra_cons (re_lst (ra_cons (re_str) (ra_cons (re_str) (ra_cons (re_str) (ra_nil))))) (ra_nil)))))
      (rss_cons (rs_asg (re_callC (c__law_of.mono (k := 2) (by decide)) hr (ra_cons (v 0) (ra_cons (re_add (vO 1) (RE.bb (re_lst (ra_cons (re_tup (ra_cons (re_str) (ra_cons (re_lst (ra_cons (re_str) (ra_cons (re_str) (ra_nil)))) (ra_nil)))) (ra_cons (re_tup (ra_cons (re_str) (ra_cons (re_lst (ra_nil)) (ra_nil)))) (ra_nil)))))) (ra_nil)))) (rg_tup rfl (rgs_cons (gN 2 ND) (rgs_cons (gN 3 ND) (rgs_nil)))))
      (rss_cons (rs_if (rt_cmp (cEq (hu64 hr)) (RE.bb (re_callC (c__law_pick.mono (k := 2) (by decide)) hr (ra_cons (v 0) (ra_cons (re_int) (ra_nil))))) (RE.bb (re_int)) (nomark _)) (rss_cons (rs_par2 (i := 2) (j := 3) rfl ND rfl rfl (by decide) rfl rfl (ra_cons (re_slice (RE.bb (re_str)) (ro_none) (ro_some (RE.bb (re_add (RE.bb (re_int)) (RE.bb (re_callC (c__law_pick.mono (k := 2) (by decide)) hr (ra_cons (v 0) (ra_cons (re_int) (ra_nil))))))))) (ra_cons (re_lst (ra_nil)) (ra_nil))) rfl)
      (rss_one (rs_forW PassesOwn.never rfl (ri_enum (by rfl) M.enumerate (re_slice (vB 2) (ro_some (RE.bb (re_int))) (ro_none))) (rg_tup rfl (rgs_cons (gN 4 ND) (rgs_cons (gN 5 ND) (rgs_nil)))) (rss_one (rs_set (i := 3) ND rfl (by first | exact Or.inl rfl | exact Or.inr rfl) (re_add (vB 3) (RE.bb (re_lc (own := [("other", 6)]) rfl ND (ri_seq (re_slice (vB 2) (ro_some (RE.bb (re_add (vB 4) (RE.bb (re_int))))) (ro_none))) (by kernel_rfl) (by decide) (fun s_ H_ C_ cl_ fp_ => gN 6 ND) (fun s_ H_ C_ cl_ fp_ => rts_one (rt_cmp (cEq (hu64 hr)) (RE.bb (re_callC (c__law_pick.mono (k := 2) (by decide)) hr (ra_cons (v 0) (ra_cons (re_int) (ra_nil))))) (RE.bb (re_int)) (nomark _))) (fun s_ H_ C_ cl_ fp_ => re_add (vB 5) (vB 6)))))))))) (rss_nil))
      (rss_one (rs_ret (re_tup (ra_cons (cT (call_tupleG rfl) br_tuple boot_tuple M.tuple (rab_cons (vB 2) (rab_nil))) (ra_cons (cT (call_tupleG rfl) br_tuple boot_tuple M.tuple (rab_cons (RE.bb (re_lc (own := [("pair", 7)]) rfl ND (ri_seq (v 3)) (by kernel_rfl) (by decide) (fun s_ H_ C_ cl_ fp_ => gN 7 ND) (fun s_ H_ C_ cl_ fp_ => rts_nil) (fun s_ H_ C_ cl_ fp_ => cT (call_tupleG rfl) br_tuple boot_tuple M.tuple (rab_cons (vB 7) (rab_nil))))) (rab_nil))) (ra_nil)))))))))
theorem c_is_partner (M : Mg mg) (D : DAt K mg "is_partner" 9) (c_all_modes : Cal P w K mg base 1 "all_modes" ["modes"] C_all_modes) (c_is_clashing : Cal P w K mg base 1 "is_clashing" ["modes", "one", "other"] C_is_clashing) (c_is_weaker : Cal P w K mg base 3 "is_weaker" ["modes", "one", "other"] C_is_weaker) : Cal P w K mg base 4 "is_partner" ["modes", "mode", "partner"] C_is_partner := by
  have S : FnScope N_is_partner ["modes", "mode", "partner"] (defScope (Hd.top 9)) := ⟨rfl, rfl, rfl, by decide +kernel, rfl, by decide +kernel, by decide +kernel⟩
  have ND := S.nd
  refine okD D S (fun _ _ _ _ _ _ us hl => match us, hl with | [_, _, _], _ => rfl) r_is_partner fun f cdv A outer s H E hr => ?_
  exact rss_one (rs_ret (re_cmp (cEq (hu64 hr)) (RE.bb (re_lc (own := [("one", 3)]) rfl ND (ri_seq (re_callC (c_all_modes.mono (k := 3) (by decide)) hr (ra_cons (v 0) (ra_nil)))) (by kernel_rfl) (by decide) (fun s_ H_ C_ cl_ fp_ => gN 3 ND) (fun s_ H_ C_ cl_ fp_ => rts_one (rt_cmp (cEq (hu64 hr)) (RE.bb (re_callC (c_is_clashing.mono (k := 3) (by decide)) hr (ra_cons (v 0) (ra_cons (v 2) (ra_cons (v 3) (ra_nil)))))) (RE.bb (re_callC (c_is_weaker.mono (k := 3) (by decide)) hr (ra_cons (v 0) (ra_cons (v 3) (ra_cons (v 1) (ra_nil)))))) (nomark _))) (fun s_ H_ C_ cl_ fp_ => v 3))) (RE.bb (re_lst (ra_nil))) (nomark _)))
theorem c_partner_of (M : Mg mg) (D : DAt K mg "partner_of" 10) (c_all_modes : Cal P w K mg base 1 "all_modes" ["modes"] C_all_modes) (c_is_partner : Cal P w K mg base 4 "is_partner" ["modes", "mode", "partner"] C_is_partner) : Cal P w K mg base 5 "partner_of" ["modes", "mode"] C_partner_of := by
  have S : FnScope N_partner_of ["modes", "mode"] (defScope (Hd.top 10)) := ⟨rfl, rfl, rfl, by decide +kernel, rfl, by decide +kernel, by decide +kernel⟩
  have ND := S.nd
  refine okD D S (fun _ _ _ _ _ _ us hl => match us, hl with | [_, _], _ => rfl) r_partner_of fun f cdv A outer s H E hr => ?_
  exact rss_cons (rs_setLc (i := 2) (own := [("one", 3)]) rfl ND rfl rfl rfl (ri_seq (re_callC (c_all_modes.mono (k := 4) (by decide)) hr (ra_cons (v 0) (ra_nil)))) (by kernel_rfl) (by decide) (fun s_ H_ C_ cl_ fp_ => gN 3 ND) (fun s_ H_ C_ cl_ fp_ => rts_one (rt_tru (RE.bb (re_callC (c_is_partner.mono (k := 4) (by decide)) hr (ra_cons (v 0) (ra_cons (v 1) (ra_cons (v 3) (ra_nil)))))))) (fun s_ H_ C_ cl_ fp_ => v 3))
      (rss_one (rs_ret (re_ite (rt_cmp (cNe (hu64 hr)) (vB 2) (RE.bb (re_lst (ra_nil))) (nomark _)) (re_idx (hu64 hr) (vB 2) (RE.bb (re_int)) (fun _ _ => rfl)) (re_non))))
theorem c_partners_told (M : Mg mg) (D : DAt K mg "partners_told" 11) (c_all_modes : Cal P w K mg base 1 "all_modes" ["modes"] C_all_modes) (c_partner_of : Cal P w K mg base 5 "partner_of" ["modes", "mode"] C_partner_of) : Cal P w K mg base 6 "partners_told" ["modes"] C_partners_told := by
  have S : FnScope N_partners_told ["modes"] (defScope (Hd.top 11)) := ⟨rfl, rfl, rfl, by decide +kernel, rfl, by decide +kernel, by decide +kernel⟩
  have ND := S.nd
  refine okD D S (fun _ _ _ _ _ _ us hl => match us, hl with | [_], _ => rfl) r_partners_told fun f cdv A outer s H E hr => ?_
  exact rss_cons (rs_setLc (i := 1) (own := [("mode", 2)]) rfl ND rfl rfl rfl (ri_seq (re_callC (c_all_modes.mono (k := 5) (by decide)) hr (ra_cons (v 0) (ra_nil)))) (by kernel_rfl) (by decide) (fun s_ H_ C_ cl_ fp_ => gN 2 ND) (fun s_ H_ C_ cl_ fp_ => rts_nil) (fun s_ H_ C_ cl_ fp_ => re_callC (c_partner_of.mono (k := 5) (by decide)) hr (ra_cons (v 0) (ra_cons (v 2) (ra_nil)))))
      (rss_one (rs_ret (re_ite (rt_cmp (cIn (hu65 hr)) (RE.bb (re_non)) (vB 1) (by rfl)) (re_tup (ra_cons (re_gStr (by rfl) M.c_LACKS) (ra_cons (cIndex (hu65 hr) (vB 1) (rab_cons (RE.bb (re_non)) (rab_nil))) (ra_nil)))) (re_tup (ra_cons (re_gStr (by rfl) M.c_PARTNERS) (ra_cons (cT (call_tupleG rfl) br_tuple boot_tuple M.tuple (rab_cons (vB 1) (rab_nil))) (ra_nil)))))))
theorem c_have_partners (M : Mg mg) (D : DAt K mg "have_partners" 12) (c_partners_told : Cal P w K mg base 6 "partners_told" ["modes"] C_partners_told) : Cal P w K mg base 7 "have_partners" ["modes"] C_have_partners := by
  have S : FnScope N_have_partners ["modes"] (defScope (Hd.top 12)) := ⟨rfl, rfl, rfl, by decide +kernel, rfl, by decide +kernel, by decide +kernel⟩
  have ND := S.nd
  refine okD D S (fun _ _ _ _ _ _ us hl => match us, hl with | [_], _ => rfl) r_have_partners fun f cdv A outer s H E hr => ?_
  exact rss_one (rs_ret (re_cmp (cEq (hu64 hr)) (RE.bb (re_idx (hu64 hr) (RE.bb (re_callC (c_partners_told.mono (k := 6) (by decide)) hr (ra_cons (v 0) (ra_nil)))) (RE.bb (re_int)) (fun _ _ => rfl))) (RE.bb (re_gStr (by rfl) M.c_PARTNERS)) (nomark _)))
theorem fn_law (M : Mg mg) {f : Addr} {fd : FuncData} (D : FunD K "law" "law" (defArgs (Hd.top 19)) (defBody (Hd.top 19)) (defScope (Hd.top 19)) [] [] f fd) (c__law_source : Cal P w K mg base 1 "_law_source" ["script"] cSource) (c__law_drawn : Cal P w K mg base 3 "_law_drawn" ["source"] C__law_drawn) (c_modes_told : Cal P w K mg base 1 "modes_told" ["names", "pairs"] C_modes_told) (c__law_free : Cal P w K mg base 1 "_law_free" ["names", "pairs", "one"] C__law_free) (c_is_partner : Cal P w K mg base 4 "is_partner" ["modes", "mode", "partner"] C_is_partner) (c_are_like : Cal P w K mg base 3 "are_like" ["modes", "one", "other"] C_are_like) (c_partner_of : Cal P w K mg base 5 "partner_of" ["modes", "mode"] C_partner_of) (c_is_clashing : Cal P w K mg base 1 "is_clashing" ["modes", "one", "other"] C_is_clashing) (c_is_weaker : Cal P w K mg base 3 "is_weaker" ["modes", "one", "other"] C_is_weaker) (c_partners_told : Cal P w K mg base 6 "partners_told" ["modes"] C_partners_told) (c_have_partners : Cal P w K mg base 7 "have_partners" ["modes"] C_have_partners) : FnOk P w K mg base CX0 8 f fd ["script"] (spR ⟨K, P, w⟩ 1 C_law) := by
  have S : FnScope N_law ["script"] (defScope (Hd.top 19)) := ⟨rfl, rfl, rfl, by decide +kernel, rfl, by decide +kernel, by decide +kernel⟩
  have ND := S.nd
  refine okR D S r_law (fun cdv A outer s H E hr => ?_) fun args q _ h => h
  exact rss_cons (rs_set (i := 1) ND rfl (by first | exact Or.inl rfl | exact Or.inr rfl) (re_callC (c__law_source.mono (k := 7) (by decide)) hr (ra_cons (v 0) (ra_nil))))
      (rss_cons (rs_asg (re_callC (c__law_drawn.mono (k := 7) (by decide)) hr (ra_cons (v 1) (ra_nil))) (rg_tup rfl (rgs_cons (gN 2 ND) (rgs_cons (gN 3 ND) (rgs_nil)))))
      (rss_cons (rs_asg (re_tup (ra_cons (re_callC (c_modes_told.mono (k := 7) (by decide)) hr (ra_cons (v 2) (ra_cons (v 3) (ra_nil)))) (ra_cons (re_listRg1 rfl (by rfl) M.list (by rfl) M.range (RE.bb (cB call_lenG br_len PySem.boot_len M.len (rab_cons (vB 2) (rab_nil))))) (ra_nil)))) (rg_tup rfl (rgs_cons (gN 4 ND) (rgs_cons (gN 5 ND) (rgs_nil)))))
      (rss_cons (rs_set (i := 6) ND rfl (by first | exact Or.inl rfl | exact Or.inr rfl) (re_lc (own := [("one", 7)]) rfl ND (ri_seq (v 2)) (by kernel_rfl) (by decide) (fun s_ H_ C_ cl_ fp_ => gN 7 ND) (fun s_ H_ C_ cl_ fp_ => rts_nil) (fun s_ H_ C_ cl_ fp_ => re_callC (c__law_free.mono (k := 7) (by decide)) hr (ra_cons (v 2) (ra_cons (v 3) (ra_cons (v 7) (ra_nil)))))))
      (rss_cons (rs_set (i := 8) ND rfl (by first | exact Or.inl rfl | exact Or.inr rfl) (re_lc (own := [("a", 11)]) rfl ND (ri_seq (v 5)) (by kernel_rfl) (by decide) (fun s_ H_ C_ cl_ fp_ => gN 11 ND) (fun s_ H_ C_ cl_ fp_ => rts_nil) (fun s_ H_ C_ cl_ fp_ => re_lc (own := [("b", 10)]) rfl ND (ri_seq (v 5)) (by kernel_rfl) (by decide) (fun s_ H_ C_ cl_ fp_ => gN 10 ND) (fun s_ H_ C_ cl_ fp_ => rts_nil) (fun s_ H_ C_ cl_ fp_ => re_cmp (cEq (hu64 hr)) (RE.bb (re_lc (own := [("k", 9)]) rfl ND (ri_seq (re_idx (hu64 hr) (vB 6) (vB 10) (fun _ _ => rfl))) (by kernel_rfl) (by decide) (fun s_ H_ C_ cl_ fp_ => gN 9 ND) (fun s_ H_ C_ cl_ fp_ => rts_one (rt_cmp (cNotIn (hu65 hr)) (vB 9) (RE.bb (re_idx (hu64 hr) (vB 6) (vB 11) (fun _ _ => rfl))) (by rfl))) (fun s_ H_ C_ cl_ fp_ => v 9))) (RE.bb (re_lst (ra_nil))) (nomark _)))))
      (rss_cons (rs_own (i := 12) ND rfl (by first | exact Or.inl rfl | exact Or.inr rfl) (rf_lst (ra_nil)))
      (rss_cons (rs_forW PassesOwn.never rfl (ri_seq (v 5)) (gN 11 ND) (rss_cons (rs_set (i := 13) ND rfl (by first | exact Or.inl rfl | exact Or.inr rfl) (re_lst (ra_nil)))
      (rss_cons (rs_forW PassesOwn.never rfl (ri_seq (v 5)) (gN 14 ND) (rss_cons (rs_set (i := 15) ND rfl (by first | exact Or.inl rfl | exact Or.inr rfl) (re_and (re_cmp (cIn (hu65 hr)) (vB 14) (RE.bb (re_idx (hu64 hr) (vB 6) (vB 11) (fun _ _ => rfl))) (by rfl)) (re_one (re_cmp (cEq (hu64 hr)) (RE.bb (re_lc (own := [("k", 9)]) rfl ND (ri_seq (v 5)) (by kernel_rfl) (by decide) (fun s_ H_ C_ cl_ fp_ => gN 9 ND) (fun s_ H_ C_ cl_ fp_ => rts_one (RW.t (rw_and (rt_not (rt_tru (RE.bb (re_idx (hu64 hr) (RE.bb (re_idx (hu64 hr) (vB 8) (vB 9) (fun _ _ => rfl))) (vB 11) (fun _ _ => rfl))))) (rw_and1 (rt_cmp (cIn (hu65 hr)) (vB 9) (RE.bb (re_idx (hu64 hr) (vB 6) (vB 14) (fun _ _ => rfl))) (by rfl)))))) (fun s_ H_ C_ cl_ fp_ => v 9))) (RE.bb (re_lst (ra_nil))) (nomark _)))))
      (rss_cons (rs_if (rt_cmp (cNe (hu64 hr)) (RE.bb (re_callC (c_is_partner.mono (k := 7) (by decide)) hr (ra_cons (v 4) (ra_cons (v 11) (ra_cons (v 14) (ra_nil)))))) (vB 15) (nomark _)) (rss_one (rs_ret (re_bl))) (rss_nil))
      (rss_cons (rs_if (RW.t (rw_and (rt_tru (vB 15)) (rw_and1 (rt_cmp (cNe (hu64 hr)) (RE.bb (re_idx (hu64 hr) (vB 6) (vB 14) (fun _ _ => rfl))) (RE.bb (re_lc (own := [("k", 9)]) rfl ND (ri_seq (v 5)) (by kernel_rfl) (by decide) (fun s_ H_ C_ cl_ fp_ => gN 9 ND) (fun s_ H_ C_ cl_ fp_ => rts_one (rt_tru (RE.bb (re_idx (hu64 hr) (RE.bb (re_idx (hu64 hr) (vB 8) (vB 9) (fun _ _ => rfl))) (vB 11) (fun _ _ => rfl))))) (fun s_ H_ C_ cl_ fp_ => v 9))) (nomark _))))) (rss_one (rs_ret (re_bl))) (rss_nil))
      (rss_one (rs_set (i := 13) ND rfl (by first | exact Or.inl rfl | exact Or.inr rfl) (re_ite (rt_tru (vB 15)) (re_add (vB 13) (RE.bb (re_lst (ra_cons (v 14) (ra_nil))))) (v 13))))))))
      (rss_cons (rs_if (rt_cmp (cNe (hu64 hr)) (RE.bb (re_lc (own := [("p", 14)]) rfl ND (ri_seq (v 13)) (by kernel_rfl) (by decide) (fun s_ H_ C_ cl_ fp_ => gN 14 ND) (fun s_ H_ C_ cl_ fp_ => rts_one (rt_not (rt_tru (RE.bb (re_callC (c_are_like.mono (k := 7) (by decide)) hr (ra_cons (v 4) (ra_cons (re_idx (hu64 hr) (vB 13) (RE.bb (re_int)) (fun _ _ => rfl)) (ra_cons (v 14) (ra_nil))))))))) (fun s_ H_ C_ cl_ fp_ => v 14))) (RE.bb (re_lst (ra_nil))) (nomark _)) (rss_one (rs_ret (re_bl))) (rss_nil))
      (rss_cons (rs_if (rt_cmp (cNe (hu64 hr)) (RE.bb (re_callC (c_partner_of.mono (k := 7) (by decide)) hr (ra_cons (v 4) (ra_cons (v 11) (ra_nil))))) (RE.bb (re_ite (rt_cmp (cNe (hu64 hr)) (vB 13) (RE.bb (re_lst (ra_nil))) (nomark _)) (re_idx (hu64 hr) (vB 13) (RE.bb (re_int)) (fun _ _ => rfl)) (re_non))) (nomark _)) (rss_one (rs_ret (re_bl))) (rss_nil))
      (rss_cons (sApp 12 (re_ite (rt_cmp (cNe (hu64 hr)) (vB 13) (RE.bb (re_lst (ra_nil))) (nomark _)) (re_idx (hu64 hr) (vB 13) (RE.bb (re_int)) (fun _ _ => rfl)) (re_non)))
      (rss_one (rs_forW PassesOwn.never rfl (ri_seq (v 5)) (gN 10 ND) (rss_one (rs_if (RW.t (rw_or (rt_cmp (cNe (hu64 hr)) (RE.bb (re_callC (c_is_clashing.mono (k := 7) (by decide)) hr (ra_cons (v 4) (ra_cons (v 11) (ra_cons (v 10) (ra_nil)))))) (RE.bb (re_cmp (cNotIn (hu65 hr)) (vB 10) (RE.bb (re_idx (hu64 hr) (vB 6) (vB 11) (fun _ _ => rfl))) (by rfl))) (nomark _)) (rw_or1 (rt_cmp (cNe (hu64 hr)) (RE.bb (re_callC (c_is_weaker.mono (k := 7) (by decide)) hr (ra_cons (v 4) (ra_cons (v 11) (ra_cons (v 10) (ra_nil)))))) (RE.bb (re_idx (hu64 hr) (RE.bb (re_idx (hu64 hr) (vB 8) (vB 11) (fun _ _ => rfl))) (vB 10) (fun _ _ => rfl))) (nomark _))))) (rss_one (rs_ret (re_bl))) (rss_nil)))))))))))
      (rss_cons (rs_set (i := 15) ND rfl (by first | exact Or.inl rfl | exact Or.inr rfl) (re_ite (rt_cmp (cNotIn (hu65 hr)) (RE.bb (re_non)) (vO 12) (by rfl)) (re_tup (ra_cons (re_str) (ra_cons (cT (call_tupleG rfl) br_tuple boot_tuple M.tuple (rab_cons (vO 12) (rab_nil))) (ra_nil)))) (re_tup (ra_cons (re_str) (ra_cons (cIndex (hu65 hr) (vO 12) (rab_cons (RE.bb (re_non)) (rab_nil))) (ra_nil))))))
      (rss_cons (rs_if (RW.t (rw_or (rt_cmp (cNe (hu64 hr)) (RE.bb (re_callC (c_partners_told.mono (k := 7) (by decide)) hr (ra_cons (v 4) (ra_nil)))) (vB 15) (nomark _)) (rw_or1 (rt_cmp (cNe (hu64 hr)) (RE.bb (re_callC (c_have_partners.mono (k := 7) (by decide)) hr (ra_cons (v 4) (ra_nil)))) (RE.bb (re_cmp (cNotIn (hu65 hr)) (RE.bb (re_non)) (vO 12) (by rfl))) (nomark _))))) (rss_one (rs_ret (re_bl))) (rss_nil))
      (rss_cons (rs_forW PassesOwn.never rfl (ri_seq (v 5)) (gN 11 ND) (rss_one (rs_forW PassesOwn.never rfl (ri_seq (v 5)) (gN 10 ND) (rss_cons (rs_if (RW.t (rw_and (rt_cmp (cNotIn (hu65 hr)) (RE.bb (re_non)) (RE.bb (re_tup (ra_cons (re_idx (hu64 hr) (vO 12) (vB 11) (fun _ _ => rfl)) (ra_cons (re_idx (hu64 hr) (vO 12) (vB 10) (fun _ _ => rfl)) (ra_nil))))) (by rfl)) (rw_and1 (rt_cmp (cNe (hu64 hr)) (RE.bb (re_idx (hu64 hr) (RE.bb (re_idx (hu64 hr) (vB 8) (vB 11) (fun _ _ => rfl))) (vB 10) (fun _ _ => rfl))) (RE.bb (re_idx (hu64 hr) (RE.bb (re_idx (hu64 hr) (vB 8) (RE.bb (re_idx (hu64 hr) (vO 12) (vB 10) (fun _ _ => rfl))) (fun _ _ => rfl))) (RE.bb (re_idx (hu64 hr) (vO 12) (vB 11) (fun _ _ => rfl))) (fun _ _ => rfl))) (nomark _))))) (rss_one (rs_ret (re_bl))) (rss_nil))
      (rss_one (rs_if (RW.t (rw_and (rt_cmp (cNotIn (hu65 hr)) (RE.bb (re_non)) (vO 12) (by rfl)) (rw_and1 (rt_cmp (cNe (hu64 hr)) (RE.bb (re_idx (hu64 hr) (RE.bb (re_idx (hu64 hr) (vB 8) (vB 11) (fun _ _ => rfl))) (vB 10) (fun _ _ => rfl))) (RE.bb (re_cmp (cIn (hu65 hr)) (RE.bb (re_idx (hu64 hr) (vO 12) (vB 10) (fun _ _ => rfl))) (RE.bb (re_idx (hu64 hr) (vB 6) (vB 11) (fun _ _ => rfl))) (by rfl))) (nomark _))))) (rss_one (rs_ret (re_bl))) (rss_nil)))))))
      (rss_cons (rs_set (i := 16) ND rfl (by first | exact Or.inl rfl | exact Or.inr rfl) (re_lst (ra_cons (re_tup (ra_cons (re_tup (ra_cons (re_str) (ra_cons (re_str) (ra_nil)))) (ra_cons (re_tup (ra_cons (re_tup (ra_cons (re_str) (ra_cons (re_str) (ra_nil)))) (ra_nil))) (ra_nil)))) (ra_cons (re_tup (ra_cons (re_tup (ra_cons (re_str) (ra_cons (re_str) (ra_cons (re_str) (ra_nil))))) (ra_cons (re_tup (ra_cons (re_tup (ra_cons (re_str) (ra_cons (re_str) (ra_nil)))) (ra_cons (re_tup (ra_cons (re_str) (ra_cons (re_str) (ra_nil)))) (ra_nil)))) (ra_nil)))) (ra_nil)))))
      (rss_cons (rs_set (i := 16) ND rfl (by first | exact Or.inl rfl | exact Or.inr rfl) (re_add (vB 16) (RE.bb (re_lst (ra_cons (re_tup (ra_cons (re_tup (ra_cons (re_str) (ra_cons (re_str) (ra_cons (re_str) (ra_nil))))) (ra_cons (re_tup (ra_cons (re_tup (ra_cons (re_str) (ra_cons (re_str) (ra_nil)))) (ra_cons (re_tup (ra_cons (re_str) (ra_cons (re_str) (ra_nil)))) (ra_nil)))) (ra_nil)))) (ra_cons (re_tup (ra_cons (re_tup (ra_cons (re_str) (ra_cons (re_str) (ra_nil)))) (ra_cons (re_tup (ra_nil)) (ra_nil)))) (ra_cons (re_tup (ra_cons (re_tup (ra_cons (re_str) (ra_cons (re_str) (ra_cons (re_str) (ra_nil))))) (ra_cons (re_tup (ra_cons (re_tup (ra_cons (re_str) (ra_cons (re_str) (ra_nil)))) (ra_nil))) (ra_nil)))) (ra_nil))))))))
      (rss_cons (rs_set (i := 15) ND rfl (by first | exact Or.inl rfl | exact Or.inr rfl) (re_lst (ra_cons (re_tup (ra_cons (re_str) (ra_cons (re_tup (ra_cons (re_int) (ra_cons (re_int) (ra_nil)))) (ra_nil)))) (ra_cons (re_tup (ra_cons (re_str) (ra_cons (re_tup (ra_cons (re_int) (ra_cons (re_int) (ra_cons (re_int) (ra_nil))))) (ra_nil)))) (ra_cons (re_tup (ra_cons (re_str) (ra_cons (re_int) (ra_nil)))) (ra_cons (re_tup (ra_cons (re_str) (ra_cons (re_tup (ra_cons (re_int) (ra_cons (re_int) (ra_nil)))) (ra_nil)))) (ra_cons (re_tup (ra_cons (re_str) (ra_cons (re_tup (ra_cons (re_int) (ra_cons (re_int) (ra_cons (re_int) (ra_nil))))) (ra_nil)))) (ra_nil))))))))
      (rss_one (rs_ret (re_cmp (cEq (hu64 hr)) (RE.bb (re_lc (own := [("one", 7), ("other", 17)]) rfl ND (ri_seq (v 16)) (by kernel_rfl) (by decide) (fun s_ H_ C_ cl_ fp_ => rg_tup rfl (rgs_cons (gN 7 ND) (rgs_cons (gN 17 ND) (rgs_nil)))) (fun s_ H_ C_ cl_ fp_ => rts_nil) (fun s_ H_ C_ cl_ fp_ => re_callC (c_partners_told.mono (k := 7) (by decide)) hr (ra_cons (re_callC (c_modes_told.mono (k := 7) (by decide)) hr (ra_cons (v 7) (ra_cons (v 17) (ra_nil)))) (ra_nil))))) (vB 15) (nomark _))))))))))))))))
end
end Lw
namespace Lw
open PySem PySem.Spec PyProof.Rows L2 R
theorem facts {P : Program} {w : World} {K : PySem.W.Frag} {h : Heap} {mg : Str → Option Value} {f : Addr} (X : K.In h) (G : h.Ns mainGlobals mg) (hfa : mg ("law" : Str) = some (.ref f)) (c : He.SaysD Hd.fa Hd.fn K) :
    ∃ fd : FuncData, (∀ (s : Shared) (v : Value), BindsTo s fd ⟨[v], []⟩ [("script", v)]) ∧ ∀ base : Heap, K.In base → base.Ns mainGlobals mg → FnOk P w K mg base CX0 8 f fd ["script"] (spR ⟨K, P, w⟩ 1 C_law) := by
  obtain ⟨fd, F⟩ := c.def_ 15 (d := Hd.dd "law" 19) rfl
  have e := hfa.symm.trans (He.glo_ok X G (c.fact 15 (f := .glo "law") rfl))
  cases e
  have b := FunD.bindsA (ps := ["script"]) F fun _ _ _ _ _ _ us hl => match us, hl with | [_], _ => rfl
  have M : Mg mg := ⟨He.free_ok X G (c.fact 16 (f := .free "abs") rfl), He.free_ok X G (c.fact 17 (f := .free "dict") rfl), He.free_ok X G (c.fact 18 (f := .free "enumerate") rfl), He.free_ok X G (c.fact 19 (f := .free "int") rfl), He.free_ok X G (c.fact 20 (f := .free "len") rfl), He.free_ok X G (c.fact 21 (f := .free "list") rfl), He.free_ok X G (c.fact 22 (f := .free "max") rfl), He.free_ok X G (c.fact 23 (f := .free "min") rfl), He.free_ok X G (c.fact 24 (f := .free "range") rfl), He.free_ok X G (c.fact 25 (f := .free "sorted") rfl), He.free_ok X G (c.fact 26 (f := .free "tuple") rfl), He.str_ok X G (c.fact 27 (f := .str "LACKS" "none") rfl), He.str_ok X G (c.fact 28 (f := .str "PARTNERS" "partners") rfl)⟩
  have D_modes_told : DAt K mg "modes_told" 3 := by
    obtain ⟨fd, F⟩ := c.def_ 0 (d := Hd.dd "modes_told" 3) rfl
    exact ⟨_, fd, F, He.glo_ok X G (c.fact 0 (f := .glo "modes_told") rfl)⟩
  have D_all_modes : DAt K mg "all_modes" 4 := by
    obtain ⟨fd, F⟩ := c.def_ 1 (d := Hd.dd "all_modes" 4) rfl
    exact ⟨_, fd, F, He.glo_ok X G (c.fact 1 (f := .glo "all_modes") rfl)⟩
  have D_is_clashing : DAt K mg "is_clashing" 5 := by
    obtain ⟨fd, F⟩ := c.def_ 2 (d := Hd.dd "is_clashing" 5) rfl
    exact ⟨_, fd, F, He.glo_ok X G (c.fact 2 (f := .glo "is_clashing") rfl)⟩
  have D_clashing_with : DAt K mg "clashing_with" 6 := by
    obtain ⟨fd, F⟩ := c.def_ 3 (d := Hd.dd "clashing_with" 6) rfl
    exact ⟨_, fd, F, He.glo_ok X G (c.fact 3 (f := .glo "clashing_with") rfl)⟩
  have D_is_weaker : DAt K mg "is_weaker" 7 := by
    obtain ⟨fd, F⟩ := c.def_ 4 (d := Hd.dd "is_weaker" 7) rfl
    exact ⟨_, fd, F, He.glo_ok X G (c.fact 4 (f := .glo "is_weaker") rfl)⟩
  have D_are_like : DAt K mg "are_like" 8 := by
    obtain ⟨fd, F⟩ := c.def_ 5 (d := Hd.dd "are_like" 8) rfl
    exact ⟨_, fd, F, He.glo_ok X G (c.fact 5 (f := .glo "are_like") rfl)⟩
  have D_is_partner : DAt K mg "is_partner" 9 := by
    obtain ⟨fd, F⟩ := c.def_ 6 (d := Hd.dd "is_partner" 9) rfl
    exact ⟨_, fd, F, He.glo_ok X G (c.fact 6 (f := .glo "is_partner") rfl)⟩
  have D_partner_of : DAt K mg "partner_of" 10 := by
    obtain ⟨fd, F⟩ := c.def_ 7 (d := Hd.dd "partner_of" 10) rfl
    exact ⟨_, fd, F, He.glo_ok X G (c.fact 7 (f := .glo "partner_of") rfl)⟩
  have D_partners_told : DAt K mg "partners_told" 11 := by
    obtain ⟨fd, F⟩ := c.def_ 8 (d := Hd.dd "partners_told" 11) rfl
    exact ⟨_, fd, F, He.glo_ok X G (c.fact 8 (f := .glo "partners_told") rfl)⟩
  have D_have_partners : DAt K mg "have_partners" 12 := by
    obtain ⟨fd, F⟩ := c.def_ 9 (d := Hd.dd "have_partners" 12) rfl
    exact ⟨_, fd, F, He.glo_ok X G (c.fact 9 (f := .glo "have_partners") rfl)⟩
  have D__law_source : DAt K mg "_law_source" 14 := by
    obtain ⟨fd, F⟩ := c.def_ 10 (d := Hd.dd "_law_source" 14) rfl
    exact ⟨_, fd, F, He.glo_ok X G (c.fact 10 (f := .glo "_law_source") rfl)⟩
  have D__law_pick : DAt K mg "_law_pick" 15 := by
    obtain ⟨fd, F⟩ := c.def_ 11 (d := Hd.dd "_law_pick" 15) rfl
    exact ⟨_, fd, F, He.glo_ok X G (c.fact 11 (f := .glo "_law_pick") rfl)⟩
  have D__law_of : DAt K mg "_law_of" 16 := by
    obtain ⟨fd, F⟩ := c.def_ 12 (d := Hd.dd "_law_of" 16) rfl
    exact ⟨_, fd, F, He.glo_ok X G (c.fact 12 (f := .glo "_law_of") rfl)⟩
  have D__law_drawn : DAt K mg "_law_drawn" 17 := by
    obtain ⟨fd, F⟩ := c.def_ 13 (d := Hd.dd "_law_drawn" 17) rfl
    exact ⟨_, fd, F, He.glo_ok X G (c.fact 13 (f := .glo "_law_drawn") rfl)⟩
  have D__law_free : DAt K mg "_law_free" 18 := by
    obtain ⟨fd, F⟩ := c.def_ 14 (d := Hd.dd "_law_free" 18) rfl
    exact ⟨_, fd, F, He.glo_ok X G (c.fact 14 (f := .glo "_law_free") rfl)⟩
  refine ⟨fd, fun s v => b s [v] rfl, fun base _ _ => ?_⟩
  have h__law_pick := c__law_pick (P := P) (w := w) (base := base) M D__law_pick
  have h__law_source := c__law_source (P := P) (w := w) (base := base) M D__law_source
  have h_modes_told := c_modes_told (P := P) (w := w) (base := base) M D_modes_told 
  have h_all_modes := c_all_modes (P := P) (w := w) (base := base) M D_all_modes 
  have h_is_clashing := c_is_clashing (P := P) (w := w) (base := base) M D_is_clashing 
  have h__law_free := c__law_free (P := P) (w := w) (base := base) M D__law_free 
  have h_clashing_with := c_clashing_with (P := P) (w := w) (base := base) M D_clashing_with h_all_modes h_is_clashing
  have h__law_of := c__law_of (P := P) (w := w) (base := base) M D__law_of h__law_pick
  have h_is_weaker := c_is_weaker (P := P) (w := w) (base := base) M D_is_weaker h_clashing_with h_is_clashing
  have h_are_like := c_are_like (P := P) (w := w) (base := base) M D_are_like h_clashing_with
  have h__law_drawn := c__law_drawn (P := P) (w := w) (base := base) M D__law_drawn h__law_of h__law_pick
  have h_is_partner := c_is_partner (P := P) (w := w) (base := base) M D_is_partner h_all_modes h_is_clashing h_is_weaker
  have h_partner_of := c_partner_of (P := P) (w := w) (base := base) M D_partner_of h_all_modes h_is_partner
  have h_partners_told := c_partners_told (P := P) (w := w) (base := base) M D_partners_told h_all_modes h_partner_of
  have h_have_partners := c_have_partners (P := P) (w := w) (base := base) M D_have_partners h_partners_told
  exact fn_law M F h__law_source h__law_drawn h_modes_told h__law_free h_is_partner h_are_like h_partner_of h_is_clashing h_is_weaker h_partners_told h_have_partners
theorem start_law {K : Ct} {H : Hp} {a : Addr} {ns : List Int} (hl : ns.length ≤ 63) (hS : SqL K.K H a (ns.map V.int)) (p : C_law [.scr] fun v => v = .d (.bool true)) : spR K 1 C_law [.ref a] H (fun v _ => v = .bl true) fun _ _ _ => False := by
  refine ⟨fun _ => False, [], [.scr], _, rfl, fun _ h => h.elim, ⟨(by simp), List.Pairwise.nil⟩, .cons ⟨a, ns, rfl, ?_, hl⟩ .nil, p, fun v hv Z' H' x _ _ r => ?_⟩
  · rcases hS with h | h
    · refine .inl ⟨fun q => ?_, h⟩
      rcases q with q | q | ⟨z, hz, _⟩
      · exact q
      · exact nomatch q
      · exact nomatch hz
    · exact .inr fun H' => .inr h
  · subst hv
    cases r
    rfl
end Lw
open PySem PySem.W PySem.Calls PyProof.Rows
theorem PySem.Challenge.cw_walksbeside_k08_partners_and_modes_witho_holds : PySem.Challenge.rw_walksbeside_k08_partners_and_modes_witho.Holds := by
  w_on; o_law
  refine HandSHeadRun.head_any (r := OpenLaw.row PySem.Challenge.rw_walksbeside_k08_partners_and_modes_witho) (q := view (OpenLaw.row PySem.Challenge.rw_walksbeside_k08_partners_and_modes_witho).prog [19]) (H := Hd.hk) (ob := Hd.ob) (M := 4000) (loose := Hd.loose) (d := HandSHeadRun.topDef (OpenLaw.row PySem.Challenge.rw_walksbeside_k08_partners_and_modes_witho).prog 19) (kwd := []) Hd.ob_eq
    (by kernel_rfl) (fun s => by kernel_rfl) Hd.run (by kernel_rfl) (by kernel_rfl) (by kernel_rfl) (by rfl) (by first | assumption | decide +kernel) (by decide +kernel) ⟨rfl, rfl, rfl, rfl, rfl, by decide +kernel⟩ ?hw ?hc
  case hw => w_witness2
  case hc =>
    refine L2.walk_ofE (l := PySem.Challenge.rw_walksbeside_k08_partners_and_modes_witho) (n := 63) (k := 8) (x := "script") (CX := L2.CX0) rfl (by decide) (by kernel_rfl) ⟨rfl, by decide, by decide⟩ ?F (fun _ _ _ _ z => z)
    intro w mg fa h Y G hmg0
    obtain ⟨K, KX, c⟩ := Y
    have hmg : mg ("law" : PySem.Str) = some (.ref fa) := by
      have e : (HandSHeadRun.topDef (OpenLaw.row PySem.Challenge.rw_walksbeside_k08_partners_and_modes_witho).prog 19).name = ("law" : PySem.Str) := by kernel_rfl
      rw [← e]
      exact hmg0
    obtain ⟨fd, hb, hF⟩ := Lw.facts (P := (PySem.Challenge.rw_walksbeside_k08_partners_and_modes_witho).prog) (w := w) KX G hmg c
    exact ⟨K, fd, R.spR ⟨K, (PySem.Challenge.rw_walksbeside_k08_partners_and_modes_witho).prog, w⟩ 1 Lw.C_law, KX, hb, fun H a ns hl _ hS => Lw.start_law hl hS Pu.law_true, hF⟩
