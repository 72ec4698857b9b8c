import PyProof.Rows.All
import Wide.All
import OpenK.AllK
import Wide.FinOn
import HandS.ForMost
import HandS.IsInst
import HandS.Wide
import KE.KDictKeyed
import KE.KDictCopyH
import KE.KDictSum
import KE.SortData
import KE.DataEq
import HandS.DictComp
import KE.DataCmp
import PySem.Challenge.RW_watchfloor_k90_evaluate_whole_is_the_pla
import HandS.SortInts
import KE.LtData
import KE.KStateDown
import HandS.Head0
import HandS.Head1
import HandS.Head2
import HandS.HeadEnd
import HandS.HeadHook1
import HandS.HeadHook2
import HandS.Defaults
set_option Elab.async false
set_option linter.all false
set_option maxRecDepth 100000
set_option maxHeartbeats 4000000
/-! Q9: data that stay (tuples), dicts with nested keys, sorting, orders: rules beside the hand layer. -/
namespace L2.Q9
open PySem PySem.Spec PyProof.Rows

/-! ### data that stay -/
mutual
/-- none, bools, ints, texts, tuples of such -/
def im : PyData → Bool
  | .none => true
  | .bool _ => true
  | .int _ => true
  | .str _ => true
  | .tuple xs => imAll xs
  | .list _ => false
  | .dict _ => false
def imAll : List PyData → Bool
  | [] => true
  | x :: xs => im x && imAll xs
end
theorem imAll_cons {x : PyData} {xs : List PyData} (h : imAll (x :: xs) = true) : im x = true ∧ imAll xs = true := by
  rw [imAll, Bool.and_eq_true] at h
  exact h
theorem imAll_mk {x : PyData} {xs : List PyData} (h : im x = true) (h' : imAll xs = true) : imAll (x :: xs) = true := by
  rw [imAll, h, h']
  rfl
/-- tuples (and locked things) stay -/
structure Kt (H H' : Hp) : Prop where
  tup : ∀ b xs, H b = some (.tup xs) → H' b = some (.tup xs)
  frz : ∀ b o u, H b = some (.frz o u) → H' b = some (.frz o u)
theorem Kt.refl (H : Hp) : Kt H H := ⟨fun _ _ h => h, fun _ _ _ h => h⟩
theorem Kt.trans {H H1 H2 : Hp} (a : Kt H H1) (b : Kt H1 H2) : Kt H H2 := ⟨fun c xs h => b.tup c xs (a.tup c xs h), fun c o u h => b.frz c o u (a.frz c o u h)⟩
theorem Kt.of {H H' : Hp} (s : Same H H') : Kt H H' := ⟨fun b _ h => s b _ h, fun b _ _ h => s b _ h⟩
/-- at a place where nothing stood, or a list, or a dict -/
theorem Kt.upd {H : Hp} {a : Addr} {o : HO} (h1 : ∀ xs, H a ≠ some (.tup xs)) (h2 : ∀ p u, H a ≠ some (.frz p u)) : Kt H (upd H a o) := by
  refine ⟨fun b xs h => ?_, fun b p u h => ?_⟩
  · rw [upd_ne (fun e => h1 xs (by rw [← e]; exact h))]
    exact h
  · rw [upd_ne (fun e => h2 p u (by rw [← e]; exact h))]
    exact h
theorem Kt.new {H : Hp} {a : Addr} {o : HO} (h : H a = none) : Kt H (L2.upd H a o) := Kt.upd (fun _ e => by rw [h] at e; cases e) fun _ _ e => by rw [h] at e; cases e
theorem Kt.lst {H : Hp} {a : Addr} {xs : List V} {o : HO} (h : H a = some (.lst xs)) : Kt H (L2.upd H a o) := Kt.upd (fun _ e => by rw [h] at e; cases e) fun _ _ e => by rw [h] at e; cases e
theorem Kt.ext {H : Hp} {a : Addr} {φ : Heap → Prop} {o : HO} (h : H a = some (.ext φ)) : Kt H (L2.upd H a o) := Kt.upd (fun _ e => by rw [h] at e; cases e) fun _ _ e => by rw [h] at e; cases e
theorem Kt.seqT {K : PySem.W.Frag} {H H' : Hp} {a : Addr} {xs : List V} (k : Kt H H') (h : SqT K H a xs) : SqT K H' a xs := by
  rcases h with (h | ⟨o, h⟩) | h
  · exact .inl (.inl (k.tup _ _ h))
  · exact .inl (.inr ⟨o, k.frz _ _ _ h⟩)
  · exact .inr h
mutual
theorem Kt.dp {K : PySem.W.Frag} {H H' : Hp} (k : Kt H H') : ∀ (d : PyData) (v : V), im d = true → Dp K H v d → Dp K H' v d
  | .none, _, _, h => by cases h; exact .non
  | .bool b, _, _, h => by cases h; exact .bl b
  | .int i, _, _, h => by cases h; exact .int i
  | .str x, _, _, h => by cases h; exact .str x
  | .tuple ds, _, hi, h => by
    cases h with
    | tup hs ha => exact .tup (k.seqT hs) (Kt.dpAll k ds _ (by rw [im] at hi; exact hi) ha)
  | .list _, _, hi, _ => by rw [im] at hi; cases hi
  | .dict _, _, hi, _ => by rw [im] at hi; cases hi
theorem Kt.dpAll {K : PySem.W.Frag} {H H' : Hp} (k : Kt H H') : ∀ (ds : List PyData) (vs : List V), imAll ds = true → DpAll K H vs ds → DpAll K H' vs ds
  | [], _, _, h => by cases h; exact .nil
  | d :: ds, _, hi, h => by
    cases h with
    | cons h1 h2 => exact .cons (Kt.dp k d _ (imAll_cons hi).1 h1) (Kt.dpAll k ds _ (imAll_cons hi).2 h2)
end
/-- the value v is the datum d, which stays -/
structure At (K : PySem.W.Frag) (H : Hp) (v : V) (d : PyData) : Prop where
  im : im d = true
  dp : Dp K H v d
theorem At.keep {K : PySem.W.Frag} {H H' : Hp} {v : V} {d : PyData} (h : At K H v d) (k : Kt H H') : At K H' v d := ⟨h.im, k.dp d v h.im h.dp⟩
theorem At.int {K : PySem.W.Frag} {H : Hp} {i : Int} : At K H (.int i) (.int i) := ⟨rfl, .int i⟩
theorem At.str {K : PySem.W.Frag} {H : Hp} {x : Str} : At K H (.str x) (.str x) := ⟨rfl, .str x⟩
theorem At.bl {K : PySem.W.Frag} {H : Hp} {b : Bool} : At K H (.bl b) (.bool b) := ⟨rfl, .bl b⟩
theorem At.int_eq {K : PySem.W.Frag} {H : Hp} {i : Int} {v : V} (h : At K H v (.int i)) : v = .int i := by
  cases h.dp
  rfl
theorem At.str_eq {K : PySem.W.Frag} {H : Hp} {x : Str} {v : V} (h : At K H v (.str x)) : v = .str x := by
  cases h.dp
  rfl
theorem At.bl_eq {K : PySem.W.Frag} {H : Hp} {b : Bool} {v : V} (h : At K H v (.bool b)) : v = .bl b := by
  cases h.dp
  rfl
/-- values, one by one -/
inductive AtAll (K : PySem.W.Frag) (H : Hp) : List V → List PyData → Prop
  | nil : AtAll K H [] []
  | cons {v : V} {vs : List V} {d : PyData} {ds : List PyData} : At K H v d → AtAll K H vs ds → AtAll K H (v :: vs) (d :: ds)
theorem AtAll.keep {K : PySem.W.Frag} {H H' : Hp} (k : Kt H H') : ∀ {vs : List V} {ds : List PyData}, AtAll K H vs ds → AtAll K H' vs ds
  | _, _, .nil => .nil
  | _, _, .cons h t => .cons (h.keep k) (AtAll.keep k t)
theorem AtAll.length {K : PySem.W.Frag} {H : Hp} : ∀ {vs : List V} {ds : List PyData}, AtAll K H vs ds → vs.length = ds.length
  | _, _, .nil => rfl
  | _, _, .cons _ t => by rw [List.length_cons, List.length_cons, AtAll.length t]
theorem AtAll.get {K : PySem.W.Frag} {H : Hp} : ∀ {vs : List V} {ds : List PyData} {i : Nat} {d : PyData}, AtAll K H vs ds → ds[i]? = some d → ∃ v, vs[i]? = some v ∧ At K H v d
  | _, _, _, _, .nil, e => by simp at e
  | _, _, 0, _, .cons r _, e => by simp at e; subst e; exact ⟨_, rfl, r⟩
  | _, _, i + 1, d, .cons _ t, e => by
    obtain ⟨u, h1, h2⟩ := AtAll.get (i := i) (d := d) t (by simpa using e)
    exact ⟨u, by simpa using h1, h2⟩
theorem AtAll.get' {K : PySem.W.Frag} {H : Hp} : ∀ {vs : List V} {ds : List PyData} {i : Nat} {v : V}, AtAll K H vs ds → vs[i]? = some v → ∃ d, ds[i]? = some d ∧ At K H v d
  | _, _, _, _, .nil, e => by simp at e
  | _, _, 0, _, .cons r _, e => by simp at e; subst e; exact ⟨_, rfl, r⟩
  | _, _, i + 1, d, .cons _ t, e => by
    obtain ⟨u, h1, h2⟩ := AtAll.get' (i := i) t (by simpa using e)
    exact ⟨u, by simpa using h1, h2⟩
theorem AtAll.append {K : PySem.W.Frag} {H : Hp} : ∀ {vs us : List V} {ds es : List PyData}, AtAll K H vs ds → AtAll K H us es → AtAll K H (vs ++ us) (ds ++ es)
  | _, _, _, _, .nil, h => h
  | _, _, _, _, .cons h t, h' => .cons h (AtAll.append t h')
theorem AtAll.snoc {K : PySem.W.Frag} {H : Hp} {vs : List V} {ds : List PyData} {v : V} {d : PyData} (h : AtAll K H vs ds) (h' : At K H v d) : AtAll K H (vs ++ [v]) (ds ++ [d]) := h.append (.cons h' .nil)
theorem AtAll.dpAll {K : PySem.W.Frag} {H : Hp} : ∀ {vs : List V} {ds : List PyData}, AtAll K H vs ds → DpAll K H vs ds ∧ imAll ds = true
  | _, _, .nil => ⟨.nil, rfl⟩
  | _, _, .cons h t => ⟨.cons h.dp (AtAll.dpAll t).1, imAll_mk h.im (AtAll.dpAll t).2⟩
theorem AtAll.of {K : PySem.W.Frag} {H : Hp} : ∀ {ds : List PyData} {vs : List V}, imAll ds = true → DpAll K H vs ds → AtAll K H vs ds
  | [], _, _, h => by cases h; exact .nil
  | d :: ds, _, hi, h => by
    cases h with
    | cons h1 h2 => exact .cons ⟨(imAll_cons hi).1, h1⟩ (AtAll.of (imAll_cons hi).2 h2)
theorem At.tup_mk {K : PySem.W.Frag} {H : Hp} {a : Addr} {vs : List V} {ds : List PyData} (h : SqT K H a vs) (r : AtAll K H vs ds) : At K H (.ref a) (.tuple ds) :=
  ⟨by rw [L2.Q9.im]; exact r.dpAll.2, .tup h r.dpAll.1⟩
theorem At.tup_of {K : PySem.W.Frag} {H : Hp} {v : V} {ds : List PyData} (h : At K H v (.tuple ds)) : ∃ a vs, v = .ref a ∧ SqT K H a vs ∧ AtAll K H vs ds := by
  obtain ⟨hi, hd⟩ := h
  cases hd with
  | tup hs ha => exact ⟨_, _, rfl, hs, .of (by rw [L2.Q9.im] at hi; exact hi) ha⟩

/-! ### the datum as a key -/
mutual
def nk : PyData → NestedKey
  | .none => .none
  | .bool b => .num (if b = true then 1 else 0)
  | .int i => .num i
  | .str x => .text x
  | .tuple xs => .tup (nkAll xs)
  | .list _ => .none
  | .dict _ => .none
def nkAll : List PyData → List NestedKey
  | [] => []
  | x :: xs => nk x :: nkAll xs
end
section
variable {X : Cx} {pins : List (Addr × Obj)} {σ : St} {H : Hp} {s : Shared}
mutual
theorem dp_key (I : Inv X pins σ H s) : ∀ (d : PyData) (v : V) (u : Value), im d = true → Dp X.K H v d → RelV v u → NestedIs s.heap (nk d) u
  | .none, _, _, _, h, r => by
    cases h
    cases r
    exact .none
  | .bool b, _, _, _, h, r => by
    cases h
    cases r
    exact .bool rfl
  | .int i, _, _, _, h, r => by
    cases h
    obtain ⟨t, rfl⟩ := r
    exact .int i t
  | .str x, _, _, _, h, r => by
    cases h
    obtain ⟨t, rfl⟩ := r
    exact .text x t
  | .tuple ds, _, _, hi, h, r => by
    cases h with
    | tup hs ha =>
      cases r
      obtain ⟨its, rv, ⟨o, ho, hc, n, hd⟩, _⟩ := I.tuple hs
      rw [nk]
      refine .tup ho hc hd ?_
      have q := dp_keys I ds _ its (by rw [im] at hi; exact hi) ha rv
      simpa using q
  | .list _, _, _, hi, _, _ => by rw [im] at hi; cases hi
  | .dict _, _, _, hi, _, _ => by rw [im] at hi; cases hi
theorem dp_keys (I : Inv X pins σ H s) : ∀ (ds : List PyData) (vs : List V) (us : List Value), imAll ds = true → DpAll X.K H vs ds → Vals vs us → NestedAll s.heap (nkAll ds) us
  | [], _, _, _, h, r => by
    cases h
    cases r
    exact .nil
  | d :: ds, _, _, hi, h, r => by
    cases h with
    | cons h1 h2 =>
      cases r with
      | cons r1 r2 => exact .cons (dp_key I d _ _ (imAll_cons hi).1 h1 r1) (dp_keys I ds _ _ (imAll_cons hi).2 h2 r2)
end
end

/-! ### dicts with such keys -/
/-- key, the key's tuple, value -/
abbrev En := NestedKey × Addr × V
def EnRel (p : En) (q : NestedKey × Addr × Value) : Prop := p.1 = q.1 ∧ p.2.1 = q.2.1 ∧ RelV p.2.2 q.2.2
def NdOk (P : Program) (w : World) (a : Addr) (es : List En) (h : Heap) : Prop :=
  es.length ≤ sizeLine ∧ (a == sysModules) = false ∧ ∃ xs : List (NestedKey × Addr × Value), Paired EnRel es xs ∧
    ∃ o ens ep, h.get? a = some o ∧ o.ExactDict ∧ o.data = .dict ens ep ∧ ens.toList = xs.map (entryOfKey (nestedKind P w)) ∧ (xs.map (·.1)).Nodup
/-- at a stands a dict with these entries -/
def dN (P : Program) (w : World) (a : Addr) (es : List En) : HO := .ext (NdOk P w a es)
theorem dN_ok {P : Program} {w : World} {H : Hp} {h : Heap} {a : Addr} {es : List En} (x : NdOk P w a es h) : ObjOk P w H h a (dN P w a es) := by
  refine ⟨x, ?_, fun h1 h2 q k => ?_⟩
  · obtain ⟨_, _, _, _, o, _, _, e, _⟩ := x
    exact ⟨o, e⟩
  · obtain ⟨z, y, xs, r, o, ens, ep, e, c⟩ := q
    exact ⟨z, y, xs, r, o, ens, ep, k o e, c⟩
/-- the tuple at b is the key k -/
def KeyAt (K : PySem.W.Frag) (H : Hp) (b : Addr) (k : NestedKey) : Prop := ∃ d, At K H (.ref b) d ∧ nk d = k ∧ k.depth ≤ 8
theorem KeyAt.keep {K : PySem.W.Frag} {H H' : Hp} {b : Addr} {k : NestedKey} (h : KeyAt K H b k) (t : Kt H H') : KeyAt K H' b k := by
  obtain ⟨d, h1, h2⟩ := h
  exact ⟨d, h1.keep t, h2⟩
def KeysAt (K : PySem.W.Frag) (H : Hp) (es : List En) : Prop := ∀ p ∈ es, KeyAt K H p.2.1 p.1
theorem KeysAt.keep {K : PySem.W.Frag} {H H' : Hp} {es : List En} (h : KeysAt K H es) (t : Kt H H') : KeysAt K H' es := fun p hp => (h p hp).keep t
theorem KeysAt.nil {K : PySem.W.Frag} {H : Hp} : KeysAt K H [] := fun _ h => absurd h (by simp)
def atE (es : List En) (k : NestedKey) : Option V := (es.find? fun p => decide (p.1 = k)).map (·.2.2)
def putE (es : List En) (k : NestedKey) (b : Addr) (v : V) : List En :=
  if (atE es k).isSome then es.map (fun p => if p.1 = k then (p.1, p.2.1, v) else p) else es ++ [(k, b, v)]
theorem putE_new {es : List En} {k : NestedKey} {b : Addr} {v : V} (h : atE es k = none) : putE es k b v = es ++ [(k, b, v)] := by
  unfold putE
  rw [h]
  rfl
theorem length_putE (es : List En) (k : NestedKey) (b : Addr) (v : V) : (putE es k b v).length ≤ es.length + 1 := by
  unfold putE
  split
  · rw [List.length_map]; omega
  · rw [List.length_append, List.length_singleton]; omega
theorem enRel_at : ∀ {es : List En} {xs : List (NestedKey × Addr × Value)} (k : NestedKey), Paired EnRel es xs → RelO (atE es k) ((atKey xs k).map (·.2))
  | _, _, _, .nil => True.intro
  | p :: es, q :: xs, k, .cons r t => by
    have ih := enRel_at k t
    obtain ⟨e1, e2, e3⟩ := r
    by_cases h : p.1 = k
    · have h' : q.1 = k := e1 ▸ h
      simpa [atE, atKey, List.find?_cons, h, h', RelO] using e3
    · have h' : ¬ q.1 = k := fun z => h (e1.trans z)
      simpa [atE, atKey, List.find?_cons, h, h'] using ih
theorem enRel_map {v : V} {u : Value} {k : NestedKey} (rv : RelV v u) : ∀ {es : List En} {xs : List (NestedKey × Addr × Value)}, Paired EnRel es xs → Paired EnRel (es.map (fun p => if p.1 = k then (p.1, p.2.1, v) else p)) (xs.map (putAt k u))
  | _, _, .nil => .nil
  | p :: es, q :: xs, .cons h t => by
    rw [List.map_cons, List.map_cons]
    refine .cons ?_ (enRel_map rv t)
    obtain ⟨e1, e2, e3⟩ := h
    unfold putAt
    by_cases c : p.1 = k
    · rw [if_pos c, if_pos (e1.symm.trans c)]
      exact ⟨e1, e2, rv⟩
    · rw [if_neg c, if_neg (fun z => c (e1.trans z))]
      exact ⟨e1, e2, e3⟩
theorem enRel_snoc {v : V} {u : Value} {b : Addr} {k : NestedKey} (rv : RelV v u) : ∀ {es : List En} {xs : List (NestedKey × Addr × Value)}, Paired EnRel es xs → Paired EnRel (es ++ [(k, b, v)]) (xs ++ [(k, b, u)])
  | _, _, .nil => .cons ⟨rfl, rfl, rv⟩ .nil
  | _, _, .cons h t => .cons h (enRel_snoc rv t)
theorem enRel_put {v : V} {u : Value} {b : Addr} {k : NestedKey} {es : List En} {xs : List (NestedKey × Addr × Value)} (r : Paired EnRel es xs) (rv : RelV v u) : Paired EnRel (putE es k b v) (storedH xs k b u) := by
  have hs : (atE es k).isSome = (atKey xs k).isSome := by
    have q := (enRel_at k r).isSome_eq
    rw [Option.isSome_map] at q
    exact q
  unfold putE storedH
  rw [hs]
  split
  · exact enRel_map rv r
  · exact enRel_snoc rv r
theorem enRel_length {es : List En} {xs : List (NestedKey × Addr × Value)} (r : Paired EnRel es xs) : es.length = xs.length := Paired.length r
section
variable {X : Cx} {pins : List (Addr × Obj)} {σ : St} {H : Hp} {s : Shared} {a b : Addr} {es : List En} {k : NestedKey}
theorem key_is (I : Inv X pins σ H s) (h : KeyAt X.K H b k) : (nestedKind X.prog X.w).is s.heap k b := by
  obtain ⟨d, h1, rfl, h3⟩ := h
  exact ⟨dp_key I d _ _ h1.im h1.dp rfl, h3⟩
theorem nd_of (I : Inv X pins σ H s) (e : H a = some (dN X.prog X.w a es)) (hk : KeysAt X.K H es) : es.length ≤ sizeLine ∧ (a == sysModules) = false ∧ ∃ xs, Paired EnRel es xs ∧ s.heap.DictOfH (nestedKind X.prog X.w) a xs := by
  obtain ⟨⟨z, y, xs, r, o, ens, ep, e1, e2, e3, e4, e5⟩, _, _⟩ := (show ObjOk X.prog X.w H s.heap a (dN X.prog X.w a es) from I.hok a _ e)
  refine ⟨z, y, xs, r, o, ens, ep, e1, e2, e3, e4, ?_, e5⟩
  have all : ∀ {es : List En} {xs : List (NestedKey × Addr × Value)}, Paired EnRel es xs → KeysAt X.K H es → ∀ x ∈ xs, (nestedKind X.prog X.w).is s.heap x.1 x.2.1 := by
    intro es xs r
    induction r with
    | nil => intro _ x hx; exact absurd hx (by simp)
    | @cons p q es xs h t ih =>
      intro hk x hx
      rcases List.mem_cons.mp hx with e | hx
      · subst e
        obtain ⟨h1, h2, _⟩ := h
        have z := key_is I (hk p (List.mem_cons_self ..))
        rw [h1, h2] at z
        exact z
      · exact ih (fun y hy => hk y (List.mem_cons_of_mem _ hy)) x hx
  exact all r hk
theorem nd_room {A : Around} (hu : A.units + 64 < cLine) : (nestedKind X.prog X.w).room A.in1 := by
  show A.units + 1 + 8 < cLine
  omega
/-- behind a store -/
theorem nd_write {h' : Heap} {t' : Nat} {es' : List En} {xs' : List (NestedKey × Addr × Value)} (I : Inv X pins σ H s) (e : H a = some (dN X.prog X.w a es)) (hs : Heap.SameBut a s.heap h') (hz : es'.length ≤ sizeLine) (hd : (a == sysModules) = false) (r : Paired EnRel es' xs')
    (dd : h'.DictOfH (nestedKind X.prog X.w) a xs') : Inv X pins σ (upd H a (dN X.prog X.w a es')) { s with heap := h', toks := t' } := by
  obtain ⟨o, ens, ep, e1, e2, e3, e4, _, e5⟩ := dd
  exact d_write (t' := t') I (by rw [e]; exact True.intro) hs ⟨o, e1⟩ (dN_ok ⟨hz, hd, xs', r, o, ens, ep, e1, e2, e3, e4, e5⟩)
end

/-- k in d, k not in d -/
def rInN (P : Program) (w : World) (K : PySem.W.Frag) (neg : Bool) : R2 := fun x y H Q => ∃ d es b k, y = .ref d ∧ x = .ref b ∧ H d = some (dN P w d es) ∧ KeysAt K H es ∧ KeyAt K H b k ∧ Q (.bl (if neg = true then !(atE es k).isSome else (atE es k).isSome)) H
/-- d[k] -/
def rGetN (P : Program) (w : World) (K : PySem.W.Frag) : R2 := fun x y H Q => ∃ d es b k v, x = .ref d ∧ y = .ref b ∧ H d = some (dN P w d es) ∧ KeysAt K H es ∧ KeyAt K H b k ∧ atE es k = some v ∧ Q v H
/-- d[k] = v -/
def rSetN (P : Program) (w : World) (K : PySem.W.Frag) : V → V → V → Hp → (Hp → Prop) → Prop := fun o i v H Q => ∃ d es b k, o = .ref d ∧ i = .ref b ∧ H d = some (dN P w d es) ∧ KeysAt K H es ∧ KeyAt K H b k ∧ es.length < sizeLine ∧ Q (upd H d (dN P w d (putE es k b v)))
/-- d.setdefault(k, v) -/
def rSdN (P : Program) (w : World) (K : PySem.W.Frag) : V → List V → Hp → VK → Prop := fun x vs H Q => ∃ d es b k v, x = .ref d ∧ vs = [.ref b, v] ∧ H d = some (dN P w d es) ∧ KeysAt K H es ∧ KeyAt K H b k ∧ es.length < sizeLine ∧
  (∀ u, atE es k = some u → Q u H) ∧ (atE es k = none → Q v (upd H d (dN P w d (es ++ [(k, b, v)]))))
section
variable {X : Cx}
theorem op_inN (hu : X.A.units + 64 < cLine) : OpR X (compareOp .In) (rInN X.prog X.w X.K false) := by
  intro pins s σ H x y v u Q I rx ry h
  obtain ⟨d, es, b, k, rfl, rfl, e, hk, hb, q⟩ := h
  cases (show v = Value.ref b from rx)
  cases (show u = Value.ref d from ry)
  obtain ⟨z, hd, xs, r, dd⟩ := nd_of I e hk
  refine wpAny_in_heap (nd_room hu) (key_is I hb) hd dd ?_
  have c := (enRel_at k r).isSome_eq
  rw [Option.isSome_map] at c
  rw [← c]
  exact ⟨.bl _, H, I.tok _, rfl, q⟩
theorem op_notInN (hu : X.A.units + 64 < cLine) : OpR X (compareOp .NotIn) (rInN X.prog X.w X.K true) := by
  intro pins s σ H x y v u Q I rx ry h
  obtain ⟨d, es, b, k, rfl, rfl, e, hk, hb, q⟩ := h
  cases (show v = Value.ref b from rx)
  cases (show u = Value.ref d from ry)
  obtain ⟨z, hd, xs, r, dd⟩ := nd_of I e hk
  refine wpAny_notIn_heap (nd_room hu) (key_is I hb) hd dd ?_
  have c := (enRel_at k r).isSome_eq
  rw [Option.isSome_map] at c
  rw [← c]
  exact ⟨.bl _, H, I.tok _, rfl, q⟩
theorem pe_getN {o i : Expr} {pos : Pos} {td ty : TE} (hu : X.A.units + 64 < cLine) (ho : PE X o td) (hi : PE X i ty) (hs : NoSl i) : PE X (.Subscript o i pos) (tOp (rGetN X.prog X.w X.K) td ty) := by
  refine ⟨fun pins s σ H Q I h => ?_⟩
  refine subD_of PySem.F.slot_dict_getitem.lookup hs (thn (ho.run pins s σ H _ I h) fun u s1 ⟨x, H1, I1, rx, q1⟩ => thn (hi.run pins s1 σ H1 _ I1 q1) fun iv s2 ⟨y, H2, I2, ry, q2⟩ => ?_)
  obtain ⟨d, es, b, k, r, rfl, rfl, e, hk, hb, hv, q⟩ := q2
  obtain rfl : u = Value.ref d := rx
  obtain rfl : iv = Value.ref b := ry
  obtain ⟨z, hd, xs, rel, dd⟩ := nd_of I2 e hk
  obtain ⟨w', hw, rw'⟩ := RelO.some_of (v := r) (o := (atKey xs k).map (·.2)) (by rw [← hv]; exact enRel_at k rel)
  obtain ⟨p, hp, hp2⟩ := Option.map_eq_some_iff.mp hw
  refine ⟨dd.typeIs, wpAny_getItem_heap (nd_room hu) (key_is I2 hb) dd hp ?_⟩
  rw [hp2]
  exact ⟨r, H2, I2.tok _, rw', q⟩
theorem set_dN (hu : X.A.units + 64 < cLine) : PSet X (rSetN X.prog X.w X.K) := by
  intro pins s σ H o i v ov iv u Q I ro ri rv h
  obtain ⟨d, es, b, k, rfl, rfl, e, hk, hb, hl, q⟩ := h
  cases (show ov = Value.ref d from ro)
  cases (show iv = Value.ref b from ri)
  obtain ⟨z, hd, xs, rel, dd⟩ := nd_of I e hk
  refine wpAny_setItem_heap (hsz := by rw [← enRel_length rel]; exact z) (nd_room hu) (key_is I hb) dd fun h' dd' hs => ?_
  exact ⟨_, nd_write I e hs (by have := length_putE es k b v; omega) hd (enRel_put rel rv) dd', q⟩
theorem mt_setdefaultN (hu : X.A.units + 64 < cLine) : MtR X "dict.setdefault" (rSdN X.prog X.w X.K) := by
  intro pins s σ H x vs v us Q I rx rv h
  obtain ⟨d, es, b, k, y, rfl, rfl, e, hk, hb, hl, h1, h2⟩ := h
  cases (show v = Value.ref d from rx)
  obtain ⟨u1, u2, rfl, r1, r2⟩ := vals2 rv
  cases (show u1 = Value.ref b from r1)
  obtain ⟨z, hd, xs, rel, dd⟩ := nd_of I e hk
  have c := enRel_at k rel
  refine call_setdefault_heap (hsz := by rw [← enRel_length rel]; exact z) (nd_room hu) (key_is I hb) hd dd (fun p hp => ?_) fun hn h' dd' hs => ?_
  · rw [hp] at c
    cases e2 : atE es k with
    | none => rw [e2] at c; exact c.elim
    | some w' =>
      rw [e2] at c
      exact ⟨w', H, I.tok _, c, h1 w' e2⟩
  · rw [hn] at c
    have e2 : atE es k = none := by
      cases e3 : atE es k with
      | none => rfl
      | some w' => rw [e3] at c; exact c.elim
    have h3 := h2 e2
    rw [← putE_new e2] at h3
    exact ⟨y, _, nd_write I e hs (by have := length_putE es k b y; omega) hd (enRel_put rel r2) dd', r2, h3⟩
end
end L2.Q9


set_option Elab.async false
set_option linter.all false
set_option maxRecDepth 100000
set_option maxHeartbeats 4000000
/-! Q9: calls and comprehensions over such dicts; orders, sorts. -/
namespace L2.Q9
open PySem PySem.Spec PyProof.Rows

/-! ### {} -/
theorem dN_new {P : Program} {w : World} {H : Hp} (h : Heap) (hb : sysModules < h.objs.size) : ObjOk P w H (h.push { cls := .type "dict", data := .dict #[] }) h.objs.size (dN P w h.objs.size []) :=
  dN_ok ⟨Nat.zero_le _, beq_eq_false_iff_ne.mpr (Nat.ne_of_gt hb), [], .nil, _, #[], 0, Heap.get?_push_size _ rfl, ⟨rfl, rfl, rfl⟩, rfl, rfl, List.nodup_nil⟩
def tNewN (P : Program) (w : World) : TE := fun _ H Q => ∀ p, H p = none → Q (.ref p) (upd H p (dN P w p []))
section
variable {X : Cx}
theorem pe_newN {pos : Pos} : PE X (.Dict [] [] pos) (tNewN X.prog X.w) := by
  refine ⟨fun pins s σ H Q I h => wpAny_Dict_empty ?_⟩
  have J := I.laid (a := s.heap.objs.size) (o := dN X.prog X.w s.heap.objs.size []) (t' := s.toks) (h' := s.heap.push { cls := .type "dict", data := .dict #[] }) (fun b u q => Heap.get?_push_of_some _ q) (Nat.le_refl _) (dN_new s.heap I.big)
  exact ⟨.ref s.heap.objs.size, _, J, rfl, h _ (I.hok.fresh (Nat.le_refl _))⟩
end

/-! ### d.setdefault(k, v) -/
def tSd (P : Program) (w : World) (K : PySem.W.Frag) (to : TE) (t : TA) : TE := fun σ H Q => to σ H fun x H1 => (∃ a es, x = .ref a ∧ H1 a = some (dN P w a es)) ∧ t σ H1 fun xs H2 => rSdN P w K x xs H2 Q
section
variable {X : Cx}
theorem pe_sdN {o e : Expr} {es : List Expr} {to : TE} {t : TA} {apos cpos : Pos} (hu : X.A.units + 64 < cLine) (ho : PE X o to) (ha : PA X (e :: es) t) (hbase : attributeBase o "setdefault" X.env (eval o X.env) = eval o X.env := by rfl)
    (hfew : ((backTo cpos (starEach (e :: es) X.env)).all (fun x => !x.1) && (backToKw cpos (keywordEach [] X.env)).all (fun x => x.1.isSome) && decide ((e :: es).length + ([] : List Keyword).length + (if ([] : List Keyword).isEmpty then 0 else 1) < 30)) = true := by rfl)
    (hl : (apos.endLine == cpos.line) = true := by rfl) (hst : starEach (e :: es) X.env = (false, eval e X.env) :: starEach es X.env := by rfl) (hpl : (backTo cpos (starEach es X.env)).any (·.1) = false := by rfl) :
    PE X (.Call (.Attribute o "setdefault" apos) (e :: es) [] cpos) (tSd X.prog X.w X.K to t) := by
  refine ⟨fun pins s σ H Q I h => wpAny_Call_method_late hbase hfew hl rfl (thn (ho.run pins s σ H _ I h) fun v s1 z => ?_)⟩
  obtain ⟨x, H1, I1, r1, ⟨a, en, rfl, ea⟩, q1⟩ := z
  cases (show v = Value.ref a from r1)
  obtain ⟨⟨_, _, _, _, ob, _, _, e1, e2, _⟩, _, _⟩ := (show ObjOk X.prog X.w H1 s1.heap a (dN X.prog X.w a en) from I1.hok a _ ea)
  refine ⟨"dict", "dict.setdefault", PySem.F.plainAttrs_dict, PySem.F.slot_dict_setdefault, PySem.F.type_dict_setdefault, ⟨ob, e1, e2.1⟩, fun b eb => ?_, ?_⟩
  · cases eb
    exact ⟨ob, e1, e2.2.1⟩
  · have hA := ha.run cpos pins s1 σ H1 _ I1 q1
    rw [hst] at hA ⊢
    refine Calls.callWith_builtin (by show (false || (backTo cpos (starEach es X.env)).any (·.1)) = false; rw [hpl] <;> rfl) (Calls.evalArgs_plain (thn hA fun us s2 y => ?_))
    obtain ⟨vs, H2, I2, r2, q2⟩ := y
    exact mt_setdefaultN hu pins s2 σ H2 (.ref a) vs _ us Q I2 rfl r2 q2
end

/-! ### {k: v for target in iter} -/
section
variable {X : Cx}
/-- dictSet of a comprehension -/
theorem d_setN {pins : List (Addr × Obj)} {σ : St} {H : Hp} {s : Shared} {E : Value → Shared → Prop} {D b : Addr} {es : List En} {k : NestedKey} {v : V} {r : Value} {Q : Unit → Shared → Prop} (hu : X.A.units + 64 < cLine) (I : Inv X pins σ H s) (hD : H D = some (dN X.prog X.w D es))
    (hk : KeysAt X.K H es) (hb : KeyAt X.K H b k) (hz : es.length < sizeLine) (rv : RelV v r) (h : ∀ s', Inv X pins σ (upd H D (dN X.prog X.w D (putE es k b v))) s' → Q () s') : wpAny (model X.prog X.w) X.A (dictSet D (.ref b) r) Q E s := by
  obtain ⟨z, hd, xs, rel, dd⟩ := nd_of I hD hk
  refine wpAny_dictSet_heap (hsz := by rw [← enRel_length rel]; exact z) (show X.A.units + 8 < cLine by omega) (key_is I hb) dd fun h' dd' hs => h _ ?_
  exact nd_write I hD hs (by have := length_putE es k b v; omega) hd (enRel_put rel rv) dd'
/-- one turn's end: the entry goes in -/
abbrev endN (P : Program) (w : World) (K : PySem.W.Frag) (D : Addr) (y z : V) (H : Hp) (Nx : Hp → Prop) : Prop :=
  ∃ es b k, y = .ref b ∧ H D = some (dN P w D es) ∧ KeysAt K H es ∧ KeyAt K H b k ∧ es.length < sizeLine ∧ Nx (upd H D (dN P w D (putE es k b z)))
def tDcN (P : Program) (w : World) (K : PySem.W.Frag) (wi : TI) (g : TG) (tk tv : TE) (vs : List Nat) : TE := fun σ H Q => wi σ H fun J H1 => ∀ D, H1 D = none → ∃ W : Nat → Nat → Hp → Prop, (∃ m, W 0 m (upd H1 D (dN P w D []))) ∧
  ∀ i m H, W i m H → (J.stop i H ∧ Q (.ref D) H) ∨ (J.go i H ∧ ∃ Nx : Hp → Prop, (∀ H', Nx H' → ∃ m', m' < m ∧ W (i + 1) m' H') ∧
    ∀ x H', J.yld i H x H' → g x (wipe σ vs) H' fun σ2 H2 => wipe σ2 vs = wipe σ vs ∧ tk σ2 H2 fun y H4 => tv σ2 H4 fun z H5 => endN P w K D y z H5 Nx)
theorem pe_dcN {kx vx tg iter : Expr} {scope : Scope} {own : List (Str × Nat)} {pos : Pos} {wi : TI} {g : TG} {tk tv : TE} (hu : X.A.units + 64 < cLine) (hc : X.calm = true) (hN : X.N.Nodup) (hi : PI X tg iter wi) (ok : BlkOk X.N X.env.scope scope own)
    (hg : ∀ s H C cl fp, PG (X.blk s H scope (compEnvC scope cl C X.env) fp) tg g) (hk : ∀ s H C cl fp, PE (X.blk s H scope (compEnvC scope cl C X.env) fp) kx tk)
    (he : ∀ s H C cl fp, PE (X.blk s H scope (compEnvC scope cl C X.env) fp) vx tv) (hs : ∀ x, foldedSetIterable iter X.env x = pure x := by intro _; rfl) :
    PE X (.DictComp kx vx [⟨tg, iter, [], 0⟩] scope pos) (tDcN X.prog X.w X.K wi g tk tv (own.map (·.2))) := by
  refine ⟨fun pins s σ H Q I h => ?_⟩
  rw [arm_eval_DictComp]
  have closed : ∀ y ∈ scope.names, y.2 = .free → ∃ c, X.env.cells.lookup y.1 = some c := fun y hy e => by
    rcases ok.free y hy e with z | z
    · exact I.ok.has _ (Or.inl z)
    · exact I.ok.has _ (Or.inr z)
  refine wpAny_comprehension_free (use := none) rfl hs (closure_ok closed) ok.kind (fun y hy e => by rw [ok.uniq y hy, e]) (thn (hi.run pins s σ H _ I h) fun xv s1 hx => thn hx fun itv s2 z => ?_)
  obtain ⟨it, fp, tn, J, H2, rfl, I2, T, st2, f2, q⟩ := z
  refine wpAny_newObj_type (newEnv_comp ?_)
  generalize hD : s2.heap.objs.size = D
  have hDn : H2 D = none := I2.hok.fresh (Nat.le_of_eq hD)
  obtain ⟨W, ⟨m0, w0⟩, turn⟩ := q D hDn
  -- the state with the new dict
  generalize hs3 : ({ s2 with heap := s2.heap.push { cls := .type "dict", data := .dict #[] } } : Shared) = s3
  generalize hH3 : upd H2 D (dN X.prog X.w D []) = H3
  rw [hH3] at w0
  have h3 : s3.heap = s2.heap.push { cls := .type "dict", data := .dict #[] } := by rw [← hs3]
  have I3 : Inv X pins σ H3 s3 := by
    rw [← hs3, ← hH3]
    refine I2.laid (t' := s2.toks) (fun b o e => Heap.get?_push_of_some _ e) (Nat.le_of_eq hD) ?_
    rw [← hD]
    exact dN_new s2.heap I2.big
  have f3 : ∀ b ∈ fp, FpOk X pins H3 b ∧ b < s3.heap.objs.size := fun b hb => by
    obtain ⟨o, e, _⟩ := T.obj _ _ st2 b hb
    have lt := Heap.lt_size e
    refine ⟨⟨?_, (f2 b hb).2⟩, by rw [h3, Heap.size_push]; exact Nat.lt_succ_of_lt lt⟩
    rw [← hH3, upd_ne (by rw [← hD]; exact Nat.ne_of_lt lt)]
    exact (f2 b hb).1
  have st3 : tn 0 s3.heap := T.keep _ _ _ st2 fun b _ o e => by rw [h3]; exact Heap.get?_push_of_some _ e
  have I4 := block_start I3 ok hN f3
  have pg := hg s3 H3 s3.heap.objs.size (cellsFrom (s3.heap.objs.size + 1) scope.names (cloFrom X.env.cells scope.names [])) fp
  have pk := hk s3 H3 s3.heap.objs.size (cellsFrom (s3.heap.objs.size + 1) scope.names (cloFrom X.env.cells scope.names [])) fp
  have pv := he s3 H3 s3.heap.objs.size (cellsFrom (s3.heap.objs.size + 1) scope.names (cloFrom X.env.cells scope.names [])) fp
  generalize hce : compEnvC scope (cellsFrom (s3.heap.objs.size + 1) scope.names (cloFrom X.env.cells scope.names [])) s3.heap.objs.size X.env = ce at I4 pg pk pv
  have cL : ce.locals = s3.heap.objs.size := by subst hce; rfl
  have hP : pushCells (s3.heap.push { cls := .type "dict", data := .dict #[] }) scope.names = pushCells (s3.heap.push { cls := .type "dict", data := .dict #[] }) scope.names := rfl
  generalize hs4 : ({ s3 with heap := pushCells (s3.heap.push { cls := .type "dict", data := .dict #[] }) scope.names } : Shared) = s4 at I4
  have st4 : tn 0 s4.heap := T.keep _ _ _ st3 fun b _ o e => by rw [← hs4]; exact pushCells_keeps _ _ _ _ (Heap.get?_push_of_some _ e)
  have stat : ∀ {σ' : St} {H' : Hp} {s' : Shared}, Inv (X.blk s3 H3 scope ce fp) [] σ' H' s' → (∀ b ∈ fp, H' b = none) → ∀ b ∈ fp, FpOk (X.blk s3 H3 scope ce fp) [] H' b := fun {σ' H' s'} I' hn b hb =>
    ⟨hn b hb, (I'.ok.exf b hb).1, I'.ok.exfs b hb, Or.inl hb, fun x c e => (I'.ok.exf b hb).2 x c e, fun p hp => absurd (show p ∈ ([] : List (Addr × Obj)) ++ [] from hp) (by simp)⟩
  have loop : codeAny (model X.prog X.w) X.A (.compLoop (.DictComp kx vx [⟨tg, iter, [], 0⟩] scope pos) 0 (.ref it) (.ref D) ce) (compPost (model X.prog X.w) X.A X.xe none (EP X pins σ Q) (.ref D) s3.heap.objs.size) s4 := by
    refine compLoop_anyD (fun n s' => ∃ i H', Inv (X.blk s3 H3 scope ce fp) [] (wipe σ (own.map (·.2))) H' s' ∧ tn i s'.heap ∧ (∀ b ∈ fp, H' b = none) ∧ W i n H') ?_ m0 ⟨0, H3, I4, st4, fun b hb => (f3 b hb).1.1, w0⟩
    rintro n s5 ⟨i, H5, I5, st5, n5, w5⟩
    rcases turn i n H5 w5 with ⟨stop, fin⟩ | ⟨go, Nx, hNx, step⟩
    · refine thnF (T.done (X.blk s3 H3 scope ce fp) rfl rfl rfl hc i [] s5 _ H5 (fun _ _ => False) I5 (stat I5 n5) st5 stop) fun r s6 ⟨hr, I6⟩ => ?_
      subst hr
      have I7 : Inv X pins σ H5 s6 := I3.call' (ch := fp) I6.os I6.base I6.hok I6.bare fun b hb => ⟨(f3 b hb).1.2.2.2.1, (f3 b hb).1.2.1, (f3 b hb).1.2.2.2.2.1, (f3 b hb).1.2.2.2.2.2⟩
      have nC : H5 s3.heap.objs.size = none := by
        have z : H5 ce.locals = none := I6.free
        rwa [cL] at z
      obtain ⟨m, hn, _⟩ := I6.loc
      have hn' : s6.heap.Ns ce.locals m := hn
      rw [cL] at hn'
      obtain ⟨f0, f1, _, g3, g4, g5⟩ := I3.fpOk (Nat.le_refl _) nC
      exact ⟨m, hn', fun h'' sb => ⟨.ref D, H5, I7.turned (t' := s6.toks) (fun b o hb e => (sb.2 b hb).trans e) f0 f1 g3 g4 g5, rfl, fin⟩⟩
    · refine thnF (T.item (X.blk s3 H3 scope ce fp) rfl rfl rfl hc i [] s5 _ H5 (fun _ _ => False) I5 (stat I5 n5) st5 go) fun r s6 ⟨u, hr, h6⟩ => ?_
      subst hr
      refine thnF h6 fun _ s7 ⟨x, H7, I7, r7, y7, st7, n7⟩ => ?_
      refine thnF (pg.run _ s7 _ H7 x u _ (I7.pinned (stat I7 n7) (T.obj _ _ st7)) r7 (step x H7 y7)) fun _ s8 ⟨σ8, H8, I8, hw8, q8⟩ => wpAny_tests_nil ?_
      have back : ∀ {s' : Shared} {H' : Hp}, Inv (X.blk s3 H3 scope ce fp) ([] ++ pinsAt fp s7.heap) σ8 H' s' → Nx H' → ∃ m, m < n ∧ ∃ i H', Inv (X.blk s3 H3 scope ce fp) [] (wipe σ (own.map (·.2))) H' s' ∧ tn i s'.heap ∧ (∀ b ∈ fp, H' b = none) ∧ W i m H' := fun {s' H'} I' nx => by
        obtain ⟨m', hm, w'⟩ := hNx H' nx
        have pin : ∀ b ∈ fp, ∀ o, s7.heap.get? b = some o → s'.heap.get? b = some o ∧ H' b = none := fun b hb o e => by
          have z := I'.pin (b, o) (List.mem_append_right _ (List.mem_append_right _ (mem_pinsAt hb e)))
          exact ⟨z.1, z.2.1⟩
        refine ⟨m', hm, i + 1, H', (I'.unpinned (pins := [])).weak (by rw [← hw8, wipe_length]) (fun j v e => ?_), T.keep _ _ _ st7 fun b hb o e => (pin b hb o e).1, fun b hb => ?_, w'⟩
        · rw [← hw8] at e
          exact (wipe_some e).1
        · obtain ⟨o, e, _⟩ := T.obj _ _ st7 b hb
          exact (pin b hb o e).2
      refine thnF (pk.run _ s8 σ8 H8 _ I8 q8) fun ku s9 ⟨yk, H9, I9, r9, q9⟩ => thnF (pv.run _ s9 σ8 H9 _ I9 q9) fun vu s10 ⟨yv, H10, I10, r10, q10⟩ => ?_
      obtain ⟨es, b, k, rfl, hD10, hks, hkb, hz, nx⟩ := q10
      cases (show ku = Value.ref b from r9)
      exact d_setN (X := X.blk s3 H3 scope ce fp) hu I10 hD10 hks hkb hz r10 fun s11 I11 => back I11 nx
  have fin := codeAny_compStart_dict loop (T.self X.A 0 _ _ _ st4 loop)
  subst hce hs4
  exact fin
/-- over a list that stays -/
theorem dcN_list {P : Program} {w : World} {K : PySem.W.Frag} {a : Addr} {xs : List V} {g : TG} {tk tv : TE} {vs : List Nat} {σ : St} {H1 : Hp} {D : Addr} {Qd : Hp → Prop} (Pv : Nat → Hp → Prop) (h0 : Pv 0 (upd H1 D (dN P w D []))) (hl : ∀ i H, i ≤ xs.length → Pv i H → SqL K H a xs)
    (hs : ∀ i x H, xs[i]? = some x → Pv i H → g x (wipe σ vs) H fun σ2 H2 => wipe σ2 vs = wipe σ vs ∧ tk σ2 H2 fun y H4 => tv σ2 H4 fun z H5 => endN P w K D y z H5 (Pv (i + 1))) (hd : ∀ H, Pv xs.length H → Qd H) :
    ∃ W : Nat → Nat → Hp → Prop, (∃ m, W 0 m (upd H1 D (dN P w D []))) ∧ ∀ i m H, W i m H → ((Itl K a).stop i H ∧ Qd H) ∨ ((Itl K a).go i H ∧ ∃ Nx : Hp → Prop, (∀ H', Nx H' → ∃ m', m' < m ∧ W (i + 1) m' H') ∧
      ∀ x H', (Itl K a).yld i H x H' → g x (wipe σ vs) H' fun σ2 H2 => wipe σ2 vs = wipe σ vs ∧ tk σ2 H2 fun y H4 => tv σ2 H4 fun z H5 => endN P w K D y z H5 Nx) := by
  refine ⟨fun i m H => m + i = xs.length ∧ Pv i H, ⟨xs.length, rfl, h0⟩, ?_⟩
  rintro i m H ⟨hm, p⟩
  have q := hl i H (by omega) p
  cases m with
  | zero =>
    have e : i = xs.length := by omega
    subst e
    exact .inl ⟨⟨xs, q, Nat.le_refl _⟩, hd H p⟩
  | succ m =>
    have lt : i < xs.length := by omega
    refine .inr ⟨⟨xs, xs[i], q, by simp [lt]⟩, Pv (i + 1), fun H' p' => ⟨m, Nat.lt_succ_self m, by omega, p'⟩, fun x H' y => ?_⟩
    obtain ⟨rfl, y⟩ := y
    exact hs i x _ (y xs q) p
end
end L2.Q9


set_option Elab.async false
set_option linter.all false
set_option maxRecDepth 100000
set_option maxHeartbeats 4000000
/-! Q9: sorted(..) of data in tuples, empty ones among them; sorted(d); <, ==, !=, in of such data; text * int. -/
namespace L2.Q9
open PySem PySem.Spec PyProof.Rows

/-! ### tuples that are compared as sorting does -/
section
variable {prog : Program} {w : World} {A : Around} {E : Value → Shared → Prop} {s : Shared}
theorem tup_lt {Q : Value → Shared → Prop} {l b : Addr} {items items2 : Array Value} {e r : Nat → Bool} (hl : s.heap.IsTuple l items) (hb : s.heap.IsTuple b items2)
    (he : ∀ j (h1 : j < items.size) (h2 : j < items2.size), SeqAt.EqAt A.in1 s items[j] items2[j] (e j)) (hr : ∀ j (h1 : j < items.size) (h2 : j < items2.size), e j = false → SeqAt.RcLt A.in1 s items[j] items2[j] (r j))
    (h : Q (.bool (SeqAt.firstLt e r (decide (items.size < items2.size)) (List.range (min items.size items2.size)))) s) : wpAny (model prog w) A (call (.builtin "tuple.__lt__") [.ref l, .ref b]) Q E s := by
  obtain ⟨⟨c1, d1, t1, z1⟩, ho, hc, n, hd⟩ := id hl
  obtain ⟨⟨c2, d2, t2, z2⟩, ho2, hc2, n2, hd2⟩ := id hb
  simp only at hc hd hc2 hd2
  subst hc hd hc2 hd2
  exact call_meets F.slot_tuple_lt ⟨_, ho, rfl⟩ F.entry_tuple_lt (F.args_tuple_lt_2 _ _) (SeqAt.tuple_ltAt l b items items2 n n2 d1 d2 z1 z2 e r) ⟨ho, ho2, he, hr, h⟩
theorem oneLt_tup {f : Bool} {xs ys : List PyData} {a b : Value} {as bs : List Addr} {Q : Bool → Shared → Prop} (ra : Reads s.heap a (.tuple xs) as) (rb : Reads s.heap b (.tuple ys) bs) (h : PySem.W.alike (.tuple xs) (.tuple ys) = true)
    (hu : A.units + min (PyData.tuple xs).depth (PyData.tuple ys).depth < cLine) (hq : Q (PySem.W.dataLt (.tuple xs) (.tuple ys)) s) : wpAny (model prog w) A (oneLt' f a b) Q E s := by
  cases f with
  | false => exact PySem.W.oneLt_alike (fun z => nomatch z) ra rb h (fun z => nomatch z) hu hq
  | true =>
    have hal : PySem.W.alikeAll xs ys = true := by simpa [PySem.W.alike] using h
    cases ra with
    | @tuple l o vs n _ _ h1 h2 h3 h4 =>
      cases rb with
      | @tuple l' o' vs' n' _ _ k1 k2 k3 k4 =>
        have n1 : vs.size = xs.length := by simpa using SeqAt.ReadsAll.length _ _ _ h4
        have n2 : vs'.size = ys.length := by simpa using SeqAt.ReadsAll.length _ _ _ k4
        rw [PySem.W.dataLt_tuple, ← PySem.W.firstLt_toks xs ys hal, ← n1, ← n2] at hq
        rw [oneLt'_eq]
        simp only [if_true]
        refine wpAny_bind (wpAny_cRoomFor (SeqAt.room_here hu) ?_)
        refine wpAny_bind (wpAny_callSpecialIfBound?_slot (T := "tuple") ⟨_, h1, h2⟩ F.slot_tuple_lt (tup_lt (e := PySem.SeqAt.pairEq xs ys) (r := fun j => PySem.W.dataLt (xs.getD j .none) (ys.getD j .none)) ⟨_, h1, h2, _, h3⟩ ⟨_, k1, k2, _, k3⟩ (fun j j1 j2 => ?_) (fun j j1 j2 hj => ?_) ?_))
        · have := PySem.W.eqAt_alikeAll xs ys A.in1 s vs.toList vs'.toList _ _ h4 k4 hal (SeqAt.room_in hu) j (by simpa using j1) (by simpa using j2)
          simpa using this
        · have := PySem.W.rcLt_alikeAll xs ys A.in1 s vs.toList vs'.toList _ _ h4 k4 hal (SeqAt.room_in hu) j (by simpa using j1) (by simpa using j2) hj
          simpa using this
        · exact wpAny_truthy_bool hq
/-- the first items of tuples, where there are some -/
theorem firsts_any {M : Model} : ∀ (vs : List Value) {Q : List (Option Value) → Shared → Prop}, (∀ v ∈ vs, ∃ a o xs n, v = Value.ref a ∧ s.heap.get? a = some o ∧ o.cls = .type "tuple" ∧ o.data = .seq xs n) →
    (∀ fs : List (Option Value), (∀ (i : Nat) (a : Addr) (o : Obj) (xs : Array Value) (n : Nat), vs[i]? = some (Value.ref a) → s.heap.get? a = some o → o.data = .seq xs n → fs[i]? = some xs[0]?) → fs.length = vs.length → Q fs s) → wpAny M A (vs.mapM firstOfTuple') Q E s
  | [], _, _, h => by
    rw [List.mapM_nil]
    exact wpAny_pure (h [] (fun i a o xs n e => by simp at e) rfl)
  | v :: vs, Q, t, h => by
    obtain ⟨a, o, xs, n, rfl, ho, hc, hd⟩ := t v (List.mem_cons_self ..)
    rw [List.mapM_cons]
    refine wpAny_bind ?_
    rw [PySem.W.kas_first_eq]
    refine wpAny_bind (PySem.W.Looks.here (show PySem.W.Looks M s.heap (typeOf (.ref a)) o.cls from (PySem.W.Looks.ld ho).andThen .now) ?_)
    rw [hc, if_neg (by first | decide | simp)]
    refine wpAny_bind (listItems_at ho hd (wpAny_pure ?_))
    refine wpAny_bind (firsts_any vs (fun u hu => t u (List.mem_cons_of_mem _ hu)) fun fs hf hl => wpAny_pure (h (xs[0]? :: fs) (fun i b p ys m e1 e2 e3 => ?_) (by rw [List.length_cons, List.length_cons, hl])))
    cases i with
    | zero =>
      rw [List.getElem?_cons_zero] at e1
      cases e1
      rw [ho] at e2
      cases e2
      rw [hd] at e3
      cases e3
      rfl
    | succ i =>
      rw [List.getElem?_cons_succ] at e1 ⊢
      exact hf i b p ys m e1 e2 e3
/-- the way of comparing: by the first one -/
def kdOf : List PyData → SortKind
  | .tuple [] :: _ => oneType'
  | _ => general'
/-- how sorted compares tuples of which one is empty -/
theorem kind_empty {M : Model} {vs : List Value} {ds : List PyData} {Q : SortKind → Shared → Prop} (h2 : 2 ≤ vs.length) (er : PySem.W.EachIs (fun v d => ∃ as, Reads s.heap v d as) vs ds) (ht : ∀ d ∈ ds, ∃ xs, d = .tuple xs) (he : .tuple [] ∈ ds)
    (h : Q (kdOf ds) s) : wpAny M A (keyKind' vs.toArray) Q E s := by
  have tups : ∀ v ∈ vs, ∃ a o xs n, v = Value.ref a ∧ s.heap.get? a = some o ∧ o.cls = .type "tuple" ∧ o.data = .seq xs n := fun v hv => by
    obtain ⟨d, hd, as, r⟩ := er.left v hv
    obtain ⟨xs, rfl⟩ := ht d hd
    cases r with
    | @tuple a o ys n _ _ h1 h2 h3 h4 => exact ⟨a, o, ys, n, rfl, h1, h2, h3⟩
  have emp : ∃ (i : Nat) (a : Addr) (o : Obj) (n : Nat), vs[i]? = some (Value.ref a) ∧ s.heap.get? a = some o ∧ o.data = .seq #[] n := by
    clear h2 tups h
    induction er with
    | nil => exact absurd he (by simp)
    | @cons v d vs ds r t ih =>
      obtain ⟨as, r⟩ := r
      rcases List.mem_cons.mp he with e | he
      · subst e
        cases r with
        | @tuple a o ys n _ _ h1 h2 h3 h4 =>
          refine ⟨0, a, o, n, rfl, h1, ?_⟩
          have e0 : ys = #[] := by
            have q : ys.toList = [] := by
              generalize ys.toList = l at h4
              cases h4
              rfl
            exact Array.toList_eq_nil_iff.mp q
          rw [h3, e0]
      · obtain ⟨i, a, o, n, e1, e2⟩ := ih (fun d hd => ht d (List.mem_cons_of_mem _ hd)) he
        exact ⟨i + 1, a, o, n, by simpa using e1, e2⟩
  rw [keyKind'_eq, List.mapM_toArray, map_eq_pure_bind]
  refine wpAny_bind (wpAny_bind (firsts_any vs tups fun fs hf hl => wpAny_pure ?_))
  have hno : (fs.toArray.all fun x => x.isSome) = false := by
    obtain ⟨i, a, o, n, e1, e2, e3⟩ := emp
    have q := hf i a o #[] n e1 e2 e3
    rw [Bool.eq_false_iff]
    intro z
    rw [List.all_toArray, List.all_eq_true] at z
    have y := z _ (List.mem_of_getElem? q)
    simp at y
  rw [if_neg (by rw [hno]; simp)]
  obtain ⟨v₁, v₂, rest, rfl⟩ : ∃ v₁ v₂ rest, vs = v₁ :: v₂ :: rest := by
    match vs, h2 with
    | [], h2 => simp at h2
    | [_], h2 => simp at h2
    | v₁ :: v₂ :: rest, _ => exact ⟨v₁, v₂, rest, rfl⟩
  have head : ∃ d₀ dr, ds = d₀ :: dr ∧ ∃ as, Reads s.heap v₁ d₀ as := by
    cases er with
    | cons r t => exact ⟨_, _, rfl, r⟩
  obtain ⟨d₀, dr, rfl, as₀, r₀⟩ := head
  obtain ⟨x₀, rfl⟩ := ht d₀ (List.mem_cons_self ..)
  cases r₀ with
  | @tuple a₀ o₀ ys₀ n₀ _ _ g1 g2 g3 g4 =>
  have q0 := hf 0 a₀ o₀ ys₀ n₀ rfl g1 g3
  have len0 : ys₀.size = x₀.length := by simpa using SeqAt.ReadsAll.length _ _ _ g4
  have e0 : fs.toArray[0]? = some ys₀[0]? := by rw [List.getElem?_toArray]; exact q0
  rw [e0]
  cases x₀ with
  | cons x r =>
    have e1 : (((some ys₀[0]? : Option (Option Value)).bind id).isSome) = true := by
      have lt : 0 < ys₀.size := by rw [len0]; exact Nat.succ_pos _
      simp [lt]
    rw [if_pos e1]
    exact wpAny_pure h
  | nil =>
  have e1 : ¬ (((some ys₀[0]? : Option (Option Value)).bind id).isSome) = true := by
    have z : ys₀.size = 0 := by rw [len0]; rfl
    simp [z]
  rw [if_neg e1]
  rw [oneTypeOnly'_eq, List.mapM_toArray, map_eq_pure_bind]
  refine wpAny_bind (wpAny_bind (wpAny_bind (PySem.W.kas_mapM (r := Value.type "tuple") _ (fun v hv Q' hq => ?_) (wpAny_pure ?_))))
  · obtain ⟨a, o, xs, n, rfl, ho, hc, hd⟩ := tups v hv
    refine PySem.W.Looks.here (show PySem.W.Looks M s.heap (typeOf (.ref a)) (.type "tuple") from ?_) hq
    exact hc ▸ (PySem.W.Looks.ld ho).andThen .now
  · have hall : ((List.map (fun _ => Value.type "tuple") (Value.ref a₀ :: v₂ :: rest)).toArray.all fun x => x == Value.type "tuple") = true := by
      simp only [List.all_toArray, List.all_map, List.all_eq_true]
      intro _ _
      rfl
    have h0 : (List.map (fun _ => Value.type "tuple") (Value.ref a₀ :: v₂ :: rest)).toArray[0]? = some (Value.type "tuple") := by simp
    rw [h0]
    simp only [hall, if_true]
    exact wpAny_pure (wpAny_pure h)
/-- tuples (empty ones too), or neither tuples nor None -/
def Srtb (ds : List PyData) : Prop := (∀ d ∈ ds, ∃ xs, d = .tuple xs) ∨ ∀ d ∈ ds, d ≠ .none ∧ ∀ xs, d ≠ .tuple xs
theorem sortsAt {vs : List Value} {ds : List PyData} (e : PySem.W.EachIs (fun v d => ∃ as, Reads s.heap v d as) vs ds) (hal : PySem.W.AllAlike ds) (hk : Srtb ds) (hu : ∀ d, d ∈ ds → A.units + d.depth < cLine) : PySem.W.SortsAt prog w A s (PySem.W.dataKind s.heap ds) vs := by
  rcases hk with ht | hn
  · by_cases hne : .tuple [] ∈ ds
    · refine ⟨fun v hv => ?_, ?_⟩
      · obtain ⟨d, hd, as, r⟩ := e.left v hv
        exact ⟨_, PySem.W.dataKind_some hal hd r⟩
      · have cmp : ∀ (f : Bool) (E : Value → Shared → Prop) (x y : Value) (a b : (PySem.W.dataKind s.heap ds).α) {Q : Bool → Shared → Prop}, (PySem.W.dataKind s.heap ds).keyOf x = some a → (PySem.W.dataKind s.heap ds).keyOf y = some b →
            Q ((PySem.W.dataKind s.heap ds).blt a b) s → wpAny (model prog w) A (oneLt' f x y) Q E s := by
          intro f E x y a b Q ha hb hq
          obtain ⟨d, as, hd, ra, rfl⟩ := PySem.W.dataKind_inv ha
          obtain ⟨d', as', hd', rb, rfl⟩ := PySem.W.dataKind_inv hb
          have hdd := hal d hd d' hd'
          have hr := hu d hd
          obtain ⟨x1, rfl⟩ := ht d hd
          obtain ⟨x2, rfl⟩ := ht d' hd'
          exact oneLt_tup ra rb hdd (Nat.lt_of_le_of_lt (Nat.add_le_add_left (Nat.min_le_left _ _) _) hr) hq
        refine ⟨kdOf ds, ?_, fun h2 E Q hq => kind_empty h2 e ht hne hq⟩
        intro E x y a b Q ha hb hq
        unfold kdOf
        split
        · rw [keyLt'_oneType]
          exact cmp true E x y a b ha hb hq
        · exact cmp false E x y a b ha hb hq
    · exact PySem.W.SortsAt.data e hal (.inl fun d hd => by
        obtain ⟨xs, rfl⟩ := ht d hd
        cases xs with
        | nil => exact absurd hd hne
        | cons x r => exact ⟨x, r, rfl⟩) hu
  · exact PySem.W.SortsAt.data e hal (.inr hn) hu
end
end L2.Q9


set_option Elab.async false
set_option linter.all false
set_option maxRecDepth 100000
set_option maxHeartbeats 4000000
/-! Q9: the rules of sorted(..), <, ==, !=, in, text * int over the layer. -/
namespace L2.Q9
open PySem PySem.Spec PyProof.Rows

theorem each_of {bs : List (V × PyData)} : ∀ {us : List Value}, Vals (bs.map (·.1)) us → PySem.W.EachIs (fun u b => RelV b.1 u) us bs := by
  induction bs with
  | nil =>
    intro us r
    cases r
    exact .nil
  | cons b bs ih =>
    intro us r
    cases r with
    | cons h t => exact .cons h (ih t)
theorem vals_of_each {bs : List (V × PyData)} {us : List Value} (e : PySem.W.EachIs (fun (u : Value) (b : V × PyData) => RelV b.1 u) us bs) : Vals (bs.map (·.1)) us := by
  induction e with
  | nil => exact .nil
  | cons h t ih => exact .cons h ih
section
variable {X : Cx} {pins : List (Addr × Obj)} {σ : St} {H : Hp} {s : Shared}
theorem each_reads (I : Inv X pins σ H s) {bs : List (V × PyData)} (h : ∀ b ∈ bs, At X.K H b.1 b.2) : ∀ {us : List Value}, PySem.W.EachIs (fun (u : Value) (b : V × PyData) => RelV b.1 u) us bs → PySem.W.EachIs (fun (u : Value) (d : PyData) => ∃ as, Reads s.heap u d as) us (bs.map (·.2)) := by
  intro us e
  induction e with
  | nil => exact .nil
  | @cons u b us bs r t ih => exact .cons (Dp.reads I b.2 b.1 u (h b (List.mem_cons_self ..)).dp r) (ih fun c hc => h c (List.mem_cons_of_mem _ hc))
end
/-- the order of sorting -/
abbrev leD : V × PyData → V × PyData → Bool := PySem.W.dataLe false (fun b : V × PyData => b.2)
/-- what may be sorted -/
structure Sorts (K : PySem.W.Frag) (H : Hp) (bs : List (V × PyData)) : Prop where
  at_ : ∀ b ∈ bs, At K H b.1 b.2
  alike : PySem.W.AllAlike (bs.map (·.2))
  kind : Srtb (bs.map (·.2))
  deep : ∀ b ∈ bs, b.2.depth ≤ 60
  few : bs.length ≤ sizeLine
def rSortL (K : PySem.W.Frag) : List V → Hp → VK → Prop := fun xs H Q => ∃ (a : Addr) (bs : List (V × PyData)), xs = [.ref a] ∧ SqL K H a (bs.map (·.1)) ∧ Sorts K H bs ∧ ∀ p, H p = none → Q (.ref p) (upd H p (.lst ((bs.mergeSort leD).map (·.1))))
def rSortD (P : Program) (w : World) (K : PySem.W.Frag) : List V → Hp → VK → Prop := fun xs H Q => ∃ (a : Addr) (es : List En) (bs : List (V × PyData)), xs = [.ref a] ∧ H a = some (dN P w a es) ∧ KeysAt K H es ∧ (es.map fun p => V.ref p.2.1) = bs.map (·.1) ∧ Sorts K H bs ∧
  ∀ p, H p = none → Q (.ref p) (upd H p (.lst ((bs.mergeSort leD).map (·.1))))
section
variable {X : Cx}
theorem Room.u64 {k : Nat} {A : Around} (r : Room k A) : A.units + 64 < cLine := r.units
theorem cr_sortL (hu : X.A.units + 64 < cLine) : CallR X (.builtin "sorted") (rSortL X.K) := by
  intro pins s σ H xs us Q I r h
  obtain ⟨a, bs, rfl, hS, S, q⟩ := h
  obtain ⟨u, rfl, ru⟩ := vals1 r
  cases (show u = Value.ref a from ru)
  obtain ⟨its, rv, pl, hz⟩ := I.list hS
  have e := each_of rv
  have er := each_reads I S.at_ e
  have hlen := e.length
  have up : ∀ b o, s.heap.get? b = some o → (PySem.W.sortingHeap (PySem.W.copyHeap s.heap its) (s.heap.objs.size + 1) its).get? b = some o := fun b o q => PySem.W.sorting_copy_old q
  have er2 := er.mono fun u d ⟨as, z⟩ => (⟨as, PyProof.Rows.Reads.keeps up z⟩ : ∃ as, Reads (PySem.W.sortingHeap (PySem.W.copyHeap s.heap its) (s.heap.objs.size + 1) its) u d as)
  refine PySem.W.sorted_vals pl.isList (sortsAt (s := { s with heap := PySem.W.sortingHeap (PySem.W.copyHeap s.heap its) (s.heap.objs.size + 1) its }) er2 S.alike S.kind fun d hd => ?_) (by rw [hlen]; exact S.few) ?_
  · obtain ⟨b, hb, rfl⟩ := List.mem_map.mp hd
    have := S.deep b hb
    show X.A.units + 1 + 1 + b.2.depth < cLine
    omega
  · have out := PySem.W.sortVals_data (enc := fun b : V × PyData => b.2) (R := fun u b => RelV b.1 u) (h' := PySem.W.sortingHeap (PySem.W.copyHeap s.heap its) (s.heap.objs.size + 1) its) false e (PySem.W.each_of_map _ er2) S.alike
    have vo := vals_of_each out
    obtain ⟨c, hc⟩ := sortedAll_at s.heap its (PySem.W.sortVals (PySem.W.dataKind (PySem.W.sortingHeap (PySem.W.copyHeap s.heap its) (s.heap.objs.size + 1) its) (bs.map (·.2))) false its its).toArray
    have hp : H (s.heap.objs.size + 1) = none := I.hok.fresh (Nat.le_succ _)
    refine ⟨.ref (s.heap.objs.size + 1), _, I.laid (a := s.heap.objs.size + 1) (t' := s.toks) (fun b o q => sortedAll_old q) (Nat.le_succ _) (show ObjOk X.prog X.w _ _ _ (.lst ((bs.mergeSort leD).map (·.1))) from ⟨?_, _, c, vo, hc⟩), rfl, q _ hp⟩
    rw [List.length_map, List.length_mergeSort]
    exact S.few
theorem cr_sortD (hu : X.A.units + 64 < cLine) (hcalm : X.calm = true) : CallR X (.builtin "sorted") (rSortD X.prog X.w X.K) := by
  intro pins s σ H xs us Q I r h
  obtain ⟨a, es, bs, rfl, ha, hk, hb, S, q⟩ := h
  obtain ⟨u, rfl, ru⟩ := vals1 r
  cases (show u = Value.ref a from ru)
  obtain ⟨z, hd, xs, rel, dd⟩ := nd_of I ha hk
  obtain ⟨ens, ep, raw, hsz, hent⟩ := dd.raw
  have hl : xs.length = es.length := (enRel_length rel).symm
  refine Calls.call_function_entry PyProof.Rows.kind_sorted PyProof.Rows.plain_sorted PyProof.Rows.entry_sorted (PyProof.Rows.args_sorted1 _) ?_
  unfold Builtin.«sorted»
  refine wpAny_bind (m := checkCount "sorted" 1 1 _) (wpAny_pure ?_)
  refine wpAny_bind (PySem.W.kdu_collect (A := X.A.in1) (PySem.KdlSrc.rawDict (prog := X.prog) (w := X.w) (d := a) (es := ens) (ep := ep) hd) (I.ok.hd hcalm) raw (by rw [hsz, hl]; exact z) fun h' tk acc keep items => ?_)
  have I1 : Inv X pins σ H { s with heap := h', toks := tk } := I.kept keep
  have al : acc.toList.length = es.length := by rw [Array.length_toList, items.1, hsz, hl]
  have vacc : Vals (es.map fun p => V.ref p.2.1) acc.toList := by
    have all : ∀ (ks : List En) (ws : List Value), ks.length = ws.length → (∀ (i : Nat) (p : En) (v : Value), ks[i]? = some p → ws[i]? = some v → v = Value.ref p.2.1) → Vals (ks.map fun p => V.ref p.2.1) ws := by
      intro ks
      induction ks with
      | nil =>
        intro ws e _
        cases ws with
        | nil => exact .nil
        | cons _ _ => cases e
      | cons p ks ih =>
        intro ws e hw
        cases ws with
        | nil => cases e
        | cons v ws => exact .cons (hw 0 p v rfl rfl) (ih ws (Nat.succ.inj e) fun i p' v' e1 e2 => hw (i + 1) p' v' (by simpa using e1) (by simpa using e2))
    refine all es acc.toList al.symm fun i p v e1 e2 => ?_
    obtain ⟨hi, rfl⟩ := items.2 i v (by rw [← Array.getElem?_toList]; exact e2)
    obtain ⟨y, hy, hkey, _, _⟩ := hent i hi
    rw [hkey]
    have pr : ∀ {es : List En} {xs : List (NestedKey × Addr × Value)} {i : Nat} {p : En} {y : NestedKey × Addr × Value}, Paired EnRel es xs → es[i]? = some p → xs[i]? = some y → p.2.1 = y.2.1 := by
      intro es xs i p y r
      induction r generalizing i with
      | nil => intro e; simp at e
      | cons h t ih =>
        intro e1 e2
        cases i with
        | zero =>
          simp only [List.getElem?_cons_zero, Option.some.injEq] at e1 e2
          subst e1 e2
          exact h.2.1
        | succ i => exact ih (by simpa using e1) (by simpa using e2)
    rw [pr rel e1 hy]
  rw [hb] at vacc
  have e := each_of vacc
  have hlen := e.length
  refine wpAny_bind (wpAny_newList ?_ (by rw [hlen]; exact S.few))
  have hoL : (h'.push (seqObj "list" acc.toList.toArray 0)).get? h'.objs.size = some (seqObj "list" acc.toList.toArray 0) := Heap.get?_push_size _ rfl
  have er := each_reads I1 S.at_ e
  have up : ∀ b o, h'.get? b = some o → (PySem.W.sortingHeap (h'.push (seqObj "list" acc.toList.toArray 0)) h'.objs.size acc.toList).get? b = some o := fun b o q => PySem.W.sortingHeap_old (Nat.ne_of_lt (Heap.lt_size q)) (Heap.get?_push_of_some _ q)
  have er2 := er.mono fun u d ⟨as, z⟩ => (⟨as, PyProof.Rows.Reads.keeps up z⟩ : ∃ as, Reads (PySem.W.sortingHeap (h'.push (seqObj "list" acc.toList.toArray 0)) h'.objs.size acc.toList) u d as)
  show wpAny _ _ _ _ _ { s with heap := h'.push (seqObj "list" acc.toList.toArray 0), toks := tk }
  refine wpAny_bind (wpAny_holding (wpAny_call_entry PyProof.Rows.slot_list_sort ⟨_, hoL, rfl⟩ PyProof.Rows.entry_list_sort (PySem.W.list_sort_vals (s := { s with heap := h'.push (seqObj "list" acc.toList.toArray 0), toks := tk }) hoL
    (sortsAt (s := { s with heap := PySem.W.sortingHeap (h'.push (seqObj "list" acc.toList.toArray 0)) h'.objs.size acc.toList, toks := tk }) er2 S.alike S.kind fun d hd => ?_) (by rw [hlen]; exact S.few) ⟨_, rfl, ?_⟩) (PyProof.Rows.args_list_sort _)))
  · obtain ⟨b, hb, rfl⟩ := List.mem_map.mp hd
    have := S.deep b hb
    show X.A.units + 1 + 1 + b.2.depth < cLine
    omega
  · have out := PySem.W.sortVals_data (enc := fun b : V × PyData => b.2) (R := fun u b => RelV b.1 u) (h' := PySem.W.sortingHeap (h'.push (seqObj "list" acc.toList.toArray 0)) h'.objs.size acc.toList) false e (PySem.W.each_of_map _ er2) S.alike
    have vo := vals_of_each out
    obtain ⟨c, hc⟩ := PyProof.Rows.sortedHeap_at (vs := acc.toList) (out := (PySem.W.sortVals (PySem.W.dataKind (PySem.W.sortingHeap (h'.push (seqObj "list" acc.toList.toArray 0)) h'.objs.size acc.toList) (bs.map (·.2))) false acc.toList acc.toList).toArray) hoL
    have hp : H h'.objs.size = none := I1.hok.fresh (Nat.le_refl _)
    refine wpAny_pure ⟨_, rfl, .ref h'.objs.size, _, I1.laid (a := h'.objs.size) (t' := tk) (fun b o q => ?_) (Nat.le_refl _) (show ObjOk X.prog X.w _ _ _ (.lst ((bs.mergeSort leD).map (·.1))) from ⟨?_, _, c, vo, hc⟩), rfl, q _ hp⟩
    · have lt : b < h'.objs.size := Heap.lt_size q
      rw [PyProof.Rows.sortedHeap_old (Nat.ne_of_lt lt) (by rw [size_push']; exact Nat.lt_succ_of_lt lt)]
      exact Heap.get?_push_of_some _ q
    · rw [List.length_map, List.length_mergeSort]
      exact S.few

/-! ### <, ==, != of data -/
def rLtD (K : PySem.W.Frag) : R2 := fun x y H Q => ∃ d e, Dp K H x d ∧ Dp K H y e ∧ PySem.W.alike d e = true ∧ d ≠ .none ∧ d.depth ≤ 60 ∧ Q (.bl (PySem.W.dataLt d e)) H
theorem op_ltD (hu : X.A.units + 64 < cLine) : OpR X (compareOp .Lt) (rLtD X.K) := by
  intro pins s σ H x y v u Q I rx ry h
  obtain ⟨d, e, hd, he, al, nn, dp, q⟩ := h
  obtain ⟨as, r1⟩ := Dp.reads I d x v hd rx
  obtain ⟨bs, r2⟩ := Dp.reads I e y u he ry
  refine PySem.W.rcLt_alike d e X.A s v u as bs r1 r2 al nn ?_ X.prog X.w X.xe _ ⟨.bl _, H, I, rfl, q⟩
  have := Nat.min_le_left d.depth e.depth
  omega
def rEqP (K : PySem.W.Frag) : R2 := fun x y H Q => ∃ d e, Dp K H x d ∧ Dp K H y e ∧ d.plain = true ∧ e.plain = true ∧ d.depth ≤ 60 ∧ Q (.bl (PyData.eqv d e)) H
def rNeP (K : PySem.W.Frag) : R2 := fun x y H Q => ∃ d e, Dp K H x d ∧ Dp K H y e ∧ d.plain = true ∧ e.plain = true ∧ d.depth ≤ 60 ∧ Q (.bl (!PyData.eqv d e)) H
theorem op_eqP (hu : X.A.units + 64 < cLine) : OpR X (compareOp .Eq) (rEqP X.K) := by
  intro pins s σ H x y v u Q I rx ry h
  obtain ⟨d, e, hd, he, p1, p2, dp, q⟩ := h
  obtain ⟨as, r1⟩ := Dp.reads I d x v hd rx
  obtain ⟨bs, r2⟩ := Dp.reads I e y u he ry
  exact SeqAt.eq_plain r1 r2 p1 p2 (by have := Nat.min_le_left d.depth e.depth; omega) ⟨.bl _, H, I, rfl, q⟩
theorem op_neP (hu : X.A.units + 64 < cLine) : OpR X (compareOp .NotEq) (rNeP X.K) := by
  intro pins s σ H x y v u Q I rx ry h
  obtain ⟨d, e, hd, he, p1, p2, dp, q⟩ := h
  obtain ⟨as, r1⟩ := Dp.reads I d x v hd rx
  obtain ⟨bs, r2⟩ := Dp.reads I e y u he ry
  exact SeqAt.ne_plain r1 r2 p1 p2 (by have := Nat.min_le_left d.depth e.depth; omega) ⟨.bl _, H, I, rfl, q⟩
/-- x in xs, x not in xs, a list of data -/
def rInP (K : PySem.W.Frag) (neg : Bool) : R2 := fun x y H Q => ∃ d ds, Dp K H x d ∧ Dp K H y (.list ds) ∧ d.plain = true ∧ PyData.plainAll ds = true ∧ d.depth ≤ 60 ∧ Q (.bl (if neg = true then !ds.any (fun e => PyData.eqv e d) else ds.any (fun e => PyData.eqv e d))) H
theorem op_inP (hu : X.A.units + 64 < cLine) : OpR X (compareOp .In) (rInP X.K false) := by
  intro pins s σ H x y v u Q I rx ry h
  obtain ⟨d, ds, hd, he, p1, p2, dp, q⟩ := h
  obtain ⟨as, r1⟩ := Dp.reads I d x v hd rx
  obtain ⟨bs, r2⟩ := Dp.reads I _ y u he ry
  exact SeqAt.in_list_data r2 r1 p2 p1 (by have := Nat.min_le_right (PyData.depthAll ds) d.depth; omega) ⟨.bl _, H, I, rfl, q⟩
theorem op_notInP (hu : X.A.units + 64 < cLine) : OpR X (compareOp .NotIn) (rInP X.K true) := by
  intro pins s σ H x y v u Q I rx ry h
  obtain ⟨d, ds, hd, he, p1, p2, dp, q⟩ := h
  obtain ⟨as, r1⟩ := Dp.reads I d x v hd rx
  obtain ⟨bs, r2⟩ := Dp.reads I _ y u he ry
  exact SeqAt.notIn_list_data r2 r1 p2 p1 (by have := Nat.min_le_right (PyData.depthAll ds) d.depth; omega) ⟨.bl _, H, I, rfl, q⟩
/-- text * int -/
theorem op_mul_str : OpR X (binaryOp .Mult) (fun x y H Q => ∃ z i, x = .str z ∧ y = .int i ∧ z.length ≤ 16 ∧ 0 ≤ i ∧ i ≤ 100 ∧ Q (.str (Txt.mul z i)) H) := by
  intro pins s σ H x y v u Q I rx ry h
  obtain ⟨z, i, rfl, rfl, h1, h2, h3, q⟩ := h
  obtain ⟨t, rfl⟩ := rx
  obtain ⟨t', rfl⟩ := ry
  exact SB.mul (mulOk_of 16 1048576 h1 (by omega) (by omega) (by decide) (by decide)) fun t2 k => ⟨.str _, H, I.tok _, ⟨_, rfl⟩, q⟩
end
end L2.Q9


set_option Elab.async false
set_option linter.all false
set_option maxRecDepth 100000
set_option maxHeartbeats 4000000
/-! Q9: labels, vectors, views, expressions as plain data; their order; groups; the plain evaluator. -/
namespace L2.Q9
open PySem PySem.Spec PyProof.Rows

abbrev Lab := List (Str × Str)
abbrev Vec := List (Lab × Int)
abbrev Smp := Lab × Int × Int
def encQ (p : Str × Str) : PyData := .tuple [.str p.1, .str p.2]
def encL (l : Lab) : PyData := .tuple (l.map encQ)
def encP (p : Lab × Int) : PyData := .tuple [encL p.1, .int p.2]
def encS (s : Smp) : PyData := .tuple [encL s.1, .int s.2.1, .int s.2.2]
structure Mat where
  name : Str
  vals : List Str
  ins : Bool
def encM (m : Mat) : PyData := .tuple [.str m.name, .tuple (m.vals.map .str), .bool m.ins]
inductive Ex where
  | num (n : Int)
  | latest (m : Str) (ms : List Mat)
  | over (w m : Str) (ms : List Mat) (sp : Int)
  | agg (w : Str) (ns : List Str) (e : Ex)
  | bin (s : Str) (l r : Ex)
def encE : Ex → PyData
  | .num n => .tuple [.str "number", .int n]
  | .latest m ms => .tuple [.str "latest", .str m, .tuple (ms.map encM)]
  | .over w m ms sp => .tuple [.str "over", .str w, .str m, .tuple (ms.map encM), .int sp]
  | .agg w ns e => .tuple [.str "aggregate", .str w, .tuple (ns.map .str), encE e]
  | .bin s l r => .tuple [.str "binary", .str s, encE l, encE r]

/-! ### these data stay, are alike, are shallow -/
theorem imAll_map {α : Type} {f : α → PyData} (h : ∀ a, im (f a) = true) : ∀ l : List α, imAll (l.map f) = true
  | [] => rfl
  | a :: l => imAll_mk (h a) (imAll_map h l)
theorem im_tup {xs : List PyData} (h : imAll xs = true) : im (.tuple xs) = true := by
  rw [im]
  exact h
theorem im_Q (p : Str × Str) : im (encQ p) = true := rfl
theorem im_L (l : Lab) : im (encL l) = true := im_tup (imAll_map im_Q l)
theorem im_P (p : Lab × Int) : im (encP p) = true := im_tup (imAll_mk (im_L p.1) rfl)
theorem im_S (s : Smp) : im (encS s) = true := im_tup (imAll_mk (im_L s.1) rfl)
theorem im_str (x : Str) : im (PyData.str x) = true := rfl
theorem im_M (m : Mat) : im (encM m) = true := im_tup (imAll_mk rfl (imAll_mk (im_tup (imAll_map im_str _)) rfl))
theorem im_E : ∀ e : Ex, im (encE e) = true
  | .num _ => rfl
  | .latest _ ms => im_tup (imAll_mk rfl (imAll_mk rfl (imAll_mk (im_tup (imAll_map im_M ms)) rfl)))
  | .over _ _ ms _ => im_tup (imAll_mk rfl (imAll_mk rfl (imAll_mk rfl (imAll_mk (im_tup (imAll_map im_M ms)) rfl))))
  | .agg _ ns e => im_tup (imAll_mk rfl (imAll_mk rfl (imAll_mk (im_tup (imAll_map im_str ns)) (imAll_mk (im_E e) rfl))))
  | .bin _ l r => im_tup (imAll_mk rfl (imAll_mk rfl (imAll_mk (im_E l) (imAll_mk (im_E r) rfl))))
mutual
theorem plain_im : ∀ d : PyData, im d = true → d.plain = true
  | .none, _ => rfl
  | .bool _, _ => rfl
  | .int _, _ => rfl
  | .str _, _ => rfl
  | .tuple xs, h => by
    rw [PyData.plain]
    exact plainAll_im xs (by rw [im] at h; exact h)
  | .list _, h => by rw [im] at h; cases h
  | .dict _, h => by rw [im] at h; cases h
theorem plainAll_im : ∀ xs : List PyData, imAll xs = true → PyData.plainAll xs = true
  | [], _ => rfl
  | x :: xs, h => by
    rw [PyData.plainAll, plain_im x (imAll_cons h).1, plainAll_im xs (imAll_cons h).2]
    rfl
end
theorem alikeAll_map {α : Type} {f : α → PyData} (h : ∀ a b, PySem.W.alike (f a) (f b) = true) : ∀ l m : List α, PySem.W.alikeAll (l.map f) (m.map f) = true
  | [], m => by simp [PySem.W.alikeAll]
  | _ :: _, [] => by simp [PySem.W.alikeAll]
  | a :: l, b :: m => by
    show PySem.W.alikeAll (f a :: l.map f) (f b :: m.map f) = true
    rw [PySem.W.alikeAll, h a b, alikeAll_map h l m]
    rfl
theorem alike_Q (p q : Str × Str) : PySem.W.alike (encQ p) (encQ q) = true := by simp [encQ, PySem.W.alike, PySem.W.alikeAll]
theorem alike_L (l m : Lab) : PySem.W.alike (encL l) (encL m) = true := by
  unfold encL
  rw [PySem.W.alike]
  exact alikeAll_map alike_Q l m
theorem alike_P (p q : Lab × Int) : PySem.W.alike (encP p) (encP q) = true := by simp [encP, PySem.W.alike, PySem.W.alikeAll, alike_L]
theorem depthAll_map {α : Type} {f : α → PyData} {n : Nat} (h : ∀ a, (f a).depth ≤ n) : ∀ l : List α, PyData.depthAll (l.map f) ≤ n
  | [] => by simp [PyData.depthAll]
  | a :: l => by
    show PyData.depthAll (f a :: l.map f) ≤ n
    rw [PyData.depthAll]
    exact Nat.max_le.mpr ⟨h a, depthAll_map h l⟩
theorem depth_Q (p : Str × Str) : (encQ p).depth ≤ 1 := by simp [encQ, PyData.depth, PyData.depthAll]
theorem depth_L (l : Lab) : (encL l).depth ≤ 2 := by
  have := depthAll_map depth_Q l
  simp only [encL, PyData.depth]
  omega
theorem depth_P (p : Lab × Int) : (encP p).depth ≤ 3 := by
  have := depth_L p.1
  simp only [encP, PyData.depth, PyData.depthAll]
  omega
theorem depth_S (s : Smp) : (encS s).depth ≤ 3 := by
  have := depth_L s.1
  simp only [encS, PyData.depth, PyData.depthAll]
  omega

/-! ### as keys -/
theorem nkAll_map {α : Type} (f : α → PyData) : ∀ l : List α, nkAll (l.map f) = l.map fun a => nk (f a)
  | [] => rfl
  | a :: l => by
    show nk (f a) :: nkAll (l.map f) = _
    rw [nkAll_map f l]
    rfl
/-- what may be a key: told apart, shallow -/
structure Kf {α : Type} (f : α → PyData) : Prop where
  inj : ∀ a b, nk (f a) = nk (f b) → a = b
  deep : ∀ a, (nk (f a)).depth ≤ 8
theorem nkQ (p : Str × Str) : nk (encQ p) = .tup [.text p.1, .text p.2] := rfl
theorem nkL (l : Lab) : nk (encL l) = .tup (l.map fun p => .tup [.text p.1, .text p.2]) := by
  show NestedKey.tup (nkAll (l.map encQ)) = _
  rw [nkAll_map]
  rfl
theorem kd_map {α : Type} {f : α → NestedKey} {n : Nat} (h : ∀ a, (f a).depth ≤ n) : ∀ l : List α, NestedKey.depthAll (l.map f) ≤ n
  | [] => by simp [NestedKey.depthAll]
  | a :: l => by
    show NestedKey.depthAll (f a :: l.map f) ≤ n
    rw [NestedKey.depthAll]
    exact Nat.max_le.mpr ⟨h a, kd_map h l⟩
theorem kdL (l : Lab) : (nk (encL l)).depth ≤ 2 := by
  rw [nkL, NestedKey.depth]
  have := kd_map (f := fun p : Str × Str => NestedKey.tup [.text p.1, .text p.2]) (n := 1) (fun p => by simp [NestedKey.depth, NestedKey.depthAll]) l
  omega
theorem nkL_inj : ∀ a b : Lab, nk (encL a) = nk (encL b) → a = b := by
  intro a b h
  rw [nkL, nkL] at h
  injection h with h
  induction a generalizing b with
  | nil =>
    cases b with
    | nil => rfl
    | cons _ _ => cases h
  | cons p a ih =>
    cases b with
    | nil => cases h
    | cons q b =>
      rw [List.map_cons, List.map_cons] at h
      injection h with h1 h2
      injection h1 with h1
      injection h1 with h3 h4
      injection h4 with h5 _
      injection h3 with h3
      injection h5 with h5
      rw [ih b h2]
      obtain ⟨p1, p2⟩ := p
      obtain ⟨q1, q2⟩ := q
      simp only at h3 h5
      rw [h3, h5]
theorem kfL : Kf encL := ⟨nkL_inj, fun a => Nat.le_trans (kdL a) (by decide)⟩
def encT (p : Lab × Int) : PyData := .tuple [encL p.1, .int p.2]
theorem kfT : Kf encT := by
  refine ⟨fun a b h => ?_, fun a => ?_⟩
  · have h' : NestedKey.tup [nk (encL a.1), .num a.2] = NestedKey.tup [nk (encL b.1), .num b.2] := h
    injection h' with h'
    injection h' with h1 h2
    injection h2 with h2 _
    injection h2 with h2
    obtain ⟨a1, a2⟩ := a
    obtain ⟨b1, b2⟩ := b
    simp only at h1 h2
    rw [nkL_inj _ _ h1, h2]
  · show (NestedKey.tup [nk (encL a.1), .num a.2]).depth ≤ 8
    have := kdL a.1
    simp only [NestedKey.depth, NestedKey.depthAll]
    omega

/-! ### the order -/
abbrev OL : KeyOrd := listOrd itemOrd
abbrev tk {α : Type} (f : α → PyData) (a : α) : List (Int ⊕ List Nat) := PySem.W.keyToks (f a)
abbrev leF {α : Type} (f : α → PyData) : α → α → Bool := PySem.W.dataLe false f
theorem leF_eq {α : Type} (f : α → PyData) (a b : α) : leF f a b = !PySem.W.dataLt (f b) (f a) := rfl
theorem leF_total {α : Type} (f : α → PyData) : PySem.W.TotalLe (leF f) := PySem.W.sortLe_total OL false (tk f)
def ltL (a b : Lab) : Bool := PySem.W.dataLt (encL a) (encL b)
theorem tkQ (p : Str × Str) : PySem.W.keyToks (encQ p) = [.inl 1, .inr p.1.cps.toList, .inl 1, .inr p.2.cps.toList, .inl 0] := by simp [encQ, PySem.W.keyToks, PySem.W.keyToksAll]
theorem tkL_inj : ∀ a b : Lab, tk encL a = tk encL b → a = b
  | [], [], _ => rfl
  | [], q :: b, h => by simp [tk, encL, PySem.W.keyToks, PySem.W.keyToksAll] at h
  | p :: a, [], h => by simp [tk, encL, PySem.W.keyToks, PySem.W.keyToksAll] at h
  | p :: a, q :: b, h => by
    have h' : Sum.inl 1 :: (PySem.W.keyToks (encQ p) ++ PySem.W.keyToksAll (a.map encQ)) = Sum.inl 1 :: (PySem.W.keyToks (encQ q) ++ PySem.W.keyToksAll (b.map encQ)) := by simpa [tk, encL, PySem.W.keyToks, PySem.W.keyToksAll] using h
    rw [tkQ, tkQ] at h'
    simp only [List.cons_append, List.nil_append, List.cons.injEq, true_and, Sum.inr.injEq] at h'
    have e1 := PySem.W.str_of_cps h'.1
    have e2 := PySem.W.str_of_cps h'.2.1
    have e3 := tkL_inj a b (by simpa [tk, encL, PySem.W.keyToks] using h'.2.2)
    obtain ⟨p1, p2⟩ := p
    obtain ⟨q1, q2⟩ := q
    simp only at e1 e2
    rw [e1, e2, e3]
theorem ltL_irrefl (a : Lab) : ltL a a = false := OL.irrefl _
theorem ltL_trans {a b c : Lab} (h1 : ltL a b = true) (h2 : ltL b c = true) : ltL a c = true := OL.trans _ _ _ h1 h2
theorem ltL_of_le {a b : Lab} (h : leF encL a b = true) (hne : a ≠ b) : ltL a b = true := by
  rw [leF_eq] at h
  cases e : ltL a b with
  | true => rfl
  | false =>
    have h2 : PySem.W.dataLt (encL b) (encL a) = false := by simpa using h
    exact absurd (tkL_inj a b (OL.total _ _ e h2)) hne
theorem ltL_ne {a b : Lab} (h : ltL a b = true) : a ≠ b := by
  rintro rfl
  rw [ltL_irrefl] at h
  cases h
theorem leL_antisymm {a b : Lab} (h1 : leF encL a b = true) (h2 : leF encL b a = true) : a = b := by
  by_cases h : a = b
  · exact h
  · have := ltL_of_le h1 h
    rw [leF_eq] at h2
    have h3 : ltL a b = false := by simpa [ltL] using h2
    rw [h3] at this
    cases this
theorem ltP_of_le {p q : Lab × Int} (h : leF encP p q = true) (hne : p.1 ≠ q.1) : ltL p.1 q.1 = true := by
  rw [leF_eq] at h
  have h' : PySem.W.dataLt (encP q) (encP p) = false := by simpa using h
  unfold encP at h'
  rw [PySem.W.dataLt_pair (alike_L _ _) (by simp [PySem.W.alike])] at h'
  cases e : PyData.eqv (encL q.1) (encL p.1) with
  | true =>
    have := (PySem.W.toks_eqv _ _ (alike_L q.1 p.1)).1 e
    exact absurd (tkL_inj _ _ this).symm hne
  | false =>
    rw [if_neg (by rw [e]; simp)] at h'
    refine ltL_of_le (a := p.1) (b := q.1) ?_ hne
    rw [leF_eq, h']
    rfl
theorem eqvL (a b : Lab) : PyData.eqv (encL a) (encL b) = decide (a = b) := by
  cases e : PyData.eqv (encL a) (encL b) with
  | true => exact (decide_eq_true (tkL_inj _ _ ((PySem.W.toks_eqv _ _ (alike_L a b)).1 e))).symm
  | false =>
    refine (decide_eq_false fun h => ?_).symm
    subst h
    rw [SeqAt.eqv_refl_plain _ (plain_im _ (im_L a))] at e
    cases e
/-- sorted lists of the same labels, none twice -/
theorem sortL_perm {l m : List Lab} (h : l.Perm m) : l.mergeSort (leF encL) = m.mergeSort (leF encL) := by
  have p : (l.mergeSort (leF encL)).Perm (m.mergeSort (leF encL)) := (List.mergeSort_perm _ _).trans (h.trans (List.mergeSort_perm _ _).symm)
  exact p.eq_of_pairwise (le := fun a b => leF encL a b = true) (fun a b _ _ h1 h2 => leL_antisymm h1 h2) (PySem.W.sort_pairwise (leF_total encL) l) (PySem.W.sort_pairwise (leF_total encL) m)
/-- ascending by labels -/
def Asc {β : Type} (v : List (Lab × β)) : Prop := v.Pairwise fun p q => ltL p.1 q.1 = true
theorem asc_nodup {β : Type} {v : List (Lab × β)} (h : Asc v) : (v.map (·.1)).Nodup := by
  rw [List.Nodup, List.pairwise_map]
  exact h.imp fun h => ltL_ne h
theorem asc_filter {β : Type} {v : List (Lab × β)} (h : Asc v) (f : Lab × β → Bool) : Asc (v.filter f) := List.Pairwise.filter _ h
theorem asc_map {β γ : Type} {v : List (Lab × β)} (h : Asc v) (f : Lab × β → γ) : Asc (v.map fun p => (p.1, f p)) := by
  unfold Asc
  rw [List.pairwise_map]
  exact h
end L2.Q9


set_option Elab.async false
set_option linter.all false
set_option maxRecDepth 100000
set_option maxHeartbeats 4000000
/-! Q9: groups; what the evaluators compute. -/
namespace L2.Q9
open PySem PySem.Spec PyProof.Rows

/-! ### first occurrences, groups -/
section
variable {α : Type} [DecidableEq α]
def addK (ks : List α) (k : α) : List α := if k ∈ ks then ks else ks ++ [k]
def keysOf (xs : List (α × Int)) : List α := xs.foldl (fun ks p => addK ks p.1) []
theorem keysOf_snoc (xs : List (α × Int)) (p : α × Int) : keysOf (xs ++ [p]) = addK (keysOf xs) p.1 := by
  unfold keysOf
  rw [List.foldl_append]
  rfl
theorem snoc_ind {β : Type} {P : List β → Prop} (h0 : P []) (hs : ∀ l x, P l → P (l ++ [x])) (l : List β) : P l := by
  have : ∀ m : List β, P m.reverse := fun m => by
    induction m with
    | nil => exact h0
    | cons x m ih =>
      rw [List.reverse_cons]
      exact hs _ _ ih
  have h := this l.reverse
  rwa [List.reverse_reverse] at h
theorem mem_keysOf (xs : List (α × Int)) (k : α) : k ∈ keysOf xs ↔ k ∈ xs.map (·.1) := by
  induction xs using snoc_ind with
  | h0 => exact ⟨fun h => absurd h (by simp [keysOf]), fun h => absurd h (by simp)⟩
  | hs xs p ih =>
    rw [keysOf_snoc, List.map_append, List.mem_append, ← ih]
    unfold addK
    split
    · rename_i h
      constructor
      · exact .inl
      · rintro (h1 | h1)
        · exact h1
        · simp at h1
          rw [h1]
          exact h
    · rw [List.mem_append]
      simp
theorem nodup_keysOf (xs : List (α × Int)) : (keysOf xs).Nodup := by
  induction xs using snoc_ind with
  | h0 => exact List.nodup_nil
  | hs xs p ih =>
    rw [keysOf_snoc]
    unfold addK
    split
    · exact ih
    · rename_i h
      rw [List.nodup_append]
      exact ⟨ih, by simp, fun a ha b hb e => by
        simp at hb
        subst hb
        subst e
        exact h ha⟩
theorem length_keysOf (xs : List (α × Int)) : (keysOf xs).length ≤ xs.length := by
  induction xs using snoc_ind with
  | h0 => simp [keysOf]
  | hs xs p ih =>
    rw [keysOf_snoc, List.length_append]
    unfold addK
    split
    · simp; omega
    · simp; omega
def look (xs : List (α × Int)) (k : α) : List Int := (xs.filter fun p => decide (p.1 = k)).map (·.2)
theorem look_snoc (xs : List (α × Int)) (p : α × Int) (k : α) : look (xs ++ [p]) k = if p.1 = k then look xs k ++ [p.2] else look xs k := by
  unfold look
  rw [List.filter_append, List.map_append]
  by_cases h : p.1 = k
  · rw [if_pos h, List.filter_cons_of_pos (by simpa using h)]
    rfl
  · rw [if_neg h, List.filter_cons_of_neg (by simpa using h)]
    simp
theorem look_none {xs : List (α × Int)} {k : α} (h : k ∉ keysOf xs) : look xs k = [] := by
  unfold look
  rw [List.map_eq_nil_iff, List.filter_eq_nil_iff]
  intro p hp e
  exact h ((mem_keysOf xs k).mpr (List.mem_map.mpr ⟨p, hp, of_decide_eq_true e⟩))
theorem look_ne {xs : List (α × Int)} {k : α} (h : k ∈ keysOf xs) : look xs k ≠ [] := by
  obtain ⟨p, hp, e⟩ := List.mem_map.mp ((mem_keysOf xs k).mp h)
  unfold look
  rw [Ne, List.map_eq_nil_iff, List.filter_eq_nil_iff]
  intro z
  exact z p hp (decide_eq_true e)
theorem look_len (xs : List (α × Int)) (k : α) : (look xs k).length ≤ xs.length := by
  unfold look
  rw [List.length_map]
  exact List.length_filter_le _ _
theorem look_mem {xs : List (α × Int)} {k : α} {n : Int} (h : n ∈ look xs k) : (k, n) ∈ xs := by
  unfold look at h
  obtain ⟨p, hp, rfl⟩ := List.mem_map.mp h
  have := List.mem_filter.mp hp
  have e : p.1 = k := of_decide_eq_true this.2
  rw [← e]
  exact this.1
end
abbrev sortL (ks : List Lab) : List Lab := ks.mergeSort (leF encL)
/-- one entry a group, ascending -/
def grp (f : List Int → Int) (xs : List (Lab × Int)) : Vec := (sortL (keysOf xs)).map fun k => (k, f (look xs k))
theorem grp_asc (f : List Int → Int) (xs : List (Lab × Int)) : Asc (grp f xs) := by
  unfold Asc grp
  rw [List.pairwise_map]
  have hn : (sortL (keysOf xs)).Nodup := (List.mergeSort_perm _ _).nodup_iff.mpr (nodup_keysOf xs)
  exact (PySem.W.sort_pairwise (leF_total encL) (keysOf xs)).imp₂ (fun {a b} h1 h2 => ltL_of_le h1 h2) hn
theorem grp_len (f : List Int → Int) (xs : List (Lab × Int)) : (grp f xs).length ≤ xs.length := by
  unfold grp
  rw [List.length_map, List.length_mergeSort]
  exact length_keysOf xs
/-- only the groups count -/
theorem grp_congr (f : List Int → Int) {xs ys : List (Lab × Int)} (h : ∀ k, look xs k = look ys k) : grp f xs = grp f ys := by
  have hk : (keysOf xs).Perm (keysOf ys) := by
    refine (List.perm_ext_iff_of_nodup (nodup_keysOf xs) (nodup_keysOf ys)).mpr fun k => ?_
    by_cases h1 : k ∈ keysOf xs
    · refine ⟨fun _ => ?_, fun _ => h1⟩
      by_cases h2 : k ∈ keysOf ys
      · exact h2
      · exact absurd ((h k).trans (look_none h2)) (look_ne h1)
    · refine ⟨fun z => absurd z h1, fun h2 => ?_⟩
      exact absurd ((h k).symm.trans (look_none h1)) (look_ne h2)
  unfold grp
  rw [show sortL (keysOf xs) = sortL (keysOf ys) from sortL_perm hk]
  exact List.map_congr_left fun k _ => by rw [h k]

/-! ### matching, reading -/
abbrev sMetric : Str := "metric"
def valOf : Lab → Str → Str
  | [], _ => ""
  | p :: r, n => if p.1 = n then p.2 else valOf r n
def bare (l : Lab) : Lab := l.filter fun p => !decide (p.1 = sMetric)
def only (l : Lab) (ns : List Str) : Lab := l.filter fun p => decide (p.1 ∈ ns)
def matches1 (m : Mat) (l : Lab) : Bool := decide (decide (valOf l m.name ∈ m.vals) = m.ins)
def matchesAll (ms : List Mat) (l : Lab) : Bool := ms.all fun m => matches1 m l
def inTime (width time : Int) (s : Smp) : Bool := decide (time - width < s.2.1) && decide (s.2.1 ≤ time)
def isRead (metric : Str) (ms : List Mat) (width time : Int) (s : Smp) : Bool := inTime width time s && (decide (valOf s.1 sMetric = metric) && matchesAll ms s.1)
def pick (s : Smp) : Lab × Int := (bare s.1, s.2.2)
def rd (view : List Smp) (metric : Str) (ms : List Mat) (width time : Int) : List (Lab × Int) := (view.filter (isRead metric ms width time)).map pick
/-- by ticks: lo, lo + 1, .. (n of them) -/
def ticks (lo : Int) (n : Nat) : List Int := (List.range n).map fun i : Nat => lo + (i : Int)
def rdT (view : List Smp) (metric : Str) (ms : List Mat) (width time : Int) (ts : List Int) : List (Lab × Int) := ts.flatMap fun t => (view.filter fun s => decide (s.2.1 = t) && isRead metric ms width time s).map pick

/-! ### functions of windows -/
def stp (a b : Int) : Int := if b ≥ a then b - a else b
def incN (vs : List Int) : Nat → Int
  | 0 => 0
  | n + 1 => incN vs n + stp (vs.getD n 0) (vs.getD (n + 1) 0)
def inc (vs : List Int) : Int := incN vs (vs.length - 1)
def lastI (vs : List Int) : Int := vs.getD (vs.length - 1) 0
def minI (vs : List Int) : Int := vs.min?.getD 0
def maxI (vs : List Int) : Int := vs.max?.getD 0
def ovr (w : Str) (vs : List Int) : Int :=
  if w = "sum_over" then vs.sum else if w = "min_over" then minI vs else if w = "max_over" then maxI vs else if w = "count_over" then (vs.length : Int) else if w = "last_over" then lastI vs else inc vs
def agv (w : Str) (vs : List Int) : Int := if w = "sum" then vs.sum else if w = "min" then minI vs else if w = "max" then maxI vs else (vs.length : Int)
theorem minI_eq {vs : List Int} {m : Int} (h : m ∈ vs) (hle : ∀ y ∈ vs, m ≤ y) : m = minI vs := by
  have hne : vs ≠ [] := List.ne_nil_of_mem h
  have q : vs.min? = some m := List.min?_eq_some_iff.mpr ⟨h, hle⟩
  unfold minI
  rw [q]
  rfl
theorem maxI_eq {vs : List Int} {m : Int} (h : m ∈ vs) (hle : ∀ y ∈ vs, y ≤ m) : m = maxI vs := by
  have q : vs.max? = some m := List.max?_eq_some_iff.mpr ⟨h, hle⟩
  unfold maxI
  rw [q]
  rfl

/-! ### operators -/
def isAr (s : Str) : Bool := decide (s ∈ (["+", "-", "*"] : List Str))
def isJn (s : Str) : Bool := decide (s ∈ (["or", "and", "unless"] : List Str))
def cmp (s : Str) (a b : Int) : Int := if s = "+" then a + b else if s = "-" then a - b else a * b
def hld (s : Str) (a b : Int) : Bool := if s = "<" then decide (a < b) else if s = "<=" then decide (a ≤ b) else if s = ">" then decide (b < a) else if s = ">=" then decide (b ≤ a) else if s = "==" then decide (a = b) else !decide (a = b)
def hasK (w : Vec) (k : Lab) : Bool := decide (k ∈ w.map (·.1))
def getK (w : Vec) (k : Lab) : Int := ((w.find? fun p => decide (p.1 = k)).map (·.2)).getD 0
abbrev sortP (v : Vec) : Vec := v.mergeSort (leF encP)
def joinV (s : Str) (v w : Vec) : Vec :=
  if s = "and" then v.filter (fun p => hasK w p.1) else if s = "unless" then v.filter (fun p => !hasK w p.1) else sortP (v ++ w.filter fun p => !hasK v p.1)
def vecV (s : Str) (v w : Vec) : Vec :=
  if isAr s = true then (v.filter fun p => hasK w p.1).map (fun p => (p.1, cmp s p.2 (getK w p.1))) else (v.filter fun p => hasK w p.1).filter fun p => hld s p.2 (getK w p.1)
inductive Val where
  | num (n : Int)
  | vec (v : Vec)
def binV (s : Str) : Val → Val → Val
  | .num a, .num b => .num (cmp s a b)
  | .num a, .vec w => .vec (if isAr s = true then w.map (fun p => (p.1, cmp s a p.2)) else w.filter fun p => hld s a p.2)
  | .vec v, .num b => .vec (if isAr s = true then v.map (fun p => (p.1, cmp s p.2 b)) else v.filter fun p => hld s p.2 b)
  | .vec v, .vec w => .vec (if isJn s = true then joinV s v w else vecV s v w)
def agg (w : Str) (ns : List Str) (v : Vec) : Vec := grp (agv w) (v.map fun p => (only p.1 ns, p.2))
def ev (lb : Int) (view : List Smp) (t : Int) : Ex → Val
  | .num n => .num n
  | .latest m ms => .vec (grp lastI (rd view m ms lb t))
  | .over w m ms sp => .vec (grp (ovr w) (rd view m ms sp t))
  | .agg w ns e => match ev lb view t e with
    | .vec v => .vec (agg w ns v)
    | .num _ => .num 0
  | .bin s l r => binV s (ev lb view t l) (ev lb view t r)

/-! ### kinds -/
inductive Kd where
  | num
  | vec
  deriving DecidableEq
def kdBin (s : Str) : Kd → Kd → Option Kd
  | .num, .num => if isAr s = true then some .num else none
  | .vec, .vec => some .vec
  | _, _ => if isJn s = true then none else some .vec
def kd : Ex → Option Kd
  | .num _ => some .num
  | .latest _ _ => some .vec
  | .over _ _ _ _ => some .vec
  | .agg _ _ e => match kd e with
    | some .vec => some .vec
    | _ => none
  | .bin s l r => match kd l, kd r with
    | some a, some b => kdBin s a b
    | _, _ => none

/-! ### the windows by ticks are the windows -/
theorem ticks_filter {xs : List Smp} (h : xs.Pairwise fun a b => a.2.1 < b.2.1) : ∀ {lo : Int} {n : Nat}, (∀ s ∈ xs, lo ≤ s.2.1 ∧ s.2.1 < lo + n) → (ticks lo n).flatMap (fun t => xs.filter fun s => decide (s.2.1 = t)) = xs := by
  intro lo n
  induction n generalizing xs with
  | zero =>
    intro hb
    cases xs with
    | nil => simp [ticks]
    | cons s r =>
      have := hb s (List.mem_cons_self ..)
      omega
  | succ n ih =>
    intro hb
    -- the last tick
    have split : xs = (xs.filter fun s => decide (s.2.1 < lo + n)) ++ xs.filter fun s => decide (s.2.1 = lo + n) := by
      clear ih
      induction xs with
      | nil => rfl
      | cons s r ih2 =>
        rw [List.pairwise_cons] at h
        have hr := ih2 h.2 fun s hs => hb s (List.mem_cons_of_mem _ hs)
        have hs := hb s (List.mem_cons_self ..)
        by_cases c : s.2.1 < lo + n
        · rw [List.filter_cons_of_pos (by simpa using c), List.filter_cons_of_neg (by simp; omega), List.cons_append, ← hr]
        · have e : s.2.1 = lo + n := by omega
          rw [List.filter_cons_of_neg (by simpa using c), List.filter_cons_of_pos (by simpa using e)]
          have none : r.filter (fun s => decide (s.2.1 < lo + n)) = [] := by
            rw [List.filter_eq_nil_iff]
            intro q hq z
            have := h.1 q hq
            have z' := of_decide_eq_true z
            omega
          rw [none, List.nil_append]
          rw [none, List.nil_append] at hr
          rw [← hr]
    have e1 : ticks lo (n + 1) = ticks lo n ++ [lo + n] := by
      unfold ticks
      rw [List.range_succ, List.map_append]
      rfl
    rw [e1, List.flatMap_append]
    have q := ih (xs := xs.filter fun s => decide (s.2.1 < lo + n)) (List.Pairwise.filter _ h) fun s hs => by
      have hs' := List.mem_filter.mp hs
      have := hb s hs'.1
      have := of_decide_eq_true hs'.2
      omega
    have same : (ticks lo n).flatMap (fun t => xs.filter fun s => decide (s.2.1 = t)) = (ticks lo n).flatMap (fun t => (xs.filter fun s => decide (s.2.1 < lo + n)).filter fun s => decide (s.2.1 = t)) := by
      have all : ∀ t ∈ ticks lo n, (xs.filter fun s => decide (s.2.1 = t)) = (xs.filter fun s => decide (s.2.1 < lo + n)).filter fun s => decide (s.2.1 = t) := by
        intro t ht
        unfold ticks at ht
        obtain ⟨i, hi, rfl⟩ := List.mem_map.mp ht
        rw [List.mem_range] at hi
        rw [List.filter_filter]
        refine List.filter_congr fun s hs => ?_
        by_cases c : s.2.1 = lo + i
        · have : s.2.1 < lo + n := by omega
          simp [c]
          omega
        · simp [c]
      rw [List.flatMap_def, List.flatMap_def, List.map_congr_left all]
    rw [same, q]
    simp only [List.flatMap_cons, List.flatMap_nil, List.append_nil]
    exact split.symm
/-- a view: short, of small times, sorted, a series told by its bare labels and its metric -/
structure ViewOk (view : List Smp) : Prop where
  few : view.length ≤ 63
  time : ∀ s ∈ view, 0 ≤ s.2.1 ∧ s.2.1 ≤ 14
  small : ∀ s ∈ view, s.2.2.natAbs < 2 ^ 60
  short : ∀ s ∈ view, s.1.length ≤ 20
  one : ∀ a ∈ view, ∀ b ∈ view, bare a.1 = bare b.1 → valOf a.1 sMetric = valOf b.1 sMetric → a.1 = b.1
  asc : view.Pairwise fun a b => a.1 = b.1 → a.2.1 < b.2.1
theorem look_rd (view : List Smp) (metric : Str) (ms : List Mat) (width time : Int) (k : Lab) : look (rd view metric ms width time) k = ((view.filter fun s => isRead metric ms width time s && decide (bare s.1 = k))).map (·.2.2) := by
  unfold look rd
  rw [List.filter_map, List.map_map, List.filter_filter]
  congr 1
  refine List.filter_congr fun s _ => ?_
  rw [Bool.and_comm]
  rfl
theorem rdT_eq {view : List Smp} (h : ViewOk view) (metric : Str) (ms : List Mat) {width time lo : Int} {n : Nat} (hlo : lo = if time - width + 1 > 0 then time - width + 1 else 0) (hn : n = (time + 1 - lo).toNat) (k : Lab) :
    look (rdT view metric ms width time (ticks lo n)) k = look (rd view metric ms width time) k := by
  rw [look_rd]
  -- the samples of this group, in order of their times
  have hasc : (view.filter fun s => isRead metric ms width time s && decide (bare s.1 = k)).Pairwise fun a b => a.2.1 < b.2.1 := by
    rw [List.pairwise_filter]
    refine (List.Pairwise.and_mem.mp h.asc).imp fun {a b} ⟨ha, hb, hab⟩ h1 h2 => ?_
    rw [Bool.and_eq_true] at h1 h2
    have m1 : valOf a.1 sMetric = metric := by
      have := h1.1
      unfold isRead at this
      simp only [Bool.and_eq_true, decide_eq_true_eq] at this
      exact this.2.1
    have m2 : valOf b.1 sMetric = metric := by
      have := h2.1
      unfold isRead at this
      simp only [Bool.and_eq_true, decide_eq_true_eq] at this
      exact this.2.1
    exact hab (h.one a ha b hb ((of_decide_eq_true h1.2).trans (of_decide_eq_true h2.2).symm) (m1.trans m2.symm))
  have hb : ∀ s ∈ view.filter (fun s => isRead metric ms width time s && decide (bare s.1 = k)), lo ≤ s.2.1 ∧ s.2.1 < lo + n := by
    intro s hs
    obtain ⟨hv, hr⟩ := List.mem_filter.mp hs
    rw [Bool.and_eq_true] at hr
    have hr := hr.1
    unfold isRead inTime at hr
    simp only [Bool.and_eq_true, decide_eq_true_eq] at hr
    have ht := h.time s hv
    subst hlo hn
    split
    · omega
    · omega
  have q := ticks_filter hasc hb
  rw [← q]
  -- the groups of the flat list
  have gl : ∀ ts : List Int, look (rdT view metric ms width time ts) k = (ts.flatMap fun t => (view.filter fun s => isRead metric ms width time s && decide (bare s.1 = k)).filter fun s => decide (s.2.1 = t)).map (·.2.2) := by
    intro ts
    induction ts with
    | nil => rfl
    | cons t ts ih =>
      have e : rdT view metric ms width time (t :: ts) = ((view.filter fun s => decide (s.2.1 = t) && isRead metric ms width time s).map pick) ++ rdT view metric ms width time ts := rfl
      rw [e]
      have la : ∀ a b : List (Lab × Int), look (a ++ b) k = look a k ++ look b k := fun a b => by
        unfold look
        rw [List.filter_append, List.map_append]
      rw [la, ih, List.flatMap_cons, List.map_append]
      congr 1
      unfold look
      rw [List.filter_map, List.map_map, List.filter_filter, List.filter_filter]
      congr 1
      refine List.filter_congr fun s _ => ?_
      show (decide (bare s.1 = k) && (decide (s.2.1 = t) && isRead metric ms width time s)) = (decide (s.2.1 = t) && (isRead metric ms width time s && decide (bare s.1 = k)))
      cases decide (bare s.1 = k) <;> cases decide (s.2.1 = t) <;> cases isRead metric ms width time s <;> rfl
  exact gl _
theorem grp_ticks {view : List Smp} (h : ViewOk view) (f : List Int → Int) (metric : Str) (ms : List Mat) {width time lo : Int} {n : Nat} (hlo : lo = if time - width + 1 > 0 then time - width + 1 else 0) (hn : n = (time + 1 - lo).toNat) :
    grp f (rdT view metric ms width time (ticks lo n)) = grp f (rd view metric ms width time) := grp_congr f fun k => rdT_eq h metric ms hlo hn k
end L2.Q9


set_option Elab.async false
set_option linter.all false
set_option maxRecDepth 100000
set_option maxHeartbeats 4000000
/-! Q9: the defs, one by one: small ones. -/
namespace L2.Q9
open PySem PySem.Spec PyProof.Rows

/-! ### the text -/
def topS (i : Nat) : Stmt := PySem.Challenge.pw_watchfloor_k90_evaluate_whole_is_the_pla.main.body.getD i (.Pass ⟨0, 0, 0, 0⟩)

/-! ### small helps -/
theorem At.pair {K : PySem.W.Frag} {H : Hp} {v : V} {d e : PyData} (h : At K H v (.tuple [d, e])) : ∃ a x y, v = .ref a ∧ SqT K H a [x, y] ∧ At K H x d ∧ At K H y e := by
  obtain ⟨a, vs, rfl, hs, r⟩ := h.tup_of
  cases r with
  | cons r1 r =>
    cases r with
    | cons r2 r =>
      cases r
      exact ⟨a, _, _, rfl, hs, r1, r2⟩
theorem At.three {K : PySem.W.Frag} {H : Hp} {v : V} {d e f : PyData} (h : At K H v (.tuple [d, e, f])) : ∃ a x y z, v = .ref a ∧ SqT K H a [x, y, z] ∧ At K H x d ∧ At K H y e ∧ At K H z f := by
  obtain ⟨a, vs, rfl, hs, r⟩ := h.tup_of
  cases r with
  | cons r1 r =>
    cases r with
    | cons r2 r =>
      cases r with
      | cons r3 r =>
        cases r
        exact ⟨a, _, _, _, rfl, hs, r1, r2, r3⟩
theorem At.four {K : PySem.W.Frag} {H : Hp} {v : V} {d e f g : PyData} (h : At K H v (.tuple [d, e, f, g])) : ∃ a x y z u, v = .ref a ∧ SqT K H a [x, y, z, u] ∧ At K H x d ∧ At K H y e ∧ At K H z f ∧ At K H u g := by
  obtain ⟨a, vs, rfl, hs, r⟩ := h.tup_of
  cases r with
  | cons r1 r =>
    cases r with
    | cons r2 r =>
      cases r with
      | cons r3 r =>
        cases r with
        | cons r4 r =>
          cases r
          exact ⟨a, _, _, _, _, rfl, hs, r1, r2, r3, r4⟩
theorem At.five {K : PySem.W.Frag} {H : Hp} {v : V} {d e f g k : PyData} (h : At K H v (.tuple [d, e, f, g, k])) : ∃ a x y z u t, v = .ref a ∧ SqT K H a [x, y, z, u, t] ∧ At K H x d ∧ At K H y e ∧ At K H z f ∧ At K H u g ∧ At K H t k := by
  obtain ⟨a, vs, rfl, hs, r⟩ := h.tup_of
  cases r with
  | cons r1 r =>
    cases r with
    | cons r2 r =>
      cases r with
      | cons r3 r =>
        cases r with
        | cons r4 r =>
          cases r with
          | cons r5 r =>
            cases r
            exact ⟨a, _, _, _, _, _, rfl, hs, r1, r2, r3, r4, r5⟩
theorem At.Q {K : PySem.W.Frag} {H : Hp} {v : V} {p : Str × Str} (h : At K H v (encQ p)) : ∃ a, v = .ref a ∧ SqT K H a [.str p.1, .str p.2] := by
  obtain ⟨a, x, y, rfl, hs, h1, h2⟩ := h.pair
  rw [h1.str_eq, h2.str_eq] at hs
  exact ⟨a, rfl, hs⟩
theorem At.P {K : PySem.W.Frag} {H : Hp} {v : V} {p : Lab × Int} (h : At K H v (encP p)) : ∃ a x, v = .ref a ∧ SqT K H a [x, .int p.2] ∧ At K H x (encL p.1) := by
  obtain ⟨a, x, y, rfl, hs, h1, h2⟩ := h.pair
  rw [h2.int_eq] at hs
  exact ⟨a, x, rfl, hs, h1⟩
theorem At.S {K : PySem.W.Frag} {H : Hp} {v : V} {s : Smp} (h : At K H v (encS s)) : ∃ a x, v = .ref a ∧ SqT K H a [x, .int s.2.1, .int s.2.2] ∧ At K H x (encL s.1) := by
  obtain ⟨a, x, y, z, rfl, hs, h1, h2, h3⟩ := h.three
  rw [h2.int_eq, h3.int_eq] at hs
  exact ⟨a, x, rfl, hs, h1⟩
theorem AtAll.mget {K : PySem.W.Frag} {H : Hp} {α : Type} {f : α → PyData} {l : List α} {vs : List V} {i : Nat} {v : V} (h : AtAll K H vs (l.map f)) (e : vs[i]? = some v) : ∃ x, l[i]? = some x ∧ At K H v (f x) := by
  obtain ⟨d, e1, e2⟩ := h.get' e
  rw [List.getElem?_map] at e1
  obtain ⟨x, hx, rfl⟩ := Option.map_eq_some_iff.mp e1
  exact ⟨x, hx, e2⟩
theorem AtAll.mlen {K : PySem.W.Frag} {H : Hp} {α : Type} {f : α → PyData} {l : List α} {vs : List V} (h : AtAll K H vs (l.map f)) : vs.length = l.length := by
  rw [h.length, List.length_map]
theorem dropx {α : Type} {l : List α} {i : Nat} {x : α} (h : l[i]? = some x) : l.drop i = x :: l.drop (i + 1) := by
  obtain ⟨h1, rfl⟩ := List.getElem?_eq_some_iff.mp h
  exact List.drop_eq_getElem_cons h1
theorem takex {α : Type} {l : List α} {i : Nat} {x : α} (h : l[i]? = some x) : l.take (i + 1) = l.take i ++ [x] := by
  rw [List.take_add_one, h]
  rfl
theorem lt_of_get {α : Type} {l : List α} {i : Nat} {x : α} (h : l[i]? = some x) : i < l.length := (List.getElem?_eq_some_iff.mp h).1
theorem same_new {H : Hp} {p : Addr} (h : H p = none) (o : HO) : Same H (upd H p o) := fun b u q => by
  rw [upd_ne (ne_of_none q h)]
  exact q
/-- what H did not know changes -/
theorem Same.mut {H H' : Hp} {p : Addr} {o : HO} (e : Same H H') (h : H p = none) : Same H (upd H' p o) := fun a u ha => by
  rw [upd_ne (ne_of_none ha h)]
  exact e a u ha
theorem Same.kt {H H' : Hp} (e : Same H H') : Kt H H' := Kt.of e
theorem At.same {K : PySem.W.Frag} {H H' : Hp} {v : V} {d : PyData} (h : At K H v d) (e : Same H H') : At K H' v d := h.keep (Kt.of e)
theorem AtAll.same {K : PySem.W.Frag} {H H' : Hp} {vs : List V} {ds : List PyData} (h : AtAll K H vs ds) (e : Same H H') : AtAll K H' vs ds := h.keep (Kt.of e)
theorem Same.seqT {K : PySem.W.Frag} {H H' : Hp} {a : Addr} {xs : List V} (e : Same H H') (h : SqT K H a xs) : SqT K H' a xs := (Kt.of e).seqT h
theorem decStr {a b : Str} : decide (V.str a = V.str b) = decide (a = b) := by
  by_cases h : a = b
  · subst h
    simp
  · rw [decide_eq_false h]
    exact decide_eq_false fun e => h (V.str.inj e)

section
variable {P : Program} {w : World} {K : PySem.W.Frag} {mg : Str → Option Value} {base : Heap}
/-! ### value_of, _law_told -/
def spValueOf (K : PySem.W.Frag) : Sp := fun vs H Q _ => ∃ v l n, vs = [v, .str n] ∧ At K H v (encL l) ∧ Q (.str (valOf l n)) H
abbrev s2 : Stmt := topS 2
theorem sc2 : FnScope ["labels", "name", "pair"] ["labels", "name"] (defScope s2) := ⟨rfl, rfl, rfl, by decide +kernel, rfl, by decide +kernel, by decide +kernel⟩
theorem valOf_turn {l : Lab} {n : Str} (v : V) (D : Ends) (X : Lab) : True := trivial
theorem ok2 {f : Addr} {fd : FuncData} (F : Fun K "value_of" "value_of" s2 f fd) : FnOk P w K mg base CX0 1 f fd ["labels", "name"] (spValueOf K) := by
  refine F.ok sc2 (fun vs H Q E h => ?_) (fun cdv A outer s H vs Q E hr h => ?_)
  · obtain ⟨v, l, n, rfl, _⟩ := h
    rfl
  obtain ⟨v, l, n, rfl, hv, q⟩ := h
  refine ⟨_, pss_cons (ps_for PassesOwn.never rfl (pi_tup (pv 0)) (pg_name (i := 2) sc2.nd rfl (Or.inl rfl)) (pss_one (ps_if (pt_cmpR op_eq (pe_ix ix_tup (pv 2) pe_int (fun _ _ => rfl)) (pv 1) (nomark _)) (pss_one (ps_ret (pe_ix ix_tup (pv 2) pe_int (fun _ _ => rfl)))) pss_nil))) (pss_one (ps_ret pe_str)), ?_⟩
  obtain ⟨a, xs, rfl, hS, hA⟩ := hv.tup_of
  refine ⟨_, rfl, a, rfl, ⟨_, hS⟩, for_tup (xs := xs) (fun i σ H' => H' = H ∧ (∃ y, σ = [some (.ref a), some (.str n), y]) ∧ valOf (l.drop i) n = valOf l n) ⟨rfl, ⟨none, rfl⟩, by rw [List.drop_zero]⟩ (fun i σ H' _ p => by rw [p.1]; exact hS) (fun i x σ H' hx p => ?_) (fun σ H' p => ?_)⟩
  · obtain ⟨rfl, ⟨y, rfl⟩, pv⟩ := p
    obtain ⟨pr, hp, hA1⟩ := hA.mget hx
    obtain ⟨b, rfl, hb⟩ := hA1.Q
    rw [dropx hp, valOf] at pv
    refine ⟨_, rfl, b, _, 0, _, rfl, rfl, hb, rfl, _, rfl, rfl, _, rfl, ite2 (fun c => ?_) (fun c => ?_)⟩
    · rw [decStr] at c
      rw [if_pos (of_decide_eq_true c)] at pv
      refine ⟨_, rfl, b, _, 1, _, rfl, rfl, hb, rfl, ?_⟩
      rw [← pv] at q
      exact q
    · rw [decStr] at c
      rw [if_neg (fun z => c (decide_eq_true z))] at pv
      exact ⟨rfl, ⟨_, rfl⟩, pv⟩
  · obtain ⟨rfl, _, pv⟩ := p
    rw [hA.mlen, List.drop_length] at pv
    rw [← pv] at q
    exact q
end
end L2.Q9


set_option Elab.async false
set_option linter.all false
set_option maxRecDepth 100000
set_option maxHeartbeats 4000000
/-! Q9: small defs. -/
namespace L2.Q9
open PySem PySem.Spec PyProof.Rows

theorem eqV_str (a b : Str) : eqV (.str a) (.str b) = decide (a = b) := by
  show (a == b) = _
  rw [Bool.beq_eq_decide_eq]
theorem inV_str (x : Str) (xs : List Str) : inV (.str x) (xs.map V.str) = decide (x ∈ xs) := by
  unfold inV
  induction xs with
  | nil => rfl
  | cons y ys ih =>
    rw [List.map_cons, List.any_cons, ih, eqV_str]
    by_cases h : x = y
    · subst h
      simp
    · have h2 : ¬ y = x := fun e => h e.symm
      simp [h, h2]
theorem flat_strs (xs : List Str) : (xs.map V.str).all flatV = true := by
  rw [List.all_eq_true]
  intro v hv
  obtain ⟨x, _, rfl⟩ := List.mem_map.mp hv
  rfl
theorem decBl {a b : Bool} : decide (V.bl a = V.bl b) = decide (a = b) := by cases a <;> cases b <;> rfl
theorem decInt {a b : Int} : decide (V.int a = V.int b) = decide (a = b) := by
  by_cases h : a = b
  · subst h
    simp
  · rw [decide_eq_false h]
    exact decide_eq_false fun e => h (V.int.inj e)
theorem At.strs {K : PySem.W.Frag} {H : Hp} : ∀ {xs : List Str} {vs : List V}, AtAll K H vs (xs.map .str) → vs = xs.map V.str
  | [], _, h => by
    cases h
    rfl
  | x :: xs, _, h => by
    cases h with
    | cons h t => rw [h.str_eq, At.strs t]; rfl
theorem iteB {c : Bool} {A B : Prop} (h1 : c = true → A) (h2 : c = false → B) : if c = true then A else B := by
  cases c with
  | true => exact h1 rfl
  | false => exact h2 rfl
theorem short_lt {n : Nat} (h : n ≤ 100) : n < sizeLine := small1000 (by omega)

section
variable {P : Program} {w : World} {K : PySem.W.Frag} {mg : Str → Option Value} {base : Heap}

/-! ### _law_told -/
abbrev s38 : Stmt := topS 38
theorem sc38 : FnScope ["_law_labels_here", "_law_name_here", "_law_pair"] ["_law_labels_here", "_law_name_here"] (defScope s38) := ⟨rfl, rfl, rfl, by decide +kernel, rfl, by decide +kernel, by decide +kernel⟩

theorem ok38 {f : Addr} {fd : FuncData} (F : Fun K "_law_told" "_law_told" s38 f fd) : FnOk P w K mg base CX0 1 f fd ["_law_labels_here", "_law_name_here"] (spValueOf K) := by
  refine F.ok sc38 (fun vs H Q E h => ?_) (fun cdv A outer s H vs Q E hr h => ?_)
  · obtain ⟨v, l, n, rfl, _⟩ := h
    rfl
  obtain ⟨v, l, n, rfl, hv, q⟩ := h
  refine ⟨_, pss_cons (ps_for PassesOwn.never rfl (pi_tup (pv 0)) (pg_name (i := 2) sc38.nd rfl (Or.inl rfl)) (pss_one (ps_if (pt_cmpR op_eq (pe_ix ix_tup (pv 2) pe_int (fun _ _ => rfl)) (pv 1) (nomark _)) (pss_one (ps_ret (pe_ix ix_tup (pv 2) pe_int (fun _ _ => rfl)))) pss_nil))) (pss_one (ps_ret pe_str)), ?_⟩
  obtain ⟨a, xs, rfl, hS, hA⟩ := hv.tup_of
  refine ⟨_, rfl, a, rfl, ⟨_, hS⟩, for_tup (xs := xs) (fun i σ H' => H' = H ∧ (∃ y, σ = [some (.ref a), some (.str n), y]) ∧ valOf (l.drop i) n = valOf l n) ⟨rfl, ⟨none, rfl⟩, by rw [List.drop_zero]⟩ (fun i σ H' _ p => by rw [p.1]; exact hS) (fun i x σ H' hx p => ?_) (fun σ H' p => ?_)⟩
  · obtain ⟨rfl, ⟨y, rfl⟩, pv⟩ := p
    obtain ⟨pr, hp, hA1⟩ := hA.mget hx
    obtain ⟨b, rfl, hb⟩ := hA1.Q
    rw [dropx hp, valOf] at pv
    refine ⟨_, rfl, b, _, 0, _, rfl, rfl, hb, rfl, _, rfl, rfl, _, rfl, ite2 (fun c => ?_) (fun c => ?_)⟩
    · rw [decStr] at c
      rw [if_pos (of_decide_eq_true c)] at pv
      refine ⟨_, rfl, b, _, 1, _, rfl, rfl, hb, rfl, ?_⟩
      rw [← pv] at q
      exact q
    · rw [decStr] at c
      rw [if_neg (fun z => c (decide_eq_true z))] at pv
      exact ⟨rfl, ⟨_, rfl⟩, pv⟩
  · obtain ⟨rfl, _, pv⟩ := p
    rw [hA.mlen, List.drop_length] at pv
    rw [← pv] at q
    exact q

/-! ### without -/
abbrev s3 : Stmt := topS 3
theorem sc3 : FnScope ["labels", "names", "pair"] ["labels", "names"] (defScope s3) := ⟨rfl, rfl, rfl, by decide +kernel, rfl, by decide +kernel, by decide +kernel⟩

def spWithout (K : PySem.W.Frag) : Sp := fun vs H Q _ => ∃ v l b, vs = [v, .ref b] ∧ At K H v (encL l) ∧ l.length ≤ 100 ∧ SqL K H b [.str sMetric] ∧ ∀ p H', Same H H' → H p = none → At K H' (.ref p) (encL (bare l)) → Q (.ref p) H'
theorem bare_snoc (l : Lab) (p : Str × Str) : bare (l ++ [p]) = if p.1 = sMetric then bare l else bare l ++ [p] := by
  unfold bare
  rw [List.filter_append]
  by_cases h : p.1 = sMetric
  · rw [if_pos h, List.filter_cons_of_neg (by simp [h])]
    simp
  · rw [if_neg h, List.filter_cons_of_pos (by simp [h])]
    rfl
theorem ok3 {f : Addr} {fd : FuncData} (F : Fun K "without" "without" s3 f fd) (mt : mg "tuple" = none) : FnOk P w K mg base CX0 1 f fd ["labels", "names"] (spWithout K) := by
  refine F.ok sc3 (fun vs H Q E h => ?_) (fun cdv A outer s H vs Q E hr h => ?_)
  · obtain ⟨v, l, b, rfl, _⟩ := h
    rfl
  obtain ⟨v, l, b, rfl, hv, hl, hb, q⟩ := h
  refine ⟨_, pss_one (ps_ret (pe_callTy call_tuple_of (by rfl) mt boot_tuple (pa_cons (pe_lc (own := [("pair", 2)]) (g := gName 2) (by rfl) sc3.nd (pi_tup (pv 0)) (blkOk_by (own := [("pair", 2)]) (N := ["labels", "names", "pair"]) (sc := defScope s3) (by decide +kernel)) (fun _ _ _ _ _ => pg_name (i := 2) sc3.nd rfl (Or.inl rfl))
    (fun _ _ _ _ _ => pts_one (pt_cmpR (r := rIn K true) op_notIn_seq (pe_ix (r := rIxT K) ix_tup (pv 2) pe_int (fun _ _ => rfl)) (pv 1) (by rfl))) (fun _ _ _ _ _ => pv 2)) pa_nil))), ?_⟩
  obtain ⟨a, xs, rfl, hS, hA⟩ := hv.tup_of
  have len := hA.mlen
  refine ⟨_, rfl, a, rfl, ⟨_, hS⟩, fun D hD => ?_⟩
  refine lc_tup (xs := xs) (fun i H' => Same H H' ∧ ∃ acc, H' D = some (.lst acc) ∧ AtAll K H' acc ((bare (l.take i)).map encQ)) ⟨same_new hD _, [], upd_same, .nil⟩ (fun i H' _ p => Same.seqT p.1 hS) (fun i x H' hx p => ?_) (fun H' p => ?_)
  · obtain ⟨sm, acc, hacc, aAll⟩ := p
    obtain ⟨pr, hp, hA1⟩ := hA.mget hx
    obtain ⟨c, rfl, hc⟩ := (hA1.same sm).Q
    have b1 : (bare (l.take (i + 1))) = if pr.1 = sMetric then bare (l.take i) else bare (l.take i) ++ [pr] := by rw [takex hp, bare_snoc]
    have z : acc.length < sizeLine := by
      have h1 : acc.length = (bare (l.take i)).length := by rw [aAll.mlen]
      have h2 : (bare (l.take i)).length ≤ l.length := Nat.le_trans (List.length_filter_le _ _) (by rw [List.length_take]; omega)
      exact short_lt (by omega)
    refine ⟨rfl, _, rfl, c, _, 0, _, rfl, rfl, hc, rfl, _, rfl, b, [.str sMetric], rfl, .inl (sm.seq hb), rfl, rfl, _, rfl, iteB (fun e => ?_) (fun e => ?_)⟩
    · have e' : (!inV (V.str pr.1) ([sMetric].map V.str)) = true := e
      rw [inV_str] at e'
      have ne : ¬ pr.1 = sMetric := by simpa using e'
      rw [if_neg ne] at b1
      refine ⟨_, rfl, acc, hacc, z, Same.mut sm hD, acc ++ [.ref c], upd_same, ?_⟩
      rw [b1, List.map_append]
      exact (aAll.keep (Kt.lst hacc)).append (.cons ((hA1.same sm).keep (Kt.lst hacc)) .nil)
    · have e' : (!inV (V.str pr.1) ([sMetric].map V.str)) = false := e
      rw [inV_str] at e'
      have eq : pr.1 = sMetric := by simpa using e'
      rw [if_pos eq] at b1
      exact ⟨sm, acc, hacc, by rw [b1]; exact aAll⟩
  · obtain ⟨sm, acc, hacc, aAll⟩ := p
    rw [len, List.take_length] at aAll
    refine ⟨D, acc, rfl, .inl ⟨SqL.of hacc, fun p hp => q p _ (sm.trans (same_new hp _)) (sm.free hp) (At.tup_mk (SqT.of upd_same) (aAll.keep (Kt.new hp)))⟩⟩

/-! ### only -/
abbrev s4 : Stmt := topS 4
theorem sc4 : FnScope ["labels", "names", "pair"] ["labels", "names"] (defScope s4) := ⟨rfl, rfl, rfl, by decide +kernel, rfl, by decide +kernel, by decide +kernel⟩

def spOnly (K : PySem.W.Frag) : Sp := fun vs H Q _ => ∃ v l b ns, vs = [v, b] ∧ At K H v (encL l) ∧ l.length ≤ 100 ∧ At K H b (.tuple (ns.map .str)) ∧ ∀ p H', Same H H' → H p = none → At K H' (.ref p) (encL (only l ns)) → Q (.ref p) H'
theorem only_snoc (l : Lab) (ns : List Str) (p : Str × Str) : only (l ++ [p]) ns = if p.1 ∈ ns then only l ns ++ [p] else only l ns := by
  unfold only
  rw [List.filter_append]
  by_cases h : p.1 ∈ ns
  · rw [if_pos h, List.filter_cons_of_pos (by simp [h])]
    rfl
  · rw [if_neg h, List.filter_cons_of_neg (by simp [h])]
    simp
theorem ok4 {f : Addr} {fd : FuncData} (F : Fun K "only" "only" s4 f fd) (mt : mg "tuple" = none) : FnOk P w K mg base CX0 1 f fd ["labels", "names"] (spOnly K) := by
  refine F.ok sc4 (fun vs H Q E h => ?_) (fun cdv A outer s H vs Q E hr h => ?_)
  · obtain ⟨v, l, b, ns, rfl, _⟩ := h
    rfl
  obtain ⟨v, l, b, ns, rfl, hv, hl, hb, q⟩ := h
  refine ⟨_, pss_one (ps_ret (pe_callTy call_tuple_of (by rfl) mt boot_tuple (pa_cons (pe_lc (own := [("pair", 2)]) (g := gName 2) (by rfl) sc4.nd (pi_tup (pv 0)) (blkOk_by (own := [("pair", 2)]) (N := ["labels", "names", "pair"]) (sc := defScope s4) (by decide +kernel)) (fun _ _ _ _ _ => pg_name (i := 2) sc4.nd rfl (Or.inl rfl))
    (fun _ _ _ _ _ => pts_one (pt_cmpR (r := rIn K false) op_in_seq (pe_ix (r := rIxT K) ix_tup (pv 2) pe_int (fun _ _ => rfl)) (pv 1) (by rfl))) (fun _ _ _ _ _ => pv 2)) pa_nil))), ?_⟩
  obtain ⟨a, xs, rfl, hS, hA⟩ := hv.tup_of
  obtain ⟨nb, nsv, rfl, hN, hNA⟩ := hb.tup_of
  obtain rfl := At.strs hNA
  have len := hA.mlen
  refine ⟨_, rfl, a, rfl, ⟨_, hS⟩, fun D hD => ?_⟩
  refine lc_tup (xs := xs) (fun i H' => Same H H' ∧ ∃ acc, H' D = some (.lst acc) ∧ AtAll K H' acc ((only (l.take i) ns).map encQ)) ⟨same_new hD _, [], upd_same, .nil⟩ (fun i H' _ p => Same.seqT p.1 hS) (fun i x H' hx p => ?_) (fun H' p => ?_)
  · obtain ⟨sm, acc, hacc, aAll⟩ := p
    obtain ⟨pr, hp, hA1⟩ := hA.mget hx
    obtain ⟨c, rfl, hc⟩ := (hA1.same sm).Q
    have b1 : (only (l.take (i + 1)) ns) = if pr.1 ∈ ns then only (l.take i) ns ++ [pr] else only (l.take i) ns := by rw [takex hp, only_snoc]
    have z : acc.length < sizeLine := by
      have h1 : acc.length = (only (l.take i) ns).length := by rw [aAll.mlen]
      have h2 : (only (l.take i) ns).length ≤ l.length := Nat.le_trans (List.length_filter_le _ _) (by rw [List.length_take]; omega)
      exact short_lt (by omega)
    refine ⟨rfl, _, rfl, c, _, 0, _, rfl, rfl, hc, rfl, _, rfl, nb, ns.map V.str, rfl, .inr (Same.seqT sm hN), rfl, flat_strs ns, _, rfl, iteB (fun e => ?_) (fun e => ?_)⟩
    · have e' : inV (V.str pr.1) (ns.map V.str) = true := e
      rw [inV_str] at e'
      rw [if_pos (of_decide_eq_true e')] at b1
      refine ⟨_, rfl, acc, hacc, z, Same.mut sm hD, acc ++ [.ref c], upd_same, ?_⟩
      rw [b1, List.map_append]
      exact (aAll.keep (Kt.lst hacc)).append (.cons ((hA1.same sm).keep (Kt.lst hacc)) .nil)
    · have e' : inV (V.str pr.1) (ns.map V.str) = false := e
      rw [inV_str] at e'
      rw [if_neg (of_decide_eq_false e')] at b1
      exact ⟨sm, acc, hacc, by rw [b1]; exact aAll⟩
  · obtain ⟨sm, acc, hacc, aAll⟩ := p
    rw [len, List.take_length] at aAll
    refine ⟨D, acc, rfl, .inl ⟨SqL.of hacc, fun p hp => q p _ (sm.trans (same_new hp _)) (sm.free hp) (At.tup_mk (SqT.of upd_same) (aAll.keep (Kt.new hp)))⟩⟩

/-! ### matches -/
abbrev s5 : Stmt := topS 5
theorem sc5 : FnScope ["matcher", "labels", "name", "values", "inside", "found"] ["matcher", "labels"] (defScope s5) := ⟨rfl, rfl, rfl, by decide +kernel, rfl, by decide +kernel, by decide +kernel⟩

def spMatches (K : PySem.W.Frag) : Sp := fun vs H Q _ => ∃ m v mt l, vs = [m, v] ∧ At K H m (encM mt) ∧ At K H v (encL l) ∧ Q (.bl (matches1 mt l)) H
theorem ok5 {f f2 : Addr} {fd fd2 : FuncData} (F : Fun K "matches" "matches" s5 f fd) (F2 : Fun K "value_of" "value_of" s2 f2 fd2) (b2 : Binds K fd2 ["labels", "name"] []) (m2 : mg "value_of" = some (.ref f2)) : FnOk P w K mg base CX0 2 f fd ["matcher", "labels"] (spMatches K) := by
  refine F.ok sc5 (fun vs H Q E h => ?_) (fun cdv A outer s H vs Q E hr h => ?_)
  · obtain ⟨m, v, mt, l, rfl, _⟩ := h
    rfl
  obtain ⟨m, v, mt, l, rfl, hm, hv, q⟩ := h
  have G2 := ok2 (P := P) (w := w) (mg := mg) (base := base) F2
  refine ⟨_, pss_cons (ps_asg (pv 0) (pg_tup rfl (pgs_cons (pg_name (i := 2) sc5.nd rfl (Or.inl rfl)) (pgs_cons (pg_name (i := 3) sc5.nd rfl (Or.inl rfl)) (pgs_cons (pg_name (i := 4) sc5.nd rfl (Or.inl rfl)) pgs_nil)))))
    (pss_cons (ps_set (i := 5) sc5.nd rfl (Or.inl rfl) (pe_cmpR op_in_seq (pe_call G2 hr rfl m2 F2.kp b2 .nil pass0 (pa_cons (pv 1) (pa_cons (pv 2) pa_nil))) (pv 3) (by rfl)))
    (pss_one (ps_ret (pe_cmpR op_eq (pv 5) (pv 4) (nomark _))))), ?_⟩
  obtain ⟨a, x, y, z, rfl, hS, h1, h2, h3⟩ := hm.three
  obtain rfl := h1.str_eq
  obtain rfl := h3.bl_eq
  obtain ⟨vb, vvs, rfl, hV, hVA⟩ := h2.tup_of
  obtain rfl := At.strs hVA
  refine ⟨_, rfl, a, _, rfl, hS, rfl, _, _, rfl, _, _, rfl, _, _, rfl, rfl, ?_⟩
  refine ⟨_, rfl, _, rfl, v, l, mt.name, rfl, hv, ?_⟩
  refine ⟨_, rfl, vb, _, rfl, .inr hV, rfl, flat_strs _, ?_⟩
  refine ⟨_, rfl, _, rfl, rfl, ?_⟩
  have e : decide (V.bl (if false = true then !inV (V.str (valOf l mt.name)) (mt.vals.map V.str) else inV (V.str (valOf l mt.name)) (mt.vals.map V.str)) = V.bl mt.ins) = matches1 mt l := by
    rw [if_neg Bool.false_ne_true, inV_str, decBl]
    rfl
  rw [← e] at q
  exact q

/-! ### matches_all -/
abbrev s6 : Stmt := topS 6
theorem sc6 : FnScope ["matchers", "labels", "matcher"] ["matchers", "labels"] (defScope s6) := ⟨rfl, rfl, rfl, by decide +kernel, rfl, by decide +kernel, by decide +kernel⟩

def spMatchesAll (K : PySem.W.Frag) : Sp := fun vs H Q _ => ∃ m v ms l, vs = [m, v] ∧ At K H m (.tuple (ms.map encM)) ∧ At K H v (encL l) ∧ Q (.bl (matchesAll ms l)) H
theorem matchesAll_take {ms : List Mat} {l : Lab} (h : matchesAll (ms.take ms.length) l = true) : matchesAll ms l = true := by rwa [List.take_length] at h
theorem ok6 {f f5 : Addr} {fd fd5 : FuncData} (F : Fun K "matches_all" "matches_all" s6 f fd) (G5 : FnOk P w K mg base CX0 2 f5 fd5 ["matcher", "labels"] (spMatches K)) (k5 : PySem.W.keepIn K (.ref f5) = true) (b5 : Binds K fd5 ["matcher", "labels"] []) (m5 : mg "matches" = some (.ref f5)) : FnOk P w K mg base CX0 3 f fd ["matchers", "labels"] (spMatchesAll K) := by
  refine F.ok sc6 (fun vs H Q E h => ?_) (fun cdv A outer s H vs Q E hr h => ?_)
  · obtain ⟨m, v, ms, l, rfl, _⟩ := h
    rfl
  obtain ⟨m, v, ms, l, rfl, hm, hv, q⟩ := h
  refine ⟨_, pss_cons (ps_for PassesOwn.never rfl (pi_tup (pv 0)) (pg_name (i := 2) sc6.nd rfl (Or.inl rfl)) (pss_one (ps_if (pt_not (pt_val (pe_call G5 hr rfl m5 k5 b5 .nil pass0 (pa_cons (pv 2) (pa_cons (pv 1) pa_nil))))) (pss_one (ps_ret pe_bl)) pss_nil))) (pss_one (ps_ret pe_bl)), ?_⟩
  obtain ⟨a, xs, rfl, hS, hA⟩ := hm.tup_of
  refine ⟨_, rfl, a, rfl, ⟨_, hS⟩, for_tup (xs := xs) (fun i σ H' => H' = H ∧ (∃ y, σ = [some (.ref a), some v, y]) ∧ matchesAll (ms.take i) l = true) ⟨rfl, ⟨none, rfl⟩, rfl⟩ (fun i σ H' _ p => by rw [p.1]; exact hS) (fun i x σ H' hx p => ?_) (fun σ H' p => ?_)⟩
  · obtain ⟨rfl, ⟨y, rfl⟩, pm⟩ := p
    obtain ⟨mt, hp, hA1⟩ := hA.mget hx
    refine ⟨_, rfl, _, rfl, x, v, mt, l, rfl, hA1, hv, _, rfl, iteB (fun e => ?_) (fun e => ?_)⟩
    · have e' : matches1 mt l = false := by simpa using e
      have z : matchesAll ms l = false := by
        unfold matchesAll
        rw [Bool.eq_false_iff]
        intro t
        rw [List.all_eq_true] at t
        have := t mt (List.mem_of_getElem? hp)
        rw [e'] at this
        cases this
      rw [z] at q
      exact q
    · have e' : matches1 mt l = true := by simpa using e
      refine ⟨rfl, ⟨_, rfl⟩, ?_⟩
      unfold matchesAll at pm ⊢
      rw [takex hp, List.all_append, pm, List.all_cons, e']
      rfl
  · obtain ⟨rfl, _, pm⟩ := p
    rw [hA.mlen] at pm
    rw [matchesAll_take pm] at q
    exact q

/-! ### arithmetic, comparisons -/
def spCompute : Sp := fun vs H Q _ => ∃ s a b n, vs = [.str s, .int a, .int b] ∧ a.natAbs < 2 ^ n ∧ b.natAbs < 2 ^ n ∧ 0 < n ∧ n ≤ 400000 ∧ Q (.int (cmp s a b)) H
def spHolds : Sp := fun vs H Q _ => ∃ s a b, vs = [.str s, .int a, .int b] ∧ Q (.bl (hld s a b)) H
theorem strT {a b : Str} {A B : Prop} (h1 : a = b → A) (h2 : ¬ a = b → B) : if decide (V.str a = V.str b) = true then A else B := by
  rw [decStr]
  by_cases h : a = b
  · rw [if_pos (decide_eq_true h)]
    exact h1 h
  · rw [if_neg (by simpa using h)]
    exact h2 h

/-! ### compute -/
abbrev s8 : Stmt := topS 8
theorem sc8 : FnScope ["sign", "left", "right"] ["sign", "left", "right"] (defScope s8) := ⟨rfl, rfl, rfl, by decide +kernel, rfl, by decide +kernel, by decide +kernel⟩

theorem ok8 {f : Addr} {fd : FuncData} (F : Fun K "compute" "compute" s8 f fd) : FnOk P w K mg base CX0 1 f fd ["sign", "left", "right"] spCompute := by
  refine F.ok sc8 (fun vs H Q E h => ?_) (fun cdv A outer s H vs Q E hr h => ?_)
  · obtain ⟨s, a, b, n, rfl, _⟩ := h
    rfl
  obtain ⟨sg, a, b, n, rfl, ha, hb, h0, hn, q⟩ := h
  refine ⟨_, pss_cons (ps_if (pt_cmpR op_eq (pv 0) pe_str (nomark _)) (pss_one (ps_ret (pe_op op_add (pv 1) (pv 2)))) pss_nil) (pss_cons (ps_if (pt_cmpR op_eq (pv 0) pe_str (nomark _)) (pss_one (ps_ret (pe_op op_sub (pv 1) (pv 2)))) pss_nil) (pss_one (ps_ret (pe_op op_mulW (pv 1) (pv 2))))), ?_⟩
  unfold cmp at q
  refine ⟨_, rfl, rfl, _, rfl, strT (fun c => ?_) (fun c => ?_)⟩
  · rw [if_pos c] at q
    exact ⟨_, rfl, _, rfl, a, b, rfl, rfl, q⟩
  rw [if_neg c] at q
  refine ⟨_, rfl, rfl, _, rfl, strT (fun c => ?_) (fun c => ?_)⟩
  · rw [if_pos c] at q
    exact ⟨_, rfl, _, rfl, a, b, rfl, rfl, q⟩
  rw [if_neg c] at q
  exact ⟨_, rfl, _, rfl, a, b, rfl, rfl, wide_mul ha hb h0 h0 (by omega), q⟩

/-! ### _law_compute -/
abbrev s42 : Stmt := topS 42
theorem sc42 : FnScope ["_law_sign_here", "_law_left", "_law_right"] ["_law_sign_here", "_law_left", "_law_right"] (defScope s42) := ⟨rfl, rfl, rfl, by decide +kernel, rfl, by decide +kernel, by decide +kernel⟩

theorem ok42 {f : Addr} {fd : FuncData} (F : Fun K "_law_compute" "_law_compute" s42 f fd) : FnOk P w K mg base CX0 1 f fd ["_law_sign_here", "_law_left", "_law_right"] spCompute := by
  refine F.ok sc42 (fun vs H Q E h => ?_) (fun cdv A outer s H vs Q E hr h => ?_)
  · obtain ⟨s, a, b, n, rfl, _⟩ := h
    rfl
  obtain ⟨sg, a, b, n, rfl, ha, hb, h0, hn, q⟩ := h
  refine ⟨_, pss_cons (ps_if (pt_cmpR op_eq (pv 0) pe_str (nomark _)) (pss_one (ps_ret (pe_op op_add (pv 1) (pv 2)))) pss_nil) (pss_cons (ps_if (pt_cmpR op_eq (pv 0) pe_str (nomark _)) (pss_one (ps_ret (pe_op op_sub (pv 1) (pv 2)))) pss_nil) (pss_one (ps_ret (pe_op op_mulW (pv 1) (pv 2))))), ?_⟩
  unfold cmp at q
  refine ⟨_, rfl, rfl, _, rfl, strT (fun c => ?_) (fun c => ?_)⟩
  · rw [if_pos c] at q
    exact ⟨_, rfl, _, rfl, a, b, rfl, rfl, q⟩
  rw [if_neg c] at q
  refine ⟨_, rfl, rfl, _, rfl, strT (fun c => ?_) (fun c => ?_)⟩
  · rw [if_pos c] at q
    exact ⟨_, rfl, _, rfl, a, b, rfl, rfl, q⟩
  rw [if_neg c] at q
  exact ⟨_, rfl, _, rfl, a, b, rfl, rfl, wide_mul ha hb h0 h0 (by omega), q⟩

/-! ### holds -/
abbrev s9 : Stmt := topS 9
theorem sc9 : FnScope ["sign", "left", "right"] ["sign", "left", "right"] (defScope s9) := ⟨rfl, rfl, rfl, by decide +kernel, rfl, by decide +kernel, by decide +kernel⟩

theorem ok9 {f : Addr} {fd : FuncData} (F : Fun K "holds" "holds" s9 f fd) : FnOk P w K mg base CX0 1 f fd ["sign", "left", "right"] spHolds := by
  refine F.ok sc9 (fun vs H Q E h => ?_) (fun cdv A outer s H vs Q E hr h => ?_)
  · obtain ⟨s, a, b, rfl, _⟩ := h
    rfl
  obtain ⟨sg, a, b, rfl, q⟩ := h
  refine ⟨_, pss_cons (ps_if (pt_cmpR op_eq (pv 0) pe_str (nomark _)) (pss_one (ps_ret (pe_cmpR op_lt (pv 1) (pv 2) (nomark _)))) pss_nil) (pss_cons (ps_if (pt_cmpR op_eq (pv 0) pe_str (nomark _)) (pss_one (ps_ret (pe_cmpR op_le (pv 1) (pv 2) (nomark _)))) pss_nil) (pss_cons (ps_if (pt_cmpR op_eq (pv 0) pe_str (nomark _)) (pss_one (ps_ret (pe_cmpR op_gt (pv 1) (pv 2) (nomark _)))) pss_nil) (pss_cons (ps_if (pt_cmpR op_eq (pv 0) pe_str (nomark _)) (pss_one (ps_ret (pe_cmpR op_ge (pv 1) (pv 2) (nomark _)))) pss_nil) (pss_cons (ps_if (pt_cmpR op_eq (pv 0) pe_str (nomark _)) (pss_one (ps_ret (pe_cmpR op_eq (pv 1) (pv 2) (nomark _)))) pss_nil) (pss_one (ps_ret (pe_cmpR op_ne (pv 1) (pv 2) (nomark _)))))))), ?_⟩
  unfold hld at q

  refine ⟨_, rfl, rfl, _, rfl, strT (fun c => ?_) (fun c => ?_)⟩
  · rw [if_pos c] at q
    exact ⟨_, rfl, _, rfl, a, b, rfl, rfl, q⟩
  rw [if_neg c] at q
  refine ⟨_, rfl, rfl, _, rfl, strT (fun c => ?_) (fun c => ?_)⟩
  · rw [if_pos c] at q
    exact ⟨_, rfl, _, rfl, a, b, rfl, rfl, q⟩
  rw [if_neg c] at q
  refine ⟨_, rfl, rfl, _, rfl, strT (fun c => ?_) (fun c => ?_)⟩
  · rw [if_pos c] at q
    exact ⟨_, rfl, _, rfl, a, b, rfl, rfl, q⟩
  rw [if_neg c] at q
  refine ⟨_, rfl, rfl, _, rfl, strT (fun c => ?_) (fun c => ?_)⟩
  · rw [if_pos c] at q
    exact ⟨_, rfl, _, rfl, a, b, rfl, rfl, q⟩
  rw [if_neg c] at q
  refine ⟨_, rfl, rfl, _, rfl, strT (fun c => ?_) (fun c => ?_)⟩
  · rw [if_pos c, ← decInt] at q
    exact ⟨_, rfl, _, rfl, rfl, q⟩
  rw [if_neg c, ← decInt] at q
  exact ⟨_, rfl, _, rfl, rfl, q⟩

/-! ### _law_holds -/
abbrev s43 : Stmt := topS 43
theorem sc43 : FnScope ["_law_sign_here", "_law_left", "_law_right"] ["_law_sign_here", "_law_left", "_law_right"] (defScope s43) := ⟨rfl, rfl, rfl, by decide +kernel, rfl, by decide +kernel, by decide +kernel⟩

theorem ok43 {f : Addr} {fd : FuncData} (F : Fun K "_law_holds" "_law_holds" s43 f fd) : FnOk P w K mg base CX0 1 f fd ["_law_sign_here", "_law_left", "_law_right"] spHolds := by
  refine F.ok sc43 (fun vs H Q E h => ?_) (fun cdv A outer s H vs Q E hr h => ?_)
  · obtain ⟨s, a, b, rfl, _⟩ := h
    rfl
  obtain ⟨sg, a, b, rfl, q⟩ := h
  refine ⟨_, pss_cons (ps_if (pt_cmpR op_eq (pv 0) pe_str (nomark _)) (pss_one (ps_ret (pe_cmpR op_lt (pv 1) (pv 2) (nomark _)))) pss_nil) (pss_cons (ps_if (pt_cmpR op_eq (pv 0) pe_str (nomark _)) (pss_one (ps_ret (pe_cmpR op_le (pv 1) (pv 2) (nomark _)))) pss_nil) (pss_cons (ps_if (pt_cmpR op_eq (pv 0) pe_str (nomark _)) (pss_one (ps_ret (pe_cmpR op_gt (pv 1) (pv 2) (nomark _)))) pss_nil) (pss_cons (ps_if (pt_cmpR op_eq (pv 0) pe_str (nomark _)) (pss_one (ps_ret (pe_cmpR op_ge (pv 1) (pv 2) (nomark _)))) pss_nil) (pss_cons (ps_if (pt_cmpR op_eq (pv 0) pe_str (nomark _)) (pss_one (ps_ret (pe_cmpR op_eq (pv 1) (pv 2) (nomark _)))) pss_nil) (pss_one (ps_ret (pe_cmpR op_ne (pv 1) (pv 2) (nomark _)))))))), ?_⟩
  unfold hld at q

  refine ⟨_, rfl, rfl, _, rfl, strT (fun c => ?_) (fun c => ?_)⟩
  · rw [if_pos c] at q
    exact ⟨_, rfl, _, rfl, a, b, rfl, rfl, q⟩
  rw [if_neg c] at q
  refine ⟨_, rfl, rfl, _, rfl, strT (fun c => ?_) (fun c => ?_)⟩
  · rw [if_pos c] at q
    exact ⟨_, rfl, _, rfl, a, b, rfl, rfl, q⟩
  rw [if_neg c] at q
  refine ⟨_, rfl, rfl, _, rfl, strT (fun c => ?_) (fun c => ?_)⟩
  · rw [if_pos c] at q
    exact ⟨_, rfl, _, rfl, a, b, rfl, rfl, q⟩
  rw [if_neg c] at q
  refine ⟨_, rfl, rfl, _, rfl, strT (fun c => ?_) (fun c => ?_)⟩
  · rw [if_pos c] at q
    exact ⟨_, rfl, _, rfl, a, b, rfl, rfl, q⟩
  rw [if_neg c] at q
  refine ⟨_, rfl, rfl, _, rfl, strT (fun c => ?_) (fun c => ?_)⟩
  · rw [if_pos c, ← decInt] at q
    exact ⟨_, rfl, _, rfl, rfl, q⟩
  rw [if_neg c, ← decInt] at q
  exact ⟨_, rfl, _, rfl, rfl, q⟩

end
end L2.Q9


set_option Elab.async false
set_option linter.all false
set_option maxRecDepth 100000
set_option maxHeartbeats 4000000
/-! Q9: dicts by plain keys, groups in the heap, sorted lists. -/
namespace L2.Q9
open PySem PySem.Spec PyProof.Rows

section
variable {α : Type} [DecidableEq α]
def enG (f : α → PyData) (gs : List (α × Addr × V)) : List En := gs.map fun g => (nk (f g.1), g.2.1, g.2.2)
def getG (gs : List (α × Addr × V)) (a : α) : Option V := (gs.find? fun g => decide (g.1 = a)).map (·.2.2)
theorem atE_G {f : α → PyData} (kf : Kf f) (a : α) : ∀ gs : List (α × Addr × V), atE (enG f gs) (nk (f a)) = getG gs a
  | [] => rfl
  | g :: gs => by
    have ih := atE_G kf a gs
    unfold atE enG getG at ih ⊢
    rw [List.map_cons, List.find?_cons, List.find?_cons]
    by_cases h : g.1 = a
    · rw [decide_eq_true h, decide_eq_true (show (nk (f g.1), g.2.1, g.2.2).1 = nk (f a) by rw [← h])]
      rfl
    · rw [decide_eq_false h, decide_eq_false (show ¬ (nk (f g.1), g.2.1, g.2.2).1 = nk (f a) from fun e => h (kf.inj _ _ e))]
      exact ih
theorem enG_snoc (f : α → PyData) (gs : List (α × Addr × V)) (a : α) (b : Addr) (v : V) : enG f gs ++ [(nk (f a), b, v)] = enG f (gs ++ [(a, b, v)]) := by
  unfold enG
  rw [List.map_append]
  rfl
theorem enG_len (f : α → PyData) (gs : List (α × Addr × V)) : (enG f gs).length = gs.length := by
  unfold enG
  rw [List.length_map]
theorem getG_none {gs : List (α × Addr × V)} {a : α} (h : a ∉ gs.map (·.1)) : getG gs a = none := by
  unfold getG
  rw [Option.map_eq_none_iff, List.find?_eq_none]
  intro g hg e
  exact h (List.mem_map.mpr ⟨g, hg, of_decide_eq_true e⟩)
theorem getG_some {gs : List (α × Addr × V)} {g : α × Addr × V} (hn : (gs.map (·.1)).Nodup) (h : g ∈ gs) : getG gs g.1 = some g.2.2 := by
  unfold getG
  induction gs with
  | nil => exact absurd h (by simp)
  | cons x r ih =>
    rw [List.map_cons, List.nodup_cons] at hn
    rw [List.find?_cons]
    rcases List.mem_cons.mp h with rfl | h
    · rw [decide_eq_true rfl]
      rfl
    · have ne : ¬ x.1 = g.1 := fun e => hn.1 (by rw [e]; exact List.mem_map.mpr ⟨g, h, rfl⟩)
      rw [decide_eq_false ne]
      exact ih hn.2 h
theorem getG_mem {gs : List (α × Addr × V)} {a : α} (h : a ∈ gs.map (·.1)) : ∃ g ∈ gs, g.1 = a := by
  obtain ⟨g, hg, e⟩ := List.mem_map.mp h
  exact ⟨g, hg, e⟩
/-- the dict at d, by plain keys -/
structure DAt (P : Program) (w : World) (K : PySem.W.Frag) (f : α → PyData) (H : Hp) (d : Addr) (gs : List (α × Addr × V)) : Prop where
  at_ : H d = some (dN P w d (enG f gs))
  keys : ∀ g ∈ gs, At K H (.ref g.2.1) (f g.1)
variable {P : Program} {w : World} {K : PySem.W.Frag} {f : α → PyData} {H H' : Hp} {d : Addr} {gs : List (α × Addr × V)}
theorem key_mk (kf : Kf f) {b : Addr} {a : α} (h : At K H (.ref b) (f a)) : KeyAt K H b (nk (f a)) := ⟨f a, h, rfl, kf.deep a⟩
theorem DAt.ks (kf : Kf f) (h : DAt P w K f H d gs) : KeysAt K H (enG f gs) := fun p hp => by
  obtain ⟨g, hg, rfl⟩ := List.mem_map.mp hp
  exact key_mk kf (h.keys g hg)
theorem DAt.keep (h : DAt P w K f H d gs) (k : Kt H H') (e : H' d = H d) : DAt P w K f H' d gs := ⟨e.trans h.at_, fun g hg => (h.keys g hg).keep k⟩
theorem DAt.same (h : DAt P w K f H d gs) (s : Same H H') : DAt P w K f H' d gs := ⟨s _ _ h.at_, fun g hg => (h.keys g hg).same s⟩
theorem DAt.start : DAt P w K f (upd H d (dN P w d [])) d [] := ⟨upd_same, fun _ h => absurd h (by simp)⟩
theorem DAt.put (h : DAt P w K f H d gs) {a : α} {b : Addr} {v : V} (ha : At K H (.ref b) (f a)) : DAt P w K f (upd H d (dN P w d (enG f gs ++ [(nk (f a), b, v)]))) d (gs ++ [(a, b, v)]) := by
  have k : Kt H (upd H d (dN P w d (enG f gs ++ [(nk (f a), b, v)]))) := Kt.ext h.at_
  refine ⟨by rw [upd_same, enG_snoc], fun g hg => ?_⟩
  rcases List.mem_append.mp hg with hg | hg
  · exact (h.keys g hg).keep k
  · have e : g = (a, b, v) := by simpa using hg
    subst e
    exact ha.keep k
end

theorem inj_nodup {α β : Type} {f : α → β} : ∀ {l : List α}, (l.map f).Nodup → ∀ {a b : α}, a ∈ l → b ∈ l → f a = f b → a = b
  | [], _, _, _, h, _, _ => absurd h (by simp)
  | x :: l, hn, a, b, ha, hb, e => by
    rw [List.map_cons, List.nodup_cons] at hn
    rcases List.mem_cons.mp ha with e1 | ha
    · rcases List.mem_cons.mp hb with e2 | hb
      · rw [e1, e2]
      · exact absurd (List.mem_map.mpr ⟨b, hb, by rw [← e, e1]⟩) hn.1
    · rcases List.mem_cons.mp hb with e2 | hb
      · exact absurd (List.mem_map.mpr ⟨a, ha, by rw [e, e2]⟩) hn.1
      · exact inj_nodup hn.2 ha hb e

/-! ### groups -/
abbrev gsV (gs : List (Lab × Addr × Addr)) : List (Lab × Addr × V) := gs.map fun g => (g.1, g.2.1, V.ref g.2.2)
theorem gsV_keys (gs : List (Lab × Addr × Addr)) : (gsV gs).map (·.1) = gs.map (·.1) := by
  rw [List.map_map]
  rfl
structure GA (P : Program) (w : World) (K : PySem.W.Frag) (H0 H : Hp) (d : Addr) (gs : List (Lab × Addr × Addr)) (val : Lab → List Int) : Prop where
  sm : Same H0 H
  fr : H0 d = none
  dat : DAt P w K encL H d (gsV gs)
  ndk : (gs.map (·.1)).Nodup
  ndl : (gs.map (·.2.2)).Nodup
  ls : ∀ g ∈ gs, H g.2.2 = some (.lst ((val g.1).map V.int)) ∧ H0 g.2.2 = none
section
variable {P : Program} {w : World} {K : PySem.W.Frag} {H0 H H' : Hp} {d : Addr} {gs : List (Lab × Addr × Addr)} {val : Lab → List Int}
theorem GA.start (h : H d = none) : GA P w K H (upd H d (dN P w d [])) d [] val := ⟨same_new h _, h, DAt.start, List.nodup_nil, List.nodup_nil, fun _ z => absurd z (by simp)⟩
theorem GA.same (g : GA P w K H0 H d gs val) (s : Same H H') : GA P w K H0 H' d gs val := ⟨g.sm.trans s, g.fr, g.dat.same s, g.ndk, g.ndl, fun x hx => ⟨s _ _ (g.ls x hx).1, (g.ls x hx).2⟩⟩
theorem GA.val_eq {val' : Lab → List Int} (g : GA P w K H0 H d gs val) (e : ∀ x ∈ gs, val x.1 = val' x.1) : GA P w K H0 H d gs val' := ⟨g.sm, g.fr, g.dat, g.ndk, g.ndl, fun x hx => by rw [← e x hx]; exact g.ls x hx⟩
/-- a new key, with a new empty list -/
theorem GA.put (g : GA P w K H0 H d gs val) {k : Lab} {b l : Addr} (hk : k ∉ gs.map (·.1)) (hb : At K H (.ref b) (encL k)) (hl : H l = some (.lst [])) (h0 : H0 l = none) (hf : ∀ x ∈ gs, x.2.2 ≠ l) (hv : val k = []) :
    GA P w K H0 (upd H d (dN P w d (enG encL (gsV gs) ++ [(nk (encL k), b, .ref l)]))) d (gs ++ [(k, b, l)]) val := by
  have dl : ∀ c xs, H c = some (.lst xs) → c ≠ d := fun c xs e z => by
    subst z
    rw [g.dat.at_] at e
    cases e
  refine ⟨Same.mut g.sm g.fr, g.fr, ?_, ?_, ?_, fun x hx => ?_⟩
  · have := g.dat.put (a := k) (b := b) (v := .ref l) hb
    rw [show gsV (gs ++ [(k, b, l)]) = gsV gs ++ [(k, b, .ref l)] by rw [gsV, List.map_append]; rfl]
    exact this
  · rw [List.map_append, List.nodup_append]
    exact ⟨g.ndk, by simp, fun a ha c hc e => by simp at hc; subst hc; subst e; exact hk ha⟩
  · rw [List.map_append, List.nodup_append]
    refine ⟨g.ndl, by simp, fun a ha c hc e => ?_⟩
    simp at hc
    subst hc
    subst e
    obtain ⟨x, hx, rfl⟩ := List.mem_map.mp ha
    exact hf x hx rfl
  · rcases List.mem_append.mp hx with hx | hx
    · have := g.ls x hx
      exact ⟨by rw [upd_ne (dl _ _ this.1)]; exact this.1, this.2⟩
    · have e : x = (k, b, l) := by simpa using hx
      subst e
      exact ⟨by rw [upd_ne (dl _ _ hl), hv]; exact hl, h0⟩
/-- one more item -/
theorem GA.app (g : GA P w K H0 H d gs val) {x : Lab × Addr × Addr} (hx : x ∈ gs) (n : Int) :
    GA P w K H0 (upd H x.2.2 (.lst ((val x.1).map V.int ++ [.int n]))) d gs (fun j => if j = x.1 then val j ++ [n] else val j) := by
  have hl := g.ls x hx
  have nd : d ≠ x.2.2 := fun z => by
    have e := g.dat.at_
    rw [z, hl.1] at e
    cases e
  refine ⟨Same.mut g.sm hl.2, g.fr, g.dat.keep (Kt.lst hl.1) (upd_ne nd), g.ndk, g.ndl, fun y hy => ?_⟩
  by_cases c : y = x
  · subst c
    exact ⟨by rw [upd_same, if_pos rfl, List.map_append]; rfl, hl.2⟩
  · have ne1 : y.1 ≠ x.1 := fun e => c (inj_nodup g.ndk hy hx e)
    have ne2 : y.2.2 ≠ x.2.2 := fun e => c (inj_nodup (f := fun z : Lab × Addr × Addr => z.2.2) g.ndl hy hx e)
    rw [upd_ne ne2, if_neg ne1]
    exact g.ls y hy
/-- the group dict of the pairs xs -/
def GAt (P : Program) (w : World) (K : PySem.W.Frag) (H0 H : Hp) (d : Addr) (xs : List (Lab × Int)) : Prop := ∃ gs, gs.map (·.1) = keysOf xs ∧ GA P w K H0 H d gs (look xs)
theorem GAt.start (h : H d = none) : GAt P w K H (upd H d (dN P w d [])) d [] := ⟨[], rfl, GA.start h⟩
theorem GAt.same {xs : List (Lab × Int)} (g : GAt P w K H0 H d xs) (s : Same H H') : GAt P w K H0 H' d xs := by
  obtain ⟨gs, e, g⟩ := g
  exact ⟨gs, e, g.same s⟩
theorem GAt.sm {xs : List (Lab × Int)} (g : GAt P w K H0 H d xs) : Same H0 H := by
  obtain ⟨gs, e, g⟩ := g
  exact g.sm
theorem look_fun (xs : List (Lab × Int)) (k : Lab) (n : Int) : (fun j => if j = k then look xs j ++ [n] else look xs j) = look (xs ++ [(k, n)]) := by
  funext j
  rw [look_snoc]
  by_cases h : j = k
  · rw [if_pos h, if_pos h.symm]
  · rw [if_neg h, if_neg fun e => h e.symm]
/-- the key is there: its list grows -/
theorem GAt.old {xs : List (Lab × Int)} {gs : List (Lab × Addr × Addr)} (e : gs.map (·.1) = keysOf xs) (g : GA P w K H0 H d gs (look xs)) {x : Lab × Addr × Addr} (hx : x ∈ gs) (n : Int) : GAt P w K H0 (upd H x.2.2 (.lst ((look xs x.1).map V.int ++ [.int n]))) d (xs ++ [(x.1, n)]) := by
  refine ⟨gs, ?_, ?_⟩
  · rw [keysOf_snoc, addK, if_pos, e]
    rw [← e]
    exact List.mem_map.mpr ⟨x, hx, rfl⟩
  · rw [← look_fun]
    exact g.app hx n
/-- the key was put just now: its list grows -/
theorem GAt.new {xs : List (Lab × Int)} {gs : List (Lab × Addr × Addr)} {k : Lab} {b l : Addr} (e : gs.map (·.1) = keysOf xs) (hk : k ∉ keysOf xs) (g : GA P w K H0 H d (gs ++ [(k, b, l)]) (look xs)) (n : Int) : GAt P w K H0 (upd H l (.lst [.int n])) d (xs ++ [(k, n)]) := by
  refine ⟨gs ++ [(k, b, l)], ?_, ?_⟩
  · rw [keysOf_snoc, addK, if_neg hk, List.map_append, e]
    rfl
  · rw [← look_fun]
    have q := g.app (x := (k, b, l)) (by simp) n
    rw [look_none hk] at q
    exact q
theorem ex_key {xs : List (Lab × Int)} {gs : List (Lab × Addr × Addr)} {k : Lab} (e : gs.map (·.1) = keysOf xs) (hk : k ∈ keysOf xs) : ∃ x ∈ gs, x.1 = k := by
  rw [← e] at hk
  obtain ⟨x, hx, e⟩ := List.mem_map.mp hk
  exact ⟨x, hx, e⟩
theorem get_gsV {gs : List (Lab × Addr × Addr)} (h : (gs.map (·.1)).Nodup) {x : Lab × Addr × Addr} (hx : x ∈ gs) : getG (gsV gs) x.1 = some (.ref x.2.2) := by
  have := getG_some (gs := gsV gs) (g := (x.1, x.2.1, V.ref x.2.2)) (by rw [gsV_keys]; exact h) (List.mem_map.mpr ⟨x, hx, rfl⟩)
  exact this
theorem get_gsV_none {gs : List (Lab × Addr × Addr)} {k : Lab} (h : k ∉ gs.map (·.1)) : getG (gsV gs) k = none := getG_none (by rw [gsV_keys]; exact h)
end

/-! ### sorted lists -/
theorem sort_at {K : PySem.W.Frag} {H : Hp} {α : Type} {f : α → PyData} {xs : List α} {bs : List (V × PyData)} (h : ∀ b ∈ bs, At K H b.1 b.2) (e : bs.map (·.2) = xs.map f) : AtAll K H ((bs.mergeSort leD).map (·.1)) ((xs.mergeSort (leF f)).map f) := by
  have e2 : (bs.mergeSort leD).map (·.2) = (xs.mergeSort (leF f)).map f := by
    have r1 := PySem.W.sort_maps (r := leD) (s := PySem.W.dataLe false (fun d : PyData => d)) (fun b : V × PyData => b.2) (l := bs) (fun a _ b _ => rfl)
    have r2 := PySem.W.sort_maps (r := leF f) (s := PySem.W.dataLe false (fun d : PyData => d)) f (l := xs) (fun a _ b _ => rfl)
    rw [r1, r2, e]
  rw [← e2]
  have hm : ∀ b ∈ bs.mergeSort leD, At K H b.1 b.2 := fun b hb => h b ((List.mergeSort_perm _ _).mem_iff.mp hb)
  generalize bs.mergeSort leD = l at hm
  clear e e2 h
  induction l with
  | nil => exact .nil
  | cons b l ih => exact .cons (hm b (List.mem_cons_self ..)) (ih fun c hc => hm c (List.mem_cons_of_mem _ hc))
theorem zip_at {K : PySem.W.Frag} {H : Hp} : ∀ {vs : List V} {ds : List PyData}, AtAll K H vs ds → (vs.zip ds).map (·.1) = vs ∧ (vs.zip ds).map (·.2) = ds ∧ ∀ b ∈ vs.zip ds, At K H b.1 b.2
  | _, _, .nil => ⟨rfl, rfl, fun _ h => absurd h (by simp)⟩
  | _, _, .cons h t => by
    obtain ⟨e1, e2, e3⟩ := zip_at t
    refine ⟨by rw [List.zip_cons_cons, List.map_cons, e1], by rw [List.zip_cons_cons, List.map_cons, e2], fun b hb => ?_⟩
    rw [List.zip_cons_cons] at hb
    rcases List.mem_cons.mp hb with rfl | hb
    · exact h
    · exact e3 b hb
theorem sorts_mk {K : PySem.W.Frag} {H : Hp} {α : Type} {f : α → PyData} {xs : List α} {bs : List (V × PyData)} (h : ∀ b ∈ bs, At K H b.1 b.2) (e : bs.map (·.2) = xs.map f) (al : ∀ a b, PySem.W.alike (f a) (f b) = true) (tu : ∀ a, ∃ ys, f a = .tuple ys) (dp : ∀ a, (f a).depth ≤ 60) (hl : xs.length ≤ 60000) : Sorts K H bs := by
  refine ⟨h, by rw [e]; exact PySem.W.AllAlike.of al, .inl fun d hd => ?_, fun b hb => ?_, ?_⟩
  · rw [e] at hd
    obtain ⟨a, _, rfl⟩ := List.mem_map.mp hd
    exact tu a
  · have : b.2 ∈ xs.map f := by rw [← e]; exact List.mem_map.mpr ⟨b, hb, rfl⟩
    obtain ⟨a, _, q⟩ := List.mem_map.mp this
    rw [← q]
    exact dp a
  · have : bs.length = xs.length := by
      have := congrArg List.length e
      rwa [List.length_map, List.length_map] at this
    rw [this]
    exact Nat.le_trans hl (by decide)
/-- the keys of a group dict, to be sorted -/
theorem GAt.sorts {P : Program} {w : World} {K : PySem.W.Frag} {H0 H : Hp} {d : Addr} {gs : List (Lab × Addr × Addr)} {xs : List (Lab × Int)} (e : gs.map (·.1) = keysOf xs) (g : GA P w K H0 H d gs (look xs)) (hl : xs.length ≤ 60000) :
    ∃ bs : List (V × PyData), ((enG encL (gsV gs)).map fun p => V.ref p.2.1) = bs.map (·.1) ∧ Sorts K H bs ∧ AtAll K H ((bs.mergeSort leD).map (·.1)) ((sortL (keysOf xs)).map encL) := by
  refine ⟨gs.map fun x => (V.ref x.2.1, encL x.1), ?_, ?_, ?_⟩
  · unfold enG gsV
    rw [List.map_map, List.map_map, List.map_map]
    rfl
  · refine sorts_mk (f := encL) (xs := keysOf xs) (fun b hb => ?_) (by rw [← e, List.map_map, List.map_map]; rfl) alike_L (fun a => ⟨_, rfl⟩) (fun a => Nat.le_trans (depth_L a) (by decide)) (Nat.le_trans (length_keysOf xs) hl)
    obtain ⟨x, hx, rfl⟩ := List.mem_map.mp hb
    exact g.dat.keys (x.1, x.2.1, .ref x.2.2) (List.mem_map.mpr ⟨x, hx, rfl⟩)
  · refine sort_at (fun b hb => ?_) (by rw [← e, List.map_map, List.map_map]; rfl)
    obtain ⟨x, hx, rfl⟩ := List.mem_map.mp hb
    exact g.dat.keys (x.1, x.2.1, .ref x.2.2) (List.mem_map.mpr ⟨x, hx, rfl⟩)
end L2.Q9


set_option Elab.async false
set_option linter.all false
set_option maxRecDepth 100000
set_option maxHeartbeats 4000000
/-! Q9: windows. -/
namespace L2.Q9
open PySem PySem.Spec PyProof.Rows

/-! ### the rules, their program, world, written part told -/
section
variable {X : Cx} {P : Program} {w : World} {K : PySem.W.Frag}
theorem x_get {o i : Expr} {pos : Pos} {td ty : TE} (eP : X.prog = P) (ew : X.w = w) (eK : X.K = K) (hu : X.A.units + 64 < cLine) (ho : PE X o td) (hi : PE X i ty) (hs : NoSl i) : PE X (.Subscript o i pos) (tOp (rGetN P w K) td ty) := by
  subst eP ew eK
  exact pe_getN hu ho hi hs
theorem x_in (eP : X.prog = P) (ew : X.w = w) (eK : X.K = K) (hu : X.A.units + 64 < cLine) : OpR X (compareOp .In) (rInN P w K false) := by
  subst eP ew eK
  exact op_inN hu
theorem x_notIn (eP : X.prog = P) (ew : X.w = w) (eK : X.K = K) (hu : X.A.units + 64 < cLine) : OpR X (compareOp .NotIn) (rInN P w K true) := by
  subst eP ew eK
  exact op_notInN hu
theorem x_set (eP : X.prog = P) (ew : X.w = w) (eK : X.K = K) (hu : X.A.units + 64 < cLine) : PSet X (rSetN P w K) := by
  subst eP ew eK
  exact set_dN hu
theorem x_new {pos : Pos} (eP : X.prog = P) (ew : X.w = w) : PE X (.Dict [] [] pos) (tNewN P w) := by
  subst eP ew
  exact pe_newN
theorem x_sortD (eP : X.prog = P) (ew : X.w = w) (eK : X.K = K) (hu : X.A.units + 64 < cLine) (hc : X.calm = true) : CallR X (.builtin "sorted") (rSortD P w K) := by
  subst eP ew eK
  exact cr_sortD hu hc
theorem x_sortL (eK : X.K = K) (hu : X.A.units + 64 < cLine) : CallR X (.builtin "sorted") (rSortL K) := by
  subst eK
  exact cr_sortL hu
end
theorem rd_snoc (view : List Smp) (s : Smp) (metric : Str) (ms : List Mat) (width time : Int) : rd (view ++ [s]) metric ms width time = if isRead metric ms width time s = true then rd view metric ms width time ++ [(bare s.1, s.2.2)] else rd view metric ms width time := by
  unfold rd
  rw [List.filter_append, List.map_append]
  by_cases h : isRead metric ms width time s = true
  · rw [if_pos h, List.filter_cons_of_pos h]
    rfl
  · rw [if_neg h, List.filter_cons_of_neg h]
    simp
theorem rd_len (view : List Smp) (metric : Str) (ms : List Mat) (width time : Int) : (rd view metric ms width time).length ≤ view.length := by
  unfold rd
  rw [List.length_map]
  exact List.length_filter_le _ _
theorem bare_len (l : Lab) : (bare l).length ≤ l.length := List.length_filter_le _ _
/-- a view stands at a -/
def ViewAt (K : PySem.W.Frag) (H : Hp) (a : Addr) (view : List Smp) : Prop := ∃ vs, SqL K H a vs ∧ AtAll K H vs (view.map encS)
theorem ViewAt.same {K : PySem.W.Frag} {H H' : Hp} {a : Addr} {view : List Smp} (h : ViewAt K H a view) (s : Same H H') : ViewAt K H' a view := by
  obtain ⟨vs, h1, h2⟩ := h
  exact ⟨vs, s.seq h1, h2.same s⟩
/-- a vector stands at a -/
def VecAt (K : PySem.W.Frag) (H : Hp) (a : Addr) (v : Vec) : Prop := ∃ vs, H a = some (.lst vs) ∧ AtAll K H vs (v.map encP)
theorem VecAt.same {K : PySem.W.Frag} {H H' : Hp} {a : Addr} {v : Vec} (h : VecAt K H a v) (s : Same H H') : VecAt K H' a v := by
  obtain ⟨vs, h1, h2⟩ := h
  exact ⟨vs, s _ _ h1, h2.same s⟩
/-- labels and lists of what was read -/
def WinAt (K : PySem.W.Frag) (H : Hp) (a : Addr) (xs : List (Lab × Int)) : Prop := ∃ vs, H a = some (.lst vs) ∧ vs.length = (sortL (keysOf xs)).length ∧
  ∀ (i : Nat) (k : Lab) (v : V), (sortL (keysOf xs))[i]? = some k → vs[i]? = some v → ∃ t b l, v = .ref t ∧ H t = some (.tup [b, .ref l]) ∧ At K H b (encL k) ∧ H l = some (.lst ((look xs k).map V.int))
theorem few63 {n : Nat} (h : n ≤ 60000) : n < sizeLine := Nat.lt_of_le_of_lt h (by decide)
section
variable {P : Program} {w : World} {K : PySem.W.Frag} {mg : Str → Option Value} {base : Heap}

/-! ### is_read -/
abbrev s16 : Stmt := topS 16
theorem sc16 : FnScope ["metric", "matchers", "width", "time", "sample"] ["metric", "matchers", "width", "time", "sample"] (defScope s16) := ⟨rfl, rfl, rfl, by decide +kernel, rfl, by decide +kernel, by decide +kernel⟩

def spIsRead (K : PySem.W.Frag) : Sp := fun vs H Q _ => ∃ metric m ms width time x s, vs = [.str metric, m, .int width, .int time, x] ∧ At K H m (.tuple (ms.map encM)) ∧ At K H x (encS s) ∧ Q (.bl (isRead metric ms width time s)) H
theorem ok16 {f f2 f6 : Addr} {fd fd2 fd6 : FuncData} (F : Fun K "is_read" "is_read" s16 f fd) (G2 : FnOk P w K mg base CX0 1 f2 fd2 ["labels", "name"] (spValueOf K)) (k2 : PySem.W.keepIn K (.ref f2) = true) (b2 : Binds K fd2 ["labels", "name"] []) (m2 : mg "value_of" = some (.ref f2))
    (G6 : FnOk P w K mg base CX0 3 f6 fd6 ["matchers", "labels"] (spMatchesAll K)) (k6 : PySem.W.keepIn K (.ref f6) = true) (b6 : Binds K fd6 ["matchers", "labels"] []) (m6 : mg "matches_all" = some (.ref f6)) : FnOk P w K mg base CX0 4 f fd ["metric", "matchers", "width", "time", "sample"] (spIsRead K) := by
  refine F.ok sc16 (fun vs H Q E h => ?_) (fun cdv A outer s H vs Q E hr h => ?_)
  · obtain ⟨metric, m, ms, width, time, x, s, rfl, _⟩ := h
    rfl
  obtain ⟨metric, m, ms, width, time, x, s, rfl, hm, hx, q⟩ := h
  refine ⟨_, pss_cons (ps_if (pt_not (pt_chain op_lt op_le (pe_op op_sub (pv 3) (pv 2)) (pe_ix ix_tup (pv 4) pe_int (fun _ _ => rfl)) (pv 3))) (pss_one (ps_ret pe_bl)) pss_nil)
    (pss_one (ps_ret (pe_and (pe_cmpR op_eq (pe_call G2 (hr.mono (by decide)) rfl m2 k2 b2 .nil pass0 (pa_cons (pe_ix ix_tup (pv 4) pe_int (fun _ _ => rfl)) (pa_cons pe_str pa_nil))) (pv 0) (nomark _)) (pe_one (pe_call G6 hr rfl m6 k6 b6 .nil pass0 (pa_cons (pv 1) (pa_cons (pe_ix ix_tup (pv 4) pe_int (fun _ _ => rfl)) pa_nil))))))), ?_⟩
  obtain ⟨a, y, rfl, hS, hy⟩ := hx.S
  unfold isRead inTime at q
  have tail : ∀ b : Bool, (b = true → Q (.bl (decide (valOf s.1 sMetric = metric) && matchesAll ms s.1)) H) → b = true → tRet (tAndV (tOp rEq (tCall (spValueOf K) [] E0 (tCons (tOp (rIxT K) (tVar 4) (tC (.int 0))) (tCons (tC (.str sMetric)) tNil))) (tVar 0)) (tCall (spMatchesAll K) [] E0 (tCons (tVar 1) (tCons (tOp (rIxT K) (tVar 4) (tC (.int 0))) tNil)))) { nx := fun _ H' => Q .non H', rt := Q } [some (.str metric), some m, some (.int width), some (.int time), some (.ref a)] H := by
    intro b hq hb
    refine ⟨_, rfl, a, _, 0, _, rfl, rfl, hS, rfl, y, s.1, sMetric, rfl, hy, _, rfl, rfl, _, rfl, iteB (fun e => ?_) (fun e => ?_)⟩
    · rw [decStr] at e
      have q' := hq hb
      rw [e, Bool.true_and] at q'
      exact ⟨_, rfl, _, rfl, a, _, 0, _, rfl, rfl, hS, rfl, m, y, ms, s.1, rfl, hm, hy, q'⟩
    · rw [decStr] at e
      have q' := hq hb
      rw [e, Bool.false_and] at q'
      exact q'
  refine ⟨_, rfl, _, rfl, time, width, rfl, rfl, _, rfl, a, _, 1, _, rfl, rfl, hS, rfl, _, _, rfl, rfl, _, rfl, iteB (fun e => ?_) (fun e => ?_)⟩
  · have e' : decide (time - width < s.2.1) = true := e
    rw [e', Bool.true_and] at q
    refine ⟨_, rfl, _, _, rfl, rfl, _, rfl, iteB (fun e2 => ?_) (fun e2 => ?_)⟩
    · have e3 : decide (s.2.1 ≤ time) = false := by simpa using e2
      rw [e3, Bool.false_and] at q
      exact q
    · have e3 : decide (s.2.1 ≤ time) = true := by simpa using e2
      rw [e3, Bool.true_and] at q
      exact tail true (fun _ => q) rfl
  · have e' : decide (time - width < s.2.1) = false := e
    rw [e', Bool.false_and, Bool.false_and] at q
    exact ⟨_, rfl, q⟩

/-! ### windows -/
abbrev s17 : Stmt := topS 17
theorem sc17 : FnScope ["view", "metric", "matchers", "width", "time", "found", "sample", "labels"] ["view", "metric", "matchers", "width", "time"] (defScope s17) := ⟨rfl, rfl, rfl, by decide +kernel, rfl, by decide +kernel, by decide +kernel⟩

def spWindows (K : PySem.W.Frag) : Sp := fun vs H Q _ => ∃ va view metric m ms width time, vs = [.ref va, .str metric, m, .int width, .int time] ∧ ViewAt K H va view ∧ view.length ≤ 63 ∧ (∀ s ∈ view, s.1.length ≤ 20) ∧ At K H m (.tuple (ms.map encM)) ∧
  ∀ p H', Same H H' → H p = none → WinAt K H' p (rd view metric ms width time) → Q (.ref p) H'
theorem ok17 {f f16 f3 : Addr} {fd fd16 fd3 : FuncData} (F : Fun K "windows" "windows" s17 f fd) (G16 : FnOk P w K mg base CX0 4 f16 fd16 ["metric", "matchers", "width", "time", "sample"] (spIsRead K)) (k16 : PySem.W.keepIn K (.ref f16) = true) (b16 : Binds K fd16 ["metric", "matchers", "width", "time", "sample"] []) (m16 : mg "is_read" = some (.ref f16))
    (G3 : FnOk P w K mg base CX0 1 f3 fd3 ["labels", "names"] (spWithout K)) (k3 : PySem.W.keepIn K (.ref f3) = true) (b3 : Binds K fd3 ["labels", "names"] []) (m3 : mg "without" = some (.ref f3)) (msrt : mg "sorted" = none) : FnOk P w K mg base CX0 5 f fd ["view", "metric", "matchers", "width", "time"] (spWindows K) := by
  refine F.ok sc17 (fun vs H Q E h => ?_) (fun cdv A outer s H vs Q E hr h => ?_)
  · obtain ⟨va, view, metric, m, ms, width, time, rfl, _⟩ := h
    rfl
  obtain ⟨va, view, metric, m, ms, width, time, rfl, ⟨vvs, hV, hVA⟩, h63, hsh, hm, q⟩ := h
  have hu := hr.units
  refine ⟨_, pss_cons (ps_set (i := 5) sc17.nd rfl (Or.inr rfl) (x_new (P := P) (w := w) rfl rfl))
    (pss_cons (ps_for PassesOwn.never rfl (pi_list (pv 0)) (pg_name (i := 6) sc17.nd rfl (Or.inl rfl)) (pss_one (ps_if (pt_val (pe_call G16 hr rfl m16 k16 b16 .nil pass0 (pa_cons (pv 1) (pa_cons (pv 2) (pa_cons (pv 3) (pa_cons (pv 4) (pa_cons (pv 6) pa_nil)))))))
      (pss_cons (ps_set (i := 7) sc17.nd rfl (Or.inl rfl) (pe_call G3 (hr.mono (by decide)) rfl m3 k3 b3 .nil pass0 (pa_cons (pe_ix ix_tup (pv 6) pe_int (fun _ _ => rfl)) (pa_cons (pe_lst (pa_cons pe_str pa_nil)) pa_nil))))
      (pss_cons (ps_if (pt_cmpR (x_notIn (P := P) (w := w) (K := K) rfl rfl rfl hu) (pv 7) (pv 5) (by rfl)) (pss_one (ps_asg (pe_lst pa_nil) (pg_sub (pv 5) (pv 7) (x_set (P := P) (w := w) (K := K) rfl rfl rfl hu)))) pss_nil)
      (pss_one (ps_expr (pe_bm PySem.F.plainAttrs_list PySem.F.slot_list_append PySem.F.type_list_append mt_append (x_get (P := P) (w := w) (K := K) rfl rfl rfl hu (pv 5) (pv 7) (fun _ _ => rfl)) (pa_cons (pe_ix ix_tup (pv 6) pe_int (fun _ _ => rfl)) pa_nil))))))
      pss_nil)))
    (pss_one (ps_ret (pe_lc (own := [("labels", 7)]) (g := gName 7) (by rfl) sc17.nd (pi_list (pe_callB (x_sortD (P := P) (w := w) (K := K) rfl rfl rfl hu rfl) (by rfl) msrt boot_sorted (pa_cons (pv 5) pa_nil))) (blkOk_by (own := [("labels", 7)]) (N := ["view", "metric", "matchers", "width", "time", "found", "sample", "labels"]) (sc := defScope s17) (by decide +kernel))
      (fun _ _ _ _ _ => pg_name (i := 7) sc17.nd rfl (Or.inl rfl)) (fun _ _ _ _ _ => pts_nil) (fun _ _ _ _ _ => pe_tup (pa_cons (pv 7) (pa_cons (x_get (P := P) (w := w) (K := K) rfl rfl rfl hu (pv 5) (pv 7) (fun _ _ => rfl)) pa_nil))))))), ?_⟩
  -- {}
  refine fun d hd => ?_
  refine ⟨_, rfl, va, rfl, ⟨_, (same_new hd _).seq hV⟩, for_list (xs := vvs) (fun i σ H' => (∃ y z, σ = [some (.ref va), some (.str metric), some m, some (.int width), some (.int time), some (.ref d), y, z]) ∧ GAt P w K H H' d (rd (view.take i) metric ms width time)) ⟨⟨none, none, rfl⟩, GAt.start hd⟩ (fun i σ H' _ p => p.2.sm.seq hV) (fun i x σ H' hx p => ?_) (fun σ H' p => ?_)⟩
  · obtain ⟨⟨y, z, rfl⟩, hG⟩ := p
    obtain ⟨smp, hp, hA⟩ := hVA.mget hx
    have hA := hA.same hG.sm
    obtain ⟨sa, lv, rfl, hS, hL⟩ := hA.S
    have hsl := hsh smp (List.mem_of_getElem? hp)
    have step : rd (view.take (i + 1)) metric ms width time = if isRead metric ms width time smp = true then rd (view.take i) metric ms width time ++ [(bare smp.1, smp.2.2)] else rd (view.take i) metric ms width time := by rw [takex hp, rd_snoc]
    have few : (rd (view.take i) metric ms width time).length ≤ 63 := by
      have h1 := rd_len (view.take i) metric ms width time
      rw [List.length_take] at h1
      omega
    refine ⟨_, rfl, _, rfl, _, rfl, _, rfl, _, rfl, metric, m, ms, width, time, .ref sa, smp, rfl, hm.same hG.sm, hA, _, rfl, iteB (fun e => ?_) (fun e => ?_)⟩
    · rw [if_pos e] at step
      -- labels = without(sample[0], ["metric"])
      refine ⟨_, rfl, sa, _, 0, _, rfl, rfl, hS, rfl, (by show 1 ≤ sizeLine; decide), fun l0 hl0 => ?_⟩
      refine ⟨lv, smp.1, l0, rfl, hL.same (same_new hl0 _), by omega, SqL.of upd_same, fun kb H2 sm2 nkb hkb => ?_⟩
      have sm02 : Same H' H2 := (same_new hl0 _).trans sm2
      obtain ⟨gs, ek, g⟩ := hG.same sm02
      have kAt := key_mk kfL hkb
      have hS2 := Same.seqT sm02 hS
      refine ⟨_, rfl, _, rfl, d, _, kb, _, rfl, rfl, g.dat.at_, g.dat.ks kfL, kAt, _, rfl, iteB (fun e1 => ?_) (fun e1 => ?_)⟩
      · -- a new key
        have nk : bare smp.1 ∉ keysOf (rd (view.take i) metric ms width time) := fun hk => by
          obtain ⟨x0, hx0, ex0⟩ := ex_key ek hk
          have q1 := get_gsV g.ndk hx0
          rw [ex0] at q1
          have e2 : (!(atE (enG encL (gsV gs)) (Q9.nk (encL (bare smp.1)))).isSome) = true := e1
          rw [atE_G kfL, q1] at e2
          cases e2
        have nkg : bare smp.1 ∉ gs.map (·.1) := by rw [ek]; exact nk
        refine ⟨Nat.zero_le _, fun l hl => ?_⟩
        have sm3 : Same H2 (upd H2 l (.lst [])) := same_new hl _
        have g3 := g.same sm3
        refine ⟨_, rfl, _, rfl, d, _, kb, _, rfl, rfl, g3.dat.at_, g3.dat.ks kfL, kAt.keep (Kt.of sm3), ?_, ?_⟩
        · rw [enG_len, List.length_map]
          have : gs.length = (keysOf (rd (view.take i) metric ms width time)).length := by rw [← ek, List.length_map]
          have := length_keysOf (rd (view.take i) metric ms width time)
          exact few63 (by omega)
        have an : atE (enG encL (gsV gs)) (Q9.nk (encL (bare smp.1))) = none := by rw [atE_G kfL]; exact get_gsV_none nkg
        rw [putE_new an]
        have h0l : H l = none := (g.sm).free hl
        have fresh : ∀ x ∈ gs, x.2.2 ≠ l := fun x hx z => by
          have := (g.ls x hx).1
          rw [z, hl] at this
          cases this
        have g4 := g3.put (k := bare smp.1) (b := kb) (l := l) nkg (hkb.same sm3) upd_same h0l fresh (look_none nk)
        -- found[labels].append(sample[2])
        have kt4 : Kt (upd H2 l (.lst [])) (upd (upd H2 l (.lst [])) d (dN P w d (enG encL (gsV gs) ++ [(Q9.nk (encL (bare smp.1)), kb, .ref l)]))) := Kt.ext g3.dat.at_
        have hS4 : SqT K (upd (upd H2 l (.lst [])) d (dN P w d (enG encL (gsV gs) ++ [(Q9.nk (encL (bare smp.1)), kb, .ref l)]))) sa _ := kt4.seqT (Same.seqT sm3 hS2)
        have at4 := g4.dat.at_
        have hl4 := (g4.ls (bare smp.1, kb, l) (by simp)).1
        rw [look_none nk] at hl4
        have got : getG (gsV (gs ++ [(bare smp.1, kb, l)])) (bare smp.1) = some (.ref l) := get_gsV (x := (bare smp.1, kb, l)) g4.ndk (by simp)
        refine ⟨_, rfl, _, rfl, d, _, kb, _, .ref l, rfl, rfl, at4, g4.dat.ks kfL, (kAt.keep (Kt.of sm3)).keep kt4, ?_, .inl ⟨rfl, _, SqL.of hl4⟩, ?_⟩
        · rw [atE_G kfL]
          exact got
        refine ⟨_, rfl, sa, _, 2, _, rfl, rfl, hS4, rfl, l, [], _, rfl, rfl, hl4, (by show 0 < sizeLine; decide), ⟨_, _, rfl⟩, ?_⟩
        rw [step]
        exact GAt.new ek nk g4 smp.2.2
      · -- the key is there
        have hk : bare smp.1 ∈ keysOf (rd (view.take i) metric ms width time) := by
          by_cases c : bare smp.1 ∈ keysOf (rd (view.take i) metric ms width time)
          · exact c
          · have e2 : (!(atE (enG encL (gsV gs)) (Q9.nk (encL (bare smp.1)))).isSome) = false := e1
            rw [atE_G kfL, get_gsV_none (by rw [ek]; exact c)] at e2
            cases e2
        obtain ⟨x0, hx0, ex0⟩ := ex_key ek hk
        have got := get_gsV g.ndk hx0
        rw [ex0] at got
        have hl4 := (g.ls x0 hx0).1
        refine ⟨_, rfl, _, rfl, d, _, kb, _, .ref x0.2.2, rfl, rfl, g.dat.at_, g.dat.ks kfL, kAt, ?_, .inl ⟨rfl, _, SqL.of hl4⟩, ?_⟩
        · rw [atE_G kfL]
          exact got
        refine ⟨_, rfl, sa, _, 2, _, rfl, rfl, hS2, rfl, x0.2.2, _, _, rfl, rfl, hl4, ?_, ⟨_, _, rfl⟩, ?_⟩
        · rw [List.length_map]
          have := look_len (rd (view.take i) metric ms width time) x0.1
          exact few63 (by omega)
        rw [step, ← ex0]
        exact GAt.old ek g hx0 smp.2.2
    · rw [if_neg (by rw [e]; simp)] at step
      rw [step]
      exact ⟨⟨_, _, rfl⟩, hG⟩
  · obtain ⟨⟨y, z, rfl⟩, hG⟩ := p
    have len := hVA.mlen
    rw [len, List.take_length] at hG
    obtain ⟨gs, ek, g⟩ := hG
    have few : (rd view metric ms width time).length ≤ 63 := Nat.le_trans (rd_len view metric ms width time) h63
    obtain ⟨bs, e1, S, rAll⟩ := GAt.sorts ek g (by omega)
    refine ⟨_, rfl, d, _, bs, rfl, g.dat.at_, g.dat.ks kfL, e1, S, fun srt hsrt => ?_⟩
    have smS := same_new hsrt (HO.lst ((bs.mergeSort leD).map (·.1)))
    refine ⟨srt, rfl, ⟨_, SqL.of upd_same⟩, fun D hD => ?_⟩
    generalize hH1 : upd H' srt (HO.lst ((bs.mergeSort leD).map (·.1))) = H1 at smS hD
    have hsr1 : H1 srt = some (.lst ((bs.mergeSort leD).map (·.1))) := by rw [← hH1, upd_same]
    have rA1 := rAll.same smS
    have g1 := g.same smS
    refine lc_list (xs := (bs.mergeSort leD).map (·.1)) (fun i H2 => Same H1 H2 ∧ ∃ acc, H2 D = some (.lst acc) ∧ acc.length = i ∧ ∀ (j : Nat) (k : Lab) (v : V), (sortL (keysOf (rd view metric ms width time)))[j]? = some k → acc[j]? = some v → ∃ t b l, v = .ref t ∧ H2 t = some (.tup [b, .ref l]) ∧ At K H2 b (encL k) ∧ H1 l = some (.lst ((look (rd view metric ms width time) k).map V.int)))
      ⟨same_new hD _, [], upd_same, rfl, fun j k v _ e => by simp at e⟩ (fun i H2 _ p => .inl (.inl (p.1 _ _ hsr1))) (fun i x H2 hx p => ?_) (fun H2 p => ?_)
    · obtain ⟨sm, acc, hacc, la, hall⟩ := p
      obtain ⟨k, hk, hA⟩ := rA1.mget hx
      have hk0 : k ∈ keysOf (rd view metric ms width time) := (List.mergeSort_perm _ _).mem_iff.mp (List.mem_of_getElem? hk)
      obtain ⟨x0, hx0, ex0⟩ := ex_key ek hk0
      have g2 := g1.same sm
      have hA2 := hA.same sm
      obtain ⟨kb, _, rfl, _⟩ := hA2.tup_of
      have got := get_gsV g2.ndk hx0
      rw [ex0] at got
      refine ⟨rfl, _, rfl, _, rfl, _, rfl, d, _, kb, _, .ref x0.2.2, rfl, rfl, g2.dat.at_, g2.dat.ks kfL, key_mk kfL hA2, ?_, (by show 2 ≤ sizeLine; decide), fun t ht => ?_⟩
      · rw [atE_G kfL]
        exact got
      have smt := same_new ht (HO.tup [V.ref kb, V.ref x0.2.2])
      have hacc' := smt _ _ hacc
      refine ⟨acc, hacc', by rw [la]; exact few63 (by have := lt_of_get hk; rw [List.length_mergeSort] at this; have := length_keysOf (rd view metric ms width time); omega), Same.mut (sm.trans smt) hD, acc ++ [.ref t], upd_same, by rw [List.length_append, la]; rfl, fun j k' v' e1 e2 => ?_⟩
      have kt := Kt.lst (o := HO.lst (acc ++ [V.ref t])) hacc'
      by_cases c : j < acc.length
      · rw [List.getElem?_append_left c] at e2
        obtain ⟨t', b', l', rfl, h1, h2, h3⟩ := hall j k' v' e1 e2
        exact ⟨t', b', l', rfl, kt.tup _ _ (smt _ _ h1), (h2.same smt).keep kt, h3⟩
      · have ej : j = acc.length := by
          have := lt_of_get e2
          rw [List.length_append, List.length_singleton] at this
          omega
        rw [ej, la, hk] at e1
        cases e1
        rw [ej, List.getElem?_concat_length] at e2
        cases e2
        exact ⟨t, .ref kb, x0.2.2, rfl, kt.tup _ _ upd_same, (hA2.same smt).keep kt, by rw [← ex0]; exact (g1.ls x0 hx0).1⟩
    · obtain ⟨sm, acc, hacc, la, hall⟩ := p
      have lk : (bs.mergeSort leD).length = (sortL (keysOf (rd view metric ms width time))).length := by
        have := rA1.mlen
        rwa [List.length_map] at this
      rw [List.length_map, lk] at la
      refine q D H2 ((g.sm.trans smS).trans sm) ((g.sm.trans smS).free hD) ⟨acc, hacc, la, fun j k v e1 e2 => ?_⟩
      obtain ⟨t', b', l', rfl, h1, h2, h3⟩ := hall j k v e1 e2
      exact ⟨t', b', l', rfl, h1, h2, sm _ _ h3⟩

end
end L2.Q9


set_option Elab.async false
set_option linter.all false
set_option maxRecDepth 100000
set_option maxHeartbeats 4000000
/-! Q9: functions of windows. -/
namespace L2.Q9
open PySem PySem.Spec PyProof.Rows

theorem ints_at {ns : List Int} {j : Nat} {z : Int} (h : j < ns.length) (e : z = (j : Int)) : atI (ns.map V.int) z = some (.int (ns.getD j 0)) := by
  refine at_of e ?_
  rw [List.getElem?_map, List.getElem?_eq_getElem h, List.getD_eq_getElem?_getD, List.getElem?_eq_getElem h]
  rfl
theorem ints_last {ns : List Int} (h : ns ≠ []) : atI (ns.map V.int) (-1) = some (.int (lastI ns)) := by
  obtain ⟨i, x, rfl⟩ : ∃ i x, ns = i ++ [x] := ⟨ns.dropLast, ns.getLast h, (List.dropLast_concat_getLast h).symm⟩
  have e : lastI (i ++ [x]) = x := by
    unfold lastI
    rw [List.length_append, List.length_singleton, Nat.add_sub_cancel, List.getD_eq_getElem?_getD, List.getElem?_concat_length]
    rfl
  rw [e, List.map_append]
  exact atI_last _ _
theorem pos_of_ne {ns : List Int} (h : ns ≠ []) : 0 < ns.length := List.length_pos_iff.mpr h
section
variable {P : Program} {w : World} {K : PySem.W.Frag} {mg : Str → Option Value} {base : Heap}

/-! ### increase -/
abbrev s18 : Stmt := topS 18
theorem sc18 : FnScope ["values", "total", "at"] ["values"] (defScope s18) := ⟨rfl, rfl, rfl, by decide +kernel, rfl, by decide +kernel, by decide +kernel⟩

def spInc (K : PySem.W.Frag) : Sp := fun vs H Q _ => ∃ a ns, vs = [.ref a] ∧ SqL K H a (ns.map V.int) ∧ ns.length ≤ 60000 ∧ Q (.int (inc ns)) H
theorem ok18 {f : Addr} {fd : FuncData} (F : Fun K "increase" "increase" s18 f fd) (ml : mg "len" = none) (mr : mg "range" = none) : FnOk P w K mg base CX0 1 f fd ["values"] (spInc K) := by
  refine F.ok sc18 (fun vs H Q E h => ?_) (fun cdv A outer s H vs Q E hr h => ?_)
  · obtain ⟨a, ns, rfl, _⟩ := h
    rfl
  obtain ⟨a, ns, rfl, hS, hl, q⟩ := h
  refine ⟨_, pss_cons (ps_set (i := 1) sc18.nd rfl (Or.inl rfl) pe_int)
    (pss_cons (ps_for PassesOwn.never rfl (pi_range2 (by rfl) mr (pa_cons pe_int (pa_cons (pe_callB call_len_seq (by rfl) ml boot_len (pa_cons (pv 0) pa_nil)) pa_nil))) (pg_name (i := 2) sc18.nd rfl (Or.inl rfl))
      (pss_one (ps_if (pt_cmpR op_ge (pe_ix ix_list (pv 0) (pv 2) (fun _ _ => rfl)) (pe_ix ix_list (pv 0) (pe_op op_sub (pv 2) pe_int) (fun _ _ => rfl)) (nomark _))
        (pss_one (ps_set (i := 1) sc18.nd rfl (Or.inl rfl) (pe_op op_sub (pe_op op_add (pv 1) (pe_ix ix_list (pv 0) (pv 2) (fun _ _ => rfl))) (pe_ix ix_list (pv 0) (pe_op op_sub (pv 2) pe_int) (fun _ _ => rfl)))))
        (pss_one (ps_set (i := 1) sc18.nd rfl (Or.inl rfl) (pe_op op_add (pv 1) (pe_ix ix_list (pv 0) (pv 2) (fun _ _ => rfl)))))))) 
    (pss_one (ps_ret (pv 1)))), ?_⟩
  have ln : (ns.map V.int).length = ns.length := List.length_map _
  refine ⟨_, rfl, a, _, rfl, .inl hS, 1, _, rfl, ⟨by decide, by decide, by omega, by omega⟩, for_range (fun i σ H' => H' = H ∧ ∃ y, σ = [some (.ref a), some (.int (incN ns i)), y]) ⟨rfl, none, rfl⟩ (fun i σ H' hi p => ?_) (fun σ H' p => ?_)⟩
  · obtain ⟨rfl, y, rfl⟩ := p
    rw [ln] at hi
    have i1 : i + 1 < ns.length := by omega
    have a1 : atI (ns.map V.int) (1 + (i : Int)) = some (.int (ns.getD (i + 1) 0)) := ints_at i1 (by omega)
    have a0 : atI (ns.map V.int) (1 + (i : Int) - 1) = some (.int (ns.getD i 0)) := ints_at (by omega) (by omega)
    refine ⟨_, rfl, _, rfl, a, _, _, _, rfl, rfl, hS, a1, _, rfl, _, rfl, _, _, rfl, rfl, a, _, _, _, rfl, rfl, hS, a0, _, _, rfl, rfl, _, rfl, iteB (fun e => ?_) (fun e => ?_)⟩
    · have e' : ns.getD i 0 ≤ ns.getD (i + 1) 0 := of_decide_eq_true e
      refine ⟨_, rfl, _, rfl, _, rfl, a, _, _, _, rfl, rfl, hS, a1, _, _, rfl, rfl, _, rfl, _, rfl, _, _, rfl, rfl, a, _, _, _, rfl, rfl, hS, a0, _, _, rfl, rfl, rfl, some (.int (1 + (i : Int))), ?_⟩
      have z : incN ns (i + 1) = incN ns i + ns.getD (i + 1) 0 - ns.getD i 0 := by
        rw [incN, stp, if_pos (show ns.getD (i + 1) 0 ≥ ns.getD i 0 from e')]
        omega
      rw [z]
      rfl
    · have e' : ¬ ns.getD i 0 ≤ ns.getD (i + 1) 0 := of_decide_eq_false e
      refine ⟨_, rfl, _, rfl, _, rfl, a, _, _, _, rfl, rfl, hS, a1, _, _, rfl, rfl, rfl, some (.int (1 + (i : Int))), ?_⟩
      have z : incN ns (i + 1) = incN ns i + ns.getD (i + 1) 0 := by
        rw [incN, stp, if_neg (show ¬ ns.getD (i + 1) 0 ≥ ns.getD i 0 from e')]
      rw [z]
      rfl
  · obtain ⟨rfl, y, rfl⟩ := p
    have z : (((ns.map V.int).length : Int) - 1).toNat = ns.length - 1 := by
      rw [ln]
      omega
    rw [z]
    exact ⟨_, rfl, q⟩

/-! ### over -/
abbrev s19 : Stmt := topS 19
theorem sc19 : FnScope ["word", "values"] ["word", "values"] (defScope s19) := ⟨rfl, rfl, rfl, by decide +kernel, rfl, by decide +kernel, by decide +kernel⟩

def spOver (K : PySem.W.Frag) : Sp := fun vs H Q _ => ∃ wd a ns, vs = [.str wd, .ref a] ∧ SqL K H a (ns.map V.int) ∧ ns ≠ [] ∧ ns.length ≤ 60000 ∧ ∀ H', Same H H' → Q (.int (ovr wd ns)) H'
theorem ok19 {f f18 : Addr} {fd fd18 : FuncData} (F : Fun K "over" "over" s19 f fd) (G18 : FnOk P w K mg base CX0 1 f18 fd18 ["values"] (spInc K)) (k18 : PySem.W.keepIn K (.ref f18) = true) (b18 : Binds K fd18 ["values"] []) (m18 : mg "increase" = some (.ref f18))
    (ml : mg "len" = none) (msum : mg "sum" = none) (mmin : mg "min" = none) (mmax : mg "max" = none) : FnOk P w K mg base CX0 2 f fd ["word", "values"] (spOver K) := by
  refine F.ok sc19 (fun vs H Q E h => ?_) (fun cdv A outer s H vs Q E hr h => ?_)
  · obtain ⟨wd, a, ns, rfl, _⟩ := h
    rfl
  obtain ⟨wd, a, ns, rfl, hS, hne, hl, q⟩ := h
  refine ⟨_, pss_cons (ps_if (pt_cmpR op_eq (pv 0) pe_str (nomark _)) (pss_one (ps_ret (pe_callB (cr_sum rfl) (by rfl) msum boot_sum (pa_cons (pv 1) pa_nil)))) pss_nil)
    (pss_cons (ps_if (pt_cmpR op_eq (pv 0) pe_str (nomark _)) (pss_one (ps_ret (pe_callB (cr_min rfl) (by rfl) mmin (by decide +kernel) (pa_cons (pv 1) pa_nil)))) pss_nil)
    (pss_cons (ps_if (pt_cmpR op_eq (pv 0) pe_str (nomark _)) (pss_one (ps_ret (pe_callB (cr_max rfl) (by rfl) mmax (by decide +kernel) (pa_cons (pv 1) pa_nil)))) pss_nil)
    (pss_cons (ps_if (pt_cmpR op_eq (pv 0) pe_str (nomark _)) (pss_one (ps_ret (pe_callB call_len_seq (by rfl) ml boot_len (pa_cons (pv 1) pa_nil)))) pss_nil)
    (pss_cons (ps_if (pt_cmpR op_eq (pv 0) pe_str (nomark _)) (pss_one (ps_ret (pe_ix ix_list (pv 1) (pe_un un_neg pe_int) (fun _ _ => rfl)))) pss_nil)
    (pss_one (ps_ret (pe_call G18 hr rfl m18 k18 b18 .nil pass0 (pa_cons (pv 1) pa_nil)))))))), ?_⟩
  have q := q H (Same.refl H)
  unfold ovr at q
  refine ⟨_, rfl, rfl, _, rfl, strT (fun c => ?_) (fun c => ?_)⟩
  · rw [if_pos c] at q
    exact ⟨_, rfl, a, ns, rfl, hS, q⟩
  rw [if_neg c] at q
  refine ⟨_, rfl, rfl, _, rfl, strT (fun c => ?_) (fun c => ?_)⟩
  · rw [if_pos c] at q
    exact ⟨_, rfl, a, ns, rfl, hS, pos_of_ne hne, fun m h1 h2 => by rw [minI_eq h1 h2]; exact q⟩
  rw [if_neg c] at q
  refine ⟨_, rfl, rfl, _, rfl, strT (fun c => ?_) (fun c => ?_)⟩
  · rw [if_pos c] at q
    exact ⟨_, rfl, a, ns, rfl, hS, pos_of_ne hne, fun m h1 h2 => by rw [maxI_eq h1 h2]; exact q⟩
  rw [if_neg c] at q
  refine ⟨_, rfl, rfl, _, rfl, strT (fun c => ?_) (fun c => ?_)⟩
  · rw [if_pos c] at q
    refine ⟨_, rfl, a, _, rfl, .inl hS, ?_⟩
    rw [List.length_map]
    exact q
  rw [if_neg c] at q
  refine ⟨_, rfl, rfl, _, rfl, strT (fun c => ?_) (fun c => ?_)⟩
  · rw [if_pos c] at q
    exact ⟨_, rfl, 1, rfl, a, _, _, _, rfl, rfl, hS, ints_last hne, q⟩
  rw [if_neg c] at q
  exact ⟨_, rfl, a, ns, rfl, hS, hl, q⟩

/-! ### aggregate_values -/
abbrev s13 : Stmt := topS 13
theorem sc13 : FnScope ["word", "values"] ["word", "values"] (defScope s13) := ⟨rfl, rfl, rfl, by decide +kernel, rfl, by decide +kernel, by decide +kernel⟩

def spAggV (K : PySem.W.Frag) : Sp := fun vs H Q _ => ∃ wd a ns, vs = [.str wd, .ref a] ∧ SqL K H a (ns.map V.int) ∧ ns ≠ [] ∧ Q (.int (agv wd ns)) H
theorem ok13 {f : Addr} {fd : FuncData} (F : Fun K "aggregate_values" "aggregate_values" s13 f fd) (ml : mg "len" = none) (msum : mg "sum" = none) (mmin : mg "min" = none) (mmax : mg "max" = none) : FnOk P w K mg base CX0 1 f fd ["word", "values"] (spAggV K) := by
  refine F.ok sc13 (fun vs H Q E h => ?_) (fun cdv A outer s H vs Q E hr h => ?_)
  · obtain ⟨wd, a, ns, rfl, _⟩ := h
    rfl
  obtain ⟨wd, a, ns, rfl, hS, hne, q⟩ := h
  refine ⟨_, pss_cons (ps_if (pt_cmpR op_eq (pv 0) pe_str (nomark _)) (pss_one (ps_ret (pe_callB (cr_sum rfl) (by rfl) msum boot_sum (pa_cons (pv 1) pa_nil)))) pss_nil)
    (pss_cons (ps_if (pt_cmpR op_eq (pv 0) pe_str (nomark _)) (pss_one (ps_ret (pe_callB (cr_min rfl) (by rfl) mmin (by decide +kernel) (pa_cons (pv 1) pa_nil)))) pss_nil)
    (pss_cons (ps_if (pt_cmpR op_eq (pv 0) pe_str (nomark _)) (pss_one (ps_ret (pe_callB (cr_max rfl) (by rfl) mmax (by decide +kernel) (pa_cons (pv 1) pa_nil)))) pss_nil)
    (pss_one (ps_ret (pe_callB call_len_seq (by rfl) ml boot_len (pa_cons (pv 1) pa_nil)))))), ?_⟩
  unfold agv at q
  refine ⟨_, rfl, rfl, _, rfl, strT (fun c => ?_) (fun c => ?_)⟩
  · rw [if_pos c] at q
    exact ⟨_, rfl, a, ns, rfl, hS, q⟩
  rw [if_neg c] at q
  refine ⟨_, rfl, rfl, _, rfl, strT (fun c => ?_) (fun c => ?_)⟩
  · rw [if_pos c] at q
    exact ⟨_, rfl, a, ns, rfl, hS, pos_of_ne hne, fun m h1 h2 => by rw [minI_eq h1 h2]; exact q⟩
  rw [if_neg c] at q
  refine ⟨_, rfl, rfl, _, rfl, strT (fun c => ?_) (fun c => ?_)⟩
  · rw [if_pos c] at q
    exact ⟨_, rfl, a, ns, rfl, hS, pos_of_ne hne, fun m h1 h2 => by rw [maxI_eq h1 h2]; exact q⟩
  rw [if_neg c] at q
  refine ⟨_, rfl, a, _, rfl, .inl hS, ?_⟩
  rw [List.length_map]
  exact q

/-! ### _law_over -/
abbrev s40 : Stmt := topS 40
theorem sc40 : FnScope ["_law_word", "_law_values", "_law_total", "_law_k"] ["_law_word", "_law_values"] (defScope s40) := ⟨rfl, rfl, rfl, by decide +kernel, rfl, by decide +kernel, by decide +kernel⟩

theorem sort_first {ns ms : List Int} (p : ms.Perm ns) (up : ms.Pairwise (· ≤ ·)) (h : ns ≠ []) : atI (ms.map V.int) 0 = some (.int (minI ns)) := by
  cases ms with
  | nil => exact absurd p.symm.eq_nil h
  | cons m ms =>
    have e : m = minI ns := by
      rw [List.pairwise_cons] at up
      refine minI_eq (p.mem_iff.mp (List.mem_cons_self ..)) fun y hy => ?_
      rcases List.mem_cons.mp (p.mem_iff.mpr hy) with e | hy
      · rw [e]; exact Int.le_refl _
      · exact up.1 y hy
    rw [← e]
    exact at_of (j := 0) rfl rfl
theorem sort_last {ns ms : List Int} (p : ms.Perm ns) (up : ms.Pairwise (· ≤ ·)) (h : ns ≠ []) : atI (ms.map V.int) ((ns.length : Int) - 1) = some (.int (maxI ns)) := by
  have hm : ms ≠ [] := fun e => h (by rw [e] at p; exact p.symm.eq_nil)
  obtain ⟨i, x, rfl⟩ : ∃ i x, ms = i ++ [x] := ⟨ms.dropLast, ms.getLast hm, (List.dropLast_concat_getLast hm).symm⟩
  have e : x = maxI ns := by
    refine maxI_eq (p.mem_iff.mp (by simp)) fun y hy => ?_
    rw [List.pairwise_append] at up
    rcases List.mem_append.mp (p.mem_iff.mpr hy) with hy | hy
    · exact up.2.2 y hy x (by simp)
    · have : y = x := by simpa using hy
      rw [this]
      exact Int.le_refl _
  have len : ns.length = i.length + 1 := by rw [← p.length_eq, List.length_append, List.length_singleton]
  rw [← e]
  refine at_of (j := i.length) (by omega) ?_
  rw [List.getElem?_map, List.getElem?_concat_length]
  rfl
theorem ok40 {f : Addr} {fd : FuncData} (F : Fun K "_law_over" "_law_over" s40 f fd) (ml : mg "len" = none) (msum : mg "sum" = none) (mr : mg "range" = none) (msrt : mg "sorted" = none) : FnOk P w K mg base CX0 1 f fd ["_law_word", "_law_values"] (spOver K) := by
  refine F.ok sc40 (fun vs H Q E h => ?_) (fun cdv A outer s H vs Q E hr h => ?_)
  · obtain ⟨wd, a, ns, rfl, _⟩ := h
    rfl
  obtain ⟨wd, a, ns, rfl, hS, hne, hl, q⟩ := h
  refine ⟨_, pss_cons (ps_if (pt_cmpR op_eq (pv 0) pe_str (nomark _)) (pss_one (ps_ret (pe_callB (cr_sum rfl) (by rfl) msum boot_sum (pa_cons (pv 1) pa_nil)))) pss_nil)
    (pss_cons (ps_if (pt_cmpR op_eq (pv 0) pe_str (nomark _)) (pss_one (ps_ret (pe_callB call_len_seq (by rfl) ml boot_len (pa_cons (pv 1) pa_nil)))) pss_nil)
    (pss_cons (ps_if (pt_cmpR op_eq (pv 0) pe_str (nomark _)) (pss_one (ps_ret (pe_ix ix_list (pe_callB cr_sortedI (by rfl) msrt boot_sorted (pa_cons (pv 1) pa_nil)) pe_int (fun _ _ => rfl)))) pss_nil)
    (pss_cons (ps_if (pt_cmpR op_eq (pv 0) pe_str (nomark _)) (pss_one (ps_ret (pe_ix ix_list (pe_callB cr_sortedI (by rfl) msrt boot_sorted (pa_cons (pv 1) pa_nil)) (pe_op op_sub (pe_callB call_len_seq (by rfl) ml boot_len (pa_cons (pv 1) pa_nil)) pe_int) (fun _ _ => rfl)))) pss_nil)
    (pss_cons (ps_if (pt_cmpR op_eq (pv 0) pe_str (nomark _)) (pss_one (ps_ret (pe_ix ix_list (pv 1) (pe_op op_sub (pe_callB call_len_seq (by rfl) ml boot_len (pa_cons (pv 1) pa_nil)) pe_int) (fun _ _ => rfl)))) pss_nil)
    (pss_cons (ps_set (i := 2) sc40.nd rfl (Or.inl rfl) pe_int)
    (pss_cons (ps_for PassesOwn.never rfl (pi_range2 (by rfl) mr (pa_cons pe_int (pa_cons (pe_callB call_len_seq (by rfl) ml boot_len (pa_cons (pv 1) pa_nil)) pa_nil))) (pg_name (i := 3) sc40.nd rfl (Or.inl rfl))
      (pss_one (ps_set (i := 2) sc40.nd rfl (Or.inl rfl) (pe_op op_add (pv 2) (pe_ifExp (pt_cmpR op_ge (pe_ix ix_list (pv 1) (pv 3) (fun _ _ => rfl)) (pe_ix ix_list (pv 1) (pe_op op_sub (pv 3) pe_int) (fun _ _ => rfl)) (nomark _))
        (pe_op op_sub (pe_ix ix_list (pv 1) (pv 3) (fun _ _ => rfl)) (pe_ix ix_list (pv 1) (pe_op op_sub (pv 3) pe_int) (fun _ _ => rfl))) (pe_ix ix_list (pv 1) (pv 3) (fun _ _ => rfl)))))))
    (pss_one (ps_ret (pv 2))))))))), ?_⟩
  have ln : (ns.map V.int).length = ns.length := List.length_map _
  have q0 := q H (Same.refl H)
  refine ⟨_, rfl, rfl, _, rfl, strT (fun c => ?_) (fun c1 => ?_)⟩
  · rw [ovr, if_pos c] at q0
    exact ⟨_, rfl, a, ns, rfl, hS, q0⟩
  refine ⟨_, rfl, rfl, _, rfl, strT (fun c => ?_) (fun c2 => ?_)⟩
  · rw [ovr, if_neg c1, if_neg (by rw [c]; decide), if_neg (by rw [c]; decide), if_pos c] at q0
    refine ⟨_, rfl, a, _, rfl, .inl hS, ?_⟩
    rw [ln]
    exact q0
  refine ⟨_, rfl, rfl, _, rfl, strT (fun c => ?_) (fun c3 => ?_)⟩
  · refine ⟨_, rfl, a, ns, rfl, hS, fun ms p pm up np => ?_⟩
    have q1 := q _ (same_new np (HO.lst (ms.map V.int)))
    rw [ovr, if_neg c1, if_pos c] at q1
    exact ⟨p, _, 0, _, rfl, rfl, SqL.of upd_same, sort_first pm up hne, q1⟩
  refine ⟨_, rfl, rfl, _, rfl, strT (fun c => ?_) (fun c4 => ?_)⟩
  · refine ⟨_, rfl, a, ns, rfl, hS, fun ms p pm up np => ?_⟩
    have sm := same_new np (HO.lst (ms.map V.int))
    have q1 := q _ sm
    rw [ovr, if_neg c1, if_neg c3, if_pos c] at q1
    refine ⟨_, rfl, a, _, rfl, .inl (sm.seq hS), _, _, rfl, rfl, p, _, _, _, rfl, rfl, SqL.of upd_same, ?_, q1⟩
    rw [ln]
    exact sort_last pm up hne
  refine ⟨_, rfl, rfl, _, rfl, strT (fun c => ?_) (fun c5 => ?_)⟩
  · rw [ovr, if_neg c1, if_neg c3, if_neg c4, if_neg c2, if_pos c] at q0
    refine ⟨_, rfl, _, rfl, a, _, rfl, .inl hS, _, _, rfl, rfl, a, _, _, _, rfl, rfl, hS, ?_, q0⟩
    rw [ln]
    exact ints_at (j := ns.length - 1) (by have := pos_of_ne hne; omega) (by have := pos_of_ne hne; omega)
  rw [ovr, if_neg c1, if_neg c3, if_neg c4, if_neg c2, if_neg c5] at q0
  refine ⟨_, rfl, a, _, rfl, .inl hS, 1, _, rfl, ⟨by decide, by decide, by omega, by omega⟩, for_range (fun i σ H' => H' = H ∧ ∃ y, σ = [some (.str wd), some (.ref a), some (.int (incN ns i)), y]) ⟨rfl, none, rfl⟩ (fun i σ H' hi p => ?_) (fun σ H' p => ?_)⟩
  · obtain ⟨rfl, y, rfl⟩ := p
    rw [ln] at hi
    have i1 : i + 1 < ns.length := by omega
    have a1 : atI (ns.map V.int) (1 + (i : Int)) = some (.int (ns.getD (i + 1) 0)) := ints_at i1 (by omega)
    have a0 : atI (ns.map V.int) (1 + (i : Int) - 1) = some (.int (ns.getD i 0)) := ints_at (by omega) (by omega)
    refine ⟨_, rfl, _, rfl, _, rfl, a, _, _, _, rfl, rfl, hS, a1, _, rfl, _, rfl, _, _, rfl, rfl, a, _, _, _, rfl, rfl, hS, a0, _, _, rfl, rfl, _, rfl, iteB (fun e => ?_) (fun e => ?_)⟩
    · have e' : ns.getD i 0 ≤ ns.getD (i + 1) 0 := of_decide_eq_true e
      refine ⟨_, rfl, _, rfl, a, _, _, _, rfl, rfl, hS, a1, _, rfl, _, rfl, _, _, rfl, rfl, a, _, _, _, rfl, rfl, hS, a0, _, _, rfl, rfl, _, _, rfl, rfl, rfl, some (.int (1 + (i : Int))), ?_⟩
      have z : incN ns (i + 1) = incN ns i + (ns.getD (i + 1) 0 - ns.getD i 0) := by
        rw [incN, stp, if_pos (show ns.getD (i + 1) 0 ≥ ns.getD i 0 from e')]
      rw [z]
      rfl
    · have e' : ¬ ns.getD i 0 ≤ ns.getD (i + 1) 0 := of_decide_eq_false e
      refine ⟨_, rfl, _, rfl, a, _, _, _, rfl, rfl, hS, a1, _, _, rfl, rfl, rfl, some (.int (1 + (i : Int))), ?_⟩
      have z : incN ns (i + 1) = incN ns i + ns.getD (i + 1) 0 := by
        rw [incN, stp, if_neg (show ¬ ns.getD (i + 1) 0 ≥ ns.getD i 0 from e')]
      rw [z]
      rfl
  · obtain ⟨rfl, y, rfl⟩ := p
    have z : (((ns.map V.int).length : Int) - 1).toNat = ns.length - 1 := by
      rw [ln]
      omega
    rw [z]
    exact ⟨_, rfl, q0⟩

end
end L2.Q9


set_option Elab.async false
set_option linter.all false
set_option maxRecDepth 100000
set_option maxHeartbeats 4000000
/-! Q9: the law's windows. -/
namespace L2.Q9
open PySem PySem.Spec PyProof.Rows

/-! ### comprehensions of two forms -/
/-- [pair for pair in labels if ..] -/
theorem comp_pairs {K : PySem.W.Frag} {a D : Addr} {xs : List V} {l : Lab} {fl : Str × Str → Bool} {tt : TT} {j : Nat} {σ : St} {H1 : Hp} {Qd : Hp → Prop} (hS : SqT K H1 a xs) (hA : AtAll K H1 xs (l.map encQ)) (hl : l.length ≤ 100) (hD : H1 D = none) (wj : ∀ x, wipe ((wipe σ [j]).set j (some x)) [j] = wipe σ [j]) (gj : ∀ x, ((wipe σ [j]).set j (some x))[j]? = some (some x))
    (test : ∀ (p : Str × Str) (c : Addr) (H2 : Hp), Same H1 H2 → SqT K H2 c [.str p.1, .str p.2] → ∀ Q' : Bool → Hp → Prop, Q' (fl p) H2 → tt ((wipe σ [j]).set j (some (.ref c))) H2 Q')
    (fin : ∀ (H2 : Hp) (acc : List V), Same H1 H2 → H2 D = some (.lst acc) → AtAll K H2 acc ((l.filter fl).map encQ) → Qd H2) :
    ∃ W : Nat → Nat → Hp → Prop, (∃ m, W 0 m (upd H1 D (.lst []))) ∧ ∀ i m H, W i m H → ((Itt K a).stop i H ∧ Qd H) ∨ ((Itt K a).go i H ∧ ∃ Nx : Hp → Prop, (∀ H', Nx H' → ∃ m', m' < m ∧ W (i + 1) m' H') ∧ ∀ x H', (Itt K a).yld i H x H' → gName j x (wipe σ [j]) H' fun σ2 H2 => wipe σ2 [j] = wipe σ [j] ∧ tt σ2 H2 fun b H3 =>
      if b = true then tVar j σ2 H3 fun y H4 => ∃ acc, H4 D = some (.lst acc) ∧ acc.length < sizeLine ∧ Nx (upd H4 D (.lst (acc ++ [y]))) else Nx H3) := by
  refine lc_tup (xs := xs) (fun i H' => Same H1 H' ∧ ∃ acc, H' D = some (.lst acc) ∧ AtAll K H' acc (((l.take i).filter fl).map encQ)) ⟨same_new hD _, [], upd_same, .nil⟩ (fun i H' _ p => Same.seqT p.1 hS) (fun i x H' hx p => ?_) (fun H' p => ?_)
  · obtain ⟨sm, acc, hacc, aAll⟩ := p
    obtain ⟨pr, hp, hA1⟩ := hA.mget hx
    obtain ⟨c, rfl, hc⟩ := (hA1.same sm).Q
    have z : acc.length < sizeLine := by
      have h1 : acc.length = ((l.take i).filter fl).length := by rw [aAll.mlen]
      have h2 : ((l.take i).filter fl).length ≤ l.length := Nat.le_trans (List.length_filter_le _ _) (by rw [List.length_take]; omega)
      exact short_lt (by omega)
    refine ⟨wj _, test pr c H' sm hc _ ?_⟩
    cases e : fl pr with
    | true =>
      have b1 : (l.take (i + 1)).filter fl = (l.take i).filter fl ++ [pr] := by rw [takex hp, List.filter_append, List.filter_cons_of_pos e]; rfl
      refine iteT ⟨_, gj _, acc, hacc, z, Same.mut sm hD, acc ++ [.ref c], upd_same, ?_⟩
      rw [b1, List.map_append]
      exact (aAll.keep (Kt.lst hacc)).append (.cons ((hA1.same sm).keep (Kt.lst hacc)) .nil)
    | false =>
      have b1 : (l.take (i + 1)).filter fl = (l.take i).filter fl := by rw [takex hp, List.filter_append, List.filter_cons_of_neg (by rw [e]; simp)]; simp
      refine iteF ⟨sm, acc, hacc, ?_⟩
      rw [b1]
      exact aAll
  · obtain ⟨sm, acc, hacc, aAll⟩ := p
    rw [hA.mlen, List.take_length] at aAll
    exact fin H' acc sm hacc aAll
/-- [(labels, f(found[labels])) for labels in sorted(found)] -/
theorem comp_grp {P : Program} {w : World} {K : PySem.W.Frag} {H0 H1 : Hp} {d srt D : Addr} {ss : List V} {xs : List (Lab × Int)} {gs : List (Lab × Addr × Addr)} {f : List Int → Int} {te : TE} {j : Nat} {σ : St} {Qd : Hp → Prop}
    (ek : gs.map (·.1) = keysOf xs) (g : GA P w K H0 H1 d gs (look xs)) (rA : AtAll K H1 ss ((sortL (keysOf xs)).map encL)) (hs1 : H1 srt = some (.lst ss)) (hD : H1 D = none) (few : xs.length ≤ 60000) (wj : ∀ x, wipe ((wipe σ [j]).set j (some x)) [j] = wipe σ [j])
    (elt : ∀ (k : Lab) (kb l : Addr) (H2 : Hp), Same H1 H2 → k ∈ keysOf xs → At K H2 (.ref kb) (encL k) → DAt P w K encL H2 d (gsV gs) → getG (gsV gs) k = some (.ref l) → H2 l = some (.lst ((look xs k).map V.int)) →
      ∀ Q' : VK, (∀ t H3, Same H2 H3 → H2 t = none → H3 t = some (.tup [.ref kb, .int (f (look xs k))]) → Q' (.ref t) H3) → te ((wipe σ [j]).set j (some (.ref kb))) H2 Q')
    (fin : ∀ H2 : Hp, Same H1 H2 → VecAt K H2 D (grp f xs) → Qd H2) :
    ∃ W : Nat → Nat → Hp → Prop, (∃ m, W 0 m (upd H1 D (.lst []))) ∧ ∀ i m H, W i m H → ((Itl K srt).stop i H ∧ Qd H) ∨ ((Itl K srt).go i H ∧ ∃ Nx : Hp → Prop, (∀ H', Nx H' → ∃ m', m' < m ∧ W (i + 1) m' H') ∧ ∀ x H', (Itl K srt).yld i H x H' → gName j x (wipe σ [j]) H' fun σ2 H2 => wipe σ2 [j] = wipe σ [j] ∧ tYes σ2 H2 fun b H3 =>
      if b = true then te σ2 H3 fun y H4 => ∃ acc, H4 D = some (.lst acc) ∧ acc.length < sizeLine ∧ Nx (upd H4 D (.lst (acc ++ [y]))) else Nx H3) := by
  have len := rA.mlen
  refine lc_list (xs := ss) (fun i H2 => Same H1 H2 ∧ ∃ acc, H2 D = some (.lst acc) ∧ AtAll K H2 acc (((sortL (keysOf xs)).take i).map fun k => encP (k, f (look xs k)))) ⟨same_new hD _, [], upd_same, .nil⟩ (fun i H2 _ p => .inl (.inl (p.1 _ _ hs1))) (fun i x H2 hx p => ?_) (fun H2 p => ?_)
  · obtain ⟨sm, acc, hacc, aAll⟩ := p
    obtain ⟨k, hk, hA⟩ := rA.mget hx
    have hk0 : k ∈ keysOf xs := (List.mergeSort_perm _ _).mem_iff.mp (List.mem_of_getElem? hk)
    obtain ⟨x0, hx0, ex0⟩ := ex_key ek hk0
    have g2 := g.same sm
    have hA2 := hA.same sm
    obtain ⟨kb, _, rfl, _⟩ := hA2.tup_of
    have got := get_gsV g2.ndk hx0
    have hl4 := (g2.ls x0 hx0).1
    rw [ex0] at got hl4
    refine ⟨wj _, elt k kb x0.2.2 H2 sm hk0 hA2 g2.dat got hl4 _ fun t H3 sm3 nt ht => ?_⟩
    have hacc' := sm3 _ _ hacc
    have la : acc.length ≤ 60000 := by
      have h1 := aAll.mlen
      rw [List.length_take] at h1
      have h2 := lt_of_get hk
      rw [List.length_mergeSort] at h2
      have := length_keysOf xs
      omega
    refine ⟨acc, hacc', few63 la, Same.mut (sm.trans sm3) hD, acc ++ [.ref t], upd_same, ?_⟩
    have kt := Kt.lst (o := HO.lst (acc ++ [V.ref t])) hacc'
    rw [takex hk, List.map_append]
    exact ((aAll.same sm3).keep kt).append (.cons ((At.tup_mk (SqT.of ht) (.cons (hA2.same sm3) (.cons At.int .nil))).keep kt) .nil)
  · obtain ⟨sm, acc, hacc, aAll⟩ := p
    rw [len, List.take_length] at aAll
    refine fin H2 sm ⟨acc, hacc, ?_⟩
    unfold grp
    rw [List.map_map]
    exact aAll
theorem bare_eq (l : Lab) : l.filter (fun p => !decide (p.1 = sMetric)) = bare l := rfl
section
variable {P : Program} {w : World} {K : PySem.W.Frag} {mg : Str → Option Value} {base : Heap}

/-! ### _law_reads -/
abbrev s39 : Stmt := topS 39
theorem sc39 : FnScope ["_law_metric", "_law_matchers", "_law_width", "_law_time", "_law_sample", "_law_name_here", "_law_values", "_law_inside"] ["_law_metric", "_law_matchers", "_law_width", "_law_time", "_law_sample"] (defScope s39) := ⟨rfl, rfl, rfl, by decide +kernel, rfl, by decide +kernel, by decide +kernel⟩

theorem ok39 {f f38 : Addr} {fd fd38 : FuncData} (F : Fun K "_law_reads" "_law_reads" s39 f fd) (G38 : FnOk P w K mg base CX0 1 f38 fd38 ["_law_labels_here", "_law_name_here"] (spValueOf K)) (k38 : PySem.W.keepIn K (.ref f38) = true) (b38 : Binds K fd38 ["_law_labels_here", "_law_name_here"] []) (m38 : mg "_law_told" = some (.ref f38)) :
    FnOk P w K mg base CX0 2 f fd ["_law_metric", "_law_matchers", "_law_width", "_law_time", "_law_sample"] (spIsRead K) := by
  refine F.ok sc39 (fun vs H Q E h => ?_) (fun cdv A outer s H vs Q E hr h => ?_)
  · obtain ⟨metric, m, ms, width, time, x, s, rfl, _⟩ := h
    rfl
  obtain ⟨metric, m, ms, width, time, x, s, rfl, hm, hx, q⟩ := h
  refine ⟨_, pss_cons (ps_if (PW.pt (pw_or (pt_cmpR op_ne (pe_call G38 hr rfl m38 k38 b38 .nil pass0 (pa_cons (pe_ix ix_tup (pv 4) pe_int (fun _ _ => rfl)) (pa_cons pe_str pa_nil))) (pv 0) (nomark _)) (pw_or1 (pt_not (pt_chain op_lt op_le (pe_op op_sub (pv 3) (pv 2)) (pe_ix ix_tup (pv 4) pe_int (fun _ _ => rfl)) (pv 3)))))) (pss_one (ps_ret pe_bl)) pss_nil)
    (pss_cons (ps_for PassesOwn.never rfl (pi_tup (pv 1)) (pg_tup rfl (pgs_cons (pg_name (i := 5) sc39.nd rfl (Or.inl rfl)) (pgs_cons (pg_name (i := 6) sc39.nd rfl (Or.inl rfl)) (pgs_cons (pg_name (i := 7) sc39.nd rfl (Or.inl rfl)) pgs_nil))))
      (pss_one (ps_if (pt_cmpR op_ne (pe_cmpR op_in_seq (pe_call G38 hr rfl m38 k38 b38 .nil pass0 (pa_cons (pe_ix ix_tup (pv 4) pe_int (fun _ _ => rfl)) (pa_cons (pv 5) pa_nil))) (pv 6) (by rfl)) (pv 7) (nomark _)) (pss_one (ps_ret pe_bl)) pss_nil)))
    (pss_one (ps_ret pe_bl))), ?_⟩
  obtain ⟨a, y, rfl, hS, hy⟩ := hx.S
  unfold isRead inTime at q
  have key : decide (valOf s.1 sMetric = metric) = true → decide (time - width < s.2.1) = true → decide (s.2.1 ≤ time) = true → Q (.bl (matchesAll ms s.1)) H := fun e1 e2 e3 => by
    rw [e1, e2, e3] at q
    exact q
  refine ⟨_, rfl, a, _, 0, _, rfl, rfl, hS, rfl, y, s.1, sMetric, rfl, hy, _, rfl, rfl, _, rfl, iteB (fun e => ?_) (fun e => ?_)⟩
  · have e1 : decide (valOf s.1 sMetric = metric) = false := by rw [decStr] at e; simpa using e
    rw [e1, Bool.false_and, Bool.and_false] at q
    exact q
  have e1 : decide (valOf s.1 sMetric = metric) = true := by rw [decStr] at e; simpa using e
  refine ⟨_, rfl, _, rfl, time, width, rfl, rfl, _, rfl, a, _, 1, _, rfl, rfl, hS, rfl, _, _, rfl, rfl, _, rfl, iteB (fun e => ?_) (fun e => ?_)⟩
  rotate_left
  · have e2 : decide (time - width < s.2.1) = false := e
    rw [e2, Bool.false_and, Bool.false_and] at q
    exact ⟨_, rfl, q⟩
  have e2 : decide (time - width < s.2.1) = true := e
  refine ⟨_, rfl, _, _, rfl, rfl, _, rfl, iteB (fun e => ?_) (fun e => ?_)⟩
  · have e3 : decide (s.2.1 ≤ time) = false := by simpa using e
    rw [e3, Bool.and_false, Bool.false_and] at q
    exact q
  have e3 : decide (s.2.1 ≤ time) = true := by simpa using e
  have q := key e1 e2 e3
  obtain ⟨ma, mvs, rfl, hM, hMA⟩ := hm.tup_of
  refine ⟨_, rfl, ma, rfl, ⟨_, hM⟩, for_tup (xs := mvs) (fun i σ H' => H' = H ∧ (∃ y5 y6 y7, σ = [some (.str metric), some (.ref ma), some (.int width), some (.int time), some (.ref a), y5, y6, y7]) ∧ matchesAll (ms.take i) s.1 = true) ⟨rfl, ⟨none, none, none, rfl⟩, rfl⟩ (fun i σ H' _ p => by rw [p.1]; exact hM) (fun i x σ H' hxi p => ?_) (fun σ H' p => ?_)⟩
  · obtain ⟨rfl, ⟨y5, y6, y7, rfl⟩, pm⟩ := p
    obtain ⟨mt, hp, hA1⟩ := hMA.mget hxi
    obtain ⟨b, u1, u2, u3, rfl, hB, h1, h2, h3⟩ := hA1.three
    obtain rfl := h1.str_eq
    obtain rfl := h3.bl_eq
    obtain ⟨vb, vvs, rfl, hV, hVA⟩ := h2.tup_of
    obtain rfl := At.strs hVA
    refine ⟨b, _, rfl, hB, rfl, _, _, rfl, _, _, rfl, _, _, rfl, rfl, ?_⟩
    refine ⟨_, rfl, a, _, 0, _, rfl, rfl, hS, rfl, _, rfl, y, s.1, mt.name, rfl, hy, _, rfl, vb, _, rfl, .inr hV, rfl, flat_strs _, _, rfl, rfl, _, rfl, ?_⟩
    have e : (!decide (V.bl (if false = true then !inV (V.str (valOf s.1 mt.name)) (mt.vals.map V.str) else inV (V.str (valOf s.1 mt.name)) (mt.vals.map V.str)) = V.bl mt.ins)) = !matches1 mt s.1 := by
      rw [if_neg Bool.false_ne_true, inV_str, decBl]
      rfl
    rw [e]
    refine iteB (fun e => ?_) (fun e => ?_)
    · have e' : matches1 mt s.1 = false := by simpa using e
      have z : matchesAll ms s.1 = false := by
        unfold matchesAll
        rw [Bool.eq_false_iff]
        intro t
        rw [List.all_eq_true] at t
        have := t mt (List.mem_of_getElem? hp)
        rw [e'] at this
        cases this
      rw [z] at q
      exact q
    · have e' : matches1 mt s.1 = true := by simpa using e
      refine ⟨rfl, ⟨_, _, _, rfl⟩, ?_⟩
      unfold matchesAll at pm ⊢
      rw [takex hp, List.all_append, pm, List.all_cons, e']
      rfl
  · obtain ⟨rfl, _, pm⟩ := p
    rw [hMA.mlen] at pm
    rw [matchesAll_take pm] at q
    exact q

/-! ### _law_window -/
abbrev s41 : Stmt := topS 41
theorem sc41 : FnScope ["_law_view_here", "_law_word", "_law_metric", "_law_matchers", "_law_width", "_law_time", "_law_found", "_law_tick", "_law_sample", "_law_bare", "_law_pair", "_law_labels_here"] ["_law_view_here", "_law_word", "_law_metric", "_law_matchers", "_law_width", "_law_time"] (defScope s41) := ⟨rfl, rfl, rfl, by decide +kernel, rfl, by decide +kernel, by decide +kernel⟩

def part (view : List Smp) (metric : Str) (ms : List Mat) (width time t : Int) : List (Lab × Int) := (view.filter fun s => decide (s.2.1 = t) && isRead metric ms width time s).map pick
theorem part_snoc (view : List Smp) (s : Smp) (metric : Str) (ms : List Mat) (width time t : Int) : part (view ++ [s]) metric ms width time t = if (decide (s.2.1 = t) && isRead metric ms width time s) = true then part view metric ms width time t ++ [(bare s.1, s.2.2)] else part view metric ms width time t := by
  unfold part
  rw [List.filter_append, List.map_append]
  by_cases h : (decide (s.2.1 = t) && isRead metric ms width time s) = true
  · rw [if_pos h, List.filter_cons_of_pos (p := fun s : Smp => decide (s.2.1 = t) && isRead metric ms width time s) h]
    rfl
  · rw [if_neg h, List.filter_cons_of_neg (p := fun s : Smp => decide (s.2.1 = t) && isRead metric ms width time s) h]
    simp
theorem part_len (view : List Smp) (metric : Str) (ms : List Mat) (width time t : Int) : (part view metric ms width time t).length ≤ view.length := by
  unfold part
  rw [List.length_map]
  exact List.length_filter_le _ _
theorem ticks_succ (lo : Int) (n : Nat) : ticks lo (n + 1) = ticks lo n ++ [lo + (n : Int)] := by
  unfold ticks
  rw [List.range_succ, List.map_append]
  rfl
theorem rdT_snoc (view : List Smp) (metric : Str) (ms : List Mat) (width time : Int) (ts : List Int) (t : Int) : rdT view metric ms width time (ts ++ [t]) = rdT view metric ms width time ts ++ part view metric ms width time t := by
  unfold rdT part
  rw [List.flatMap_append]
  simp
theorem rdT_len (view : List Smp) (metric : Str) (ms : List Mat) (width time : Int) (lo : Int) : ∀ n : Nat, (rdT view metric ms width time (ticks lo n)).length ≤ n * view.length
  | 0 => by simp [rdT, ticks]
  | n + 1 => by
    rw [ticks_succ, rdT_snoc, List.length_append]
    have h1 := rdT_len view metric ms width time lo n
    have h2 := part_len view metric ms width time (lo + (n : Int))
    rw [Nat.succ_mul]
    omega
def spWindow (K : PySem.W.Frag) : Sp := fun vs H Q _ => ∃ va view wd metric m ms width time, vs = [.ref va, .str wd, .str metric, m, .int width, .int time] ∧ ViewAt K H va view ∧ ViewOk view ∧ At K H m (.tuple (ms.map encM)) ∧ 0 ≤ time ∧ time ≤ 20 ∧ 1 ≤ width ∧ width ≤ 1000 ∧
  ∀ p H', Same H H' → H p = none → VecAt K H' p (grp (ovr wd) (rd view metric ms width time)) → Q (.ref p) H'
theorem ok41 {f f39 f40 : Addr} {fd fd39 fd40 : FuncData} (F : Fun K "_law_window" "_law_window" s41 f fd) (G39 : FnOk P w K mg base CX0 2 f39 fd39 ["_law_metric", "_law_matchers", "_law_width", "_law_time", "_law_sample"] (spIsRead K)) (k39 : PySem.W.keepIn K (.ref f39) = true) (b39 : Binds K fd39 ["_law_metric", "_law_matchers", "_law_width", "_law_time", "_law_sample"] []) (m39 : mg "_law_reads" = some (.ref f39))
    (G40 : FnOk P w K mg base CX0 1 f40 fd40 ["_law_word", "_law_values"] (spOver K)) (k40 : PySem.W.keepIn K (.ref f40) = true) (b40 : Binds K fd40 ["_law_word", "_law_values"] []) (m40 : mg "_law_over" = some (.ref f40)) (msrt : mg "sorted" = none) (mt : mg "tuple" = none) (mr : mg "range" = none) (mmax : mg "max" = none) :
    FnOk P w K mg base CX0 3 f fd ["_law_view_here", "_law_word", "_law_metric", "_law_matchers", "_law_width", "_law_time"] (spWindow K) := by
  refine F.ok sc41 (fun vs H Q E h => ?_) (fun cdv A outer s H vs Q E hr h => ?_)
  · obtain ⟨va, view, wd, metric, m, ms, width, time, rfl, _⟩ := h
    rfl
  obtain ⟨va, view, wd, metric, m, ms, width, time, rfl, ⟨vvs, hV, hVA⟩, hok, hm, ht0, ht1, hw0, hw1, q⟩ := h
  have hu := hr.units
  have h63 := hok.few
  refine ⟨_, pss_cons (ps_set (i := 6) sc41.nd rfl (Or.inr rfl) (x_new (P := P) (w := w) rfl rfl))
    (pss_cons (ps_for PassesOwn.never rfl (pi_range2 (by rfl) mr (pa_cons (pe_callB (call_max2 rfl) (by rfl) mmax (by decide +kernel) (pa_cons pe_int (pa_cons (pe_op op_add (pe_op op_sub (pv 5) (pv 4)) pe_int) pa_nil))) (pa_cons (pe_op op_add (pv 5) pe_int) pa_nil))) (pg_name (i := 7) sc41.nd rfl (Or.inl rfl))
      (pss_one (ps_for PassesOwn.never rfl (pi_list (pv 0)) (pg_name (i := 8) sc41.nd rfl (Or.inl rfl)) (pss_one (ps_if (PW.pt (pw_and (pt_cmpR op_eq (pe_ix ix_tup (pv 8) pe_int (fun _ _ => rfl)) (pv 7) (nomark _)) (pw_and1 (pt_val (pe_call G39 hr rfl m39 k39 b39 .nil pass0 (pa_cons (pv 2) (pa_cons (pv 3) (pa_cons (pv 4) (pa_cons (pv 5) (pa_cons (pv 8) pa_nil)))))))))) 
        (pss_cons (ps_set (i := 9) sc41.nd rfl (Or.inl rfl) (pe_callTy call_tuple_of (by rfl) mt boot_tuple (pa_cons (pe_lc (own := [("_law_pair", 10)]) (g := gName 10) (by rfl) sc41.nd (pi_tup (pe_ix ix_tup (pv 8) pe_int (fun _ _ => rfl))) (blkOk_by (own := [("_law_pair", 10)]) (N := ["_law_view_here", "_law_word", "_law_metric", "_law_matchers", "_law_width", "_law_time", "_law_found", "_law_tick", "_law_sample", "_law_bare", "_law_pair", "_law_labels_here"]) (sc := defScope s41) (by decide +kernel)) (fun _ _ _ _ _ => pg_name (i := 10) sc41.nd rfl (Or.inl rfl))
            (fun _ _ _ _ _ => pts_one (pt_cmpR (r := rNe) op_ne (pe_ix (r := rIxT K) ix_tup (pv 10) pe_int (fun _ _ => rfl)) pe_str (nomark _))) (fun _ _ _ _ _ => pv 10)) pa_nil)))
        (pss_one (ps_expr (pe_bm PySem.F.plainAttrs_list PySem.F.slot_list_append PySem.F.type_list_append mt_append (pe_sdN hu (pv 6) (pa_cons (pv 9) (pa_cons (pe_lst pa_nil) pa_nil))) (pa_cons (pe_ix ix_tup (pv 8) pe_int (fun _ _ => rfl)) pa_nil)))))
        pss_nil)))))
    (pss_one (ps_ret (pe_lc (own := [("_law_labels_here", 11)]) (g := gName 11) (by rfl) sc41.nd (pi_list (pe_callB (x_sortD (P := P) (w := w) (K := K) rfl rfl rfl hu rfl) (by rfl) msrt boot_sorted (pa_cons (pv 6) pa_nil))) (blkOk_by (own := [("_law_labels_here", 11)]) (N := ["_law_view_here", "_law_word", "_law_metric", "_law_matchers", "_law_width", "_law_time", "_law_found", "_law_tick", "_law_sample", "_law_bare", "_law_pair", "_law_labels_here"]) (sc := defScope s41) (by decide +kernel))
      (fun _ _ _ _ _ => pg_name (i := 11) sc41.nd rfl (Or.inl rfl)) (fun _ _ _ _ _ => pts_nil) (fun _ _ _ _ _ => pe_tup (pa_cons (pv 11) (pa_cons (pe_call (sp := spOver K) G40 (hr.mono (by decide)) rfl m40 k40 b40 .nil pass0 (pa_cons (pv 1) (pa_cons (x_get (P := P) (w := w) (K := K) rfl rfl rfl hu (pv 6) (pv 11) (fun _ _ => rfl)) pa_nil))) pa_nil))))))), ?_⟩
  refine fun d hd => ?_
  generalize hlo : (if time - width + 1 > 0 then time - width + 1 else 0) = lo
  have lo0 : 0 ≤ lo := by rw [← hlo]; split <;> omega
  have lo1 : lo ≤ 100000 := by rw [← hlo]; split <;> omega
  generalize hn : (time + 1 - lo).toNat = n
  have n21 : n ≤ 21 := by omega
  refine ⟨_, rfl, _, rfl, time, width, rfl, rfl, _, _, rfl, rfl, 0, time - width + 1, rfl, _, rfl, time, 1, rfl, rfl, ?_⟩
  rw [hlo]
  refine ⟨lo, time + 1, rfl, ⟨by omega, by omega, by omega, by omega⟩, ?_⟩
  rw [hn]
  refine for_range (fun i σ H' => (∃ y7 y8 y9 y10 y11, σ = [some (.ref va), some (.str wd), some (.str metric), some m, some (.int width), some (.int time), some (.ref d), y7, y8, y9, y10, y11]) ∧ GAt P w K H H' d (rdT view metric ms width time (ticks lo i))) ⟨⟨none, none, none, none, none, rfl⟩, GAt.start hd⟩ (fun i σ H' hi p => ?_) (fun σ H' p => ?_)
  · obtain ⟨⟨y7, y8, y9, y10, y11, rfl⟩, hG⟩ := p
    have lr := rdT_len view metric ms width time lo i
    have lr2 : (rdT view metric ms width time (ticks lo i)).length ≤ 21 * 63 := Nat.le_trans lr (Nat.mul_le_mul (by omega) h63)
    refine ⟨_, rfl, va, rfl, ⟨_, hG.sm.seq hV⟩, for_list (xs := vvs) (fun j σ H' => (∃ z8 z9 z10 z11, σ = [some (.ref va), some (.str wd), some (.str metric), some m, some (.int width), some (.int time), some (.ref d), some (.int (lo + (i : Int))), z8, z9, z10, z11]) ∧ GAt P w K H H' d (rdT view metric ms width time (ticks lo i) ++ part (view.take j) metric ms width time (lo + (i : Int)))) ⟨⟨_, _, _, _, rfl⟩, by simpa [part] using hG⟩ (fun j σ H' _ p => p.2.sm.seq hV) (fun j x σ H' hx p => ?_) (fun σ H' p => ?_)⟩
    · obtain ⟨⟨z8, z9, z10, z11, rfl⟩, hG⟩ := p
      obtain ⟨smp, hp, hA⟩ := hVA.mget hx
      have hA := hA.same hG.sm
      obtain ⟨sa, lv, rfl, hS, hL⟩ := hA.S
      have hsl := hok.short smp (List.mem_of_getElem? hp)
      have step : rdT view metric ms width time (ticks lo i) ++ part (view.take (j + 1)) metric ms width time (lo + (i : Int)) = if (decide (smp.2.1 = lo + (i : Int)) && isRead metric ms width time smp) = true then (rdT view metric ms width time (ticks lo i) ++ part (view.take j) metric ms width time (lo + (i : Int))) ++ [(bare smp.1, smp.2.2)] else rdT view metric ms width time (ticks lo i) ++ part (view.take j) metric ms width time (lo + (i : Int)) := by
        rw [takex hp, part_snoc]
        split
        · rw [List.append_assoc]
        · rfl
      have few : (rdT view metric ms width time (ticks lo i) ++ part (view.take j) metric ms width time (lo + (i : Int))).length ≤ 1400 := by
        rw [List.length_append]
        have h2 := part_len (view.take j) metric ms width time (lo + (i : Int))
        rw [List.length_take] at h2
        omega
      generalize hxs : rdT view metric ms width time (ticks lo i) ++ part (view.take j) metric ms width time (lo + (i : Int)) = xs at hG step few
      refine ⟨_, rfl, sa, _, 1, _, rfl, rfl, hS, rfl, _, rfl, rfl, _, rfl, iteB (fun e0 => ?_) (fun e0 => ?_)⟩
      rotate_left
      · rw [decInt] at e0
        rw [e0, Bool.false_and, if_neg Bool.false_ne_true] at step
        show (∃ z8 z9 z10 z11, _) ∧ GAt P w K H H' d (rdT view metric ms width time (ticks lo i) ++ part (view.take (j + 1)) metric ms width time (lo + (i : Int)))
        rw [step]
        exact ⟨⟨_, _, _, _, rfl⟩, hG⟩
      rw [decInt] at e0
      rw [e0, Bool.true_and] at step
      refine ⟨_, rfl, _, rfl, _, rfl, _, rfl, _, rfl, metric, m, ms, width, time, .ref sa, smp, rfl, hm.same hG.sm, hA, _, rfl, iteB (fun e => ?_) (fun e => ?_)⟩
      rotate_left
      · rw [if_neg (by rw [e]; simp)] at step
        show (∃ z8 z9 z10 z11, _) ∧ GAt P w K H H' d (rdT view metric ms width time (ticks lo i) ++ part (view.take (j + 1)) metric ms width time (lo + (i : Int)))
        rw [step]
        exact ⟨⟨_, _, _, _, rfl⟩, hG⟩
      rw [if_pos e] at step
      -- the bare labels
      obtain ⟨la, lvs, rfl, hLS, hLA⟩ := hL.tup_of
      refine ⟨_, rfl, sa, _, 0, _, rfl, rfl, hS, rfl, la, rfl, ⟨_, hLS⟩, fun C hC => ?_⟩
      refine comp_pairs (l := smp.1) (fl := fun p => !decide (p.1 = sMetric)) hLS hLA (by omega) hC (fun _ => rfl) (fun _ => rfl) (fun pr c H2 sm hc Q' hq => ?_) fun H2 acc smC hacc aAll => ?_
      · refine ⟨_, rfl, c, _, 0, _, rfl, rfl, hc, rfl, rfl, _, rfl, ?_⟩
        have e2 : (!decide (V.str pr.1 = V.str sMetric)) = !decide (pr.1 = sMetric) := by rw [decStr]
        rw [← e2] at hq
        exact hq
      refine ⟨C, acc, rfl, .inl ⟨SqL.of hacc, fun kb hkbn => ?_⟩⟩
      have smT := same_new hkbn (HO.tup acc)
      have sm2 : Same H' (upd H2 kb (.tup acc)) := smC.trans smT
      have hkb : At K (upd H2 kb (.tup acc)) (.ref kb) (encL (bare smp.1)) := At.tup_mk (SqT.of upd_same) (aAll.same smT)
      generalize upd H2 kb (.tup acc) = H3 at sm2 hkb
      have G3 := hG.same sm2
      obtain ⟨gs, ek, g⟩ := G3
      have kAt := key_mk kfL hkb
      have hS3 := Same.seqT sm2 hS
      refine ⟨_, rfl, ⟨d, _, rfl, g.dat.at_⟩, _, rfl, Nat.zero_le _, fun l hl => ?_⟩
      have sm4 : Same H3 (upd H3 l (.lst [])) := same_new hl _
      have g4 := g.same sm4
      have hS4 := Same.seqT sm4 hS3
      have lgs : (enG encL (gsV gs)).length < sizeLine := by
        rw [enG_len, List.length_map]
        have h1 : gs.length = (keysOf xs).length := by rw [← ek, List.length_map]
        have h2 := length_keysOf xs
        exact few63 (by omega)
      refine ⟨d, _, kb, _, .ref l, rfl, rfl, g4.dat.at_, g4.dat.ks kfL, kAt.keep (Kt.of sm4), lgs, fun u hu1 => ?_, fun hn1 => ?_⟩
      · -- the key is there
        rw [atE_G kfL] at hu1
        have hk : bare smp.1 ∈ keysOf xs := by
          by_cases c : bare smp.1 ∈ keysOf xs
          · exact c
          · rw [get_gsV_none (by rw [ek]; exact c)] at hu1
            cases hu1
        obtain ⟨x0, hx0, ex0⟩ := ex_key ek hk
        have got := get_gsV g.ndk hx0
        rw [ex0, hu1] at got
        cases got
        have hl4 := (g4.ls x0 hx0).1
        refine ⟨.inl ⟨rfl, _, SqL.of hl4⟩, ?_⟩
        refine ⟨_, rfl, sa, _, 2, _, rfl, rfl, hS4, rfl, x0.2.2, _, _, rfl, rfl, hl4, ?_, ⟨_, _, _, _, rfl⟩, ?_⟩
        · rw [List.length_map]
          have := look_len xs x0.1
          exact few63 (by omega)
        rw [step, ← ex0]
        exact GAt.old ek g4 hx0 smp.2.2
      · -- a new key
        rw [atE_G kfL] at hn1
        have nk : bare smp.1 ∉ keysOf xs := fun hk => by
          obtain ⟨x0, hx0, ex0⟩ := ex_key ek hk
          have q1 := get_gsV g.ndk hx0
          rw [ex0, hn1] at q1
          cases q1
        have nkg : bare smp.1 ∉ gs.map (·.1) := by rw [ek]; exact nk
        have h0l : H l = none := (g.sm).free hl
        have fresh : ∀ x ∈ gs, x.2.2 ≠ l := fun x hx z => by
          have := (g.ls x hx).1
          rw [z, hl] at this
          cases this
        have g5 := g4.put (k := bare smp.1) (b := kb) (l := l) nkg (hkb.same sm4) upd_same h0l fresh (look_none nk)
        have kt5 : Kt (upd H3 l (.lst [])) (upd (upd H3 l (.lst [])) d (dN P w d (enG encL (gsV gs) ++ [(Q9.nk (encL (bare smp.1)), kb, .ref l)]))) := Kt.ext g4.dat.at_
        have hl5 := (g5.ls (bare smp.1, kb, l) (by simp)).1
        rw [look_none nk] at hl5
        refine ⟨.inl ⟨rfl, _, SqL.of hl5⟩, ?_⟩
        refine ⟨_, rfl, sa, _, 2, _, rfl, rfl, kt5.seqT hS4, rfl, l, [], _, rfl, rfl, hl5, (by show 0 < sizeLine; decide), ⟨_, _, _, _, rfl⟩, ?_⟩
        rw [step]
        exact GAt.new ek nk g5 smp.2.2
    · obtain ⟨⟨z8, z9, z10, z11, rfl⟩, hG⟩ := p
      rw [hVA.mlen, List.take_length] at hG
      refine ⟨⟨_, _, _, _, _, rfl⟩, ?_⟩
      rw [ticks_succ, rdT_snoc]
      exact hG
  · obtain ⟨⟨y7, y8, y9, y10, y11, rfl⟩, hG⟩ := p
    have lr := rdT_len view metric ms width time lo n
    have few : (rdT view metric ms width time (ticks lo n)).length ≤ 60000 := Nat.le_trans lr (Nat.le_trans (Nat.mul_le_mul n21 h63) (by decide))
    rw [← grp_ticks hok (ovr wd) metric ms hlo.symm hn.symm] at q
    generalize rdT view metric ms width time (ticks lo n) = xs at hG few q
    obtain ⟨gs, ek, g⟩ := hG
    obtain ⟨bs, e1, S, rAll⟩ := GAt.sorts ek g few
    refine ⟨_, rfl, d, _, bs, rfl, g.dat.at_, g.dat.ks kfL, e1, S, fun srt hsrt => ?_⟩
    have smS := same_new hsrt (HO.lst ((bs.mergeSort leD).map (·.1)))
    refine ⟨srt, rfl, ⟨_, SqL.of upd_same⟩, fun D hD => ?_⟩
    refine comp_grp (f := ovr wd) ek (g.same smS) (rAll.same smS) upd_same hD few (fun _ => rfl) (fun k kb l H2 sm hk hkA hdat hgot hl Q' hq => ?_) fun H2 sm hv => q D H2 ((g.sm.trans smS).trans sm) ((g.sm.trans smS).free hD) hv
    refine ⟨_, rfl, _, rfl, _, rfl, _, rfl, d, _, kb, _, .ref l, rfl, rfl, hdat.at_, hdat.ks kfL, key_mk kfL hkA, by rw [atE_G kfL]; exact hgot, ?_⟩
    refine ⟨wd, l, look xs k, rfl, SqL.of hl, look_ne hk, Nat.le_trans (look_len xs k) few, fun H3 sm3 => ?_⟩
    exact ⟨(by show 2 ≤ sizeLine; decide), fun t ht => hq t _ (sm3.trans (same_new ht _)) (sm3.free ht) upd_same⟩

end
end L2.Q9


set_option Elab.async false
set_option linter.all false
set_option maxRecDepth 100000
set_option maxHeartbeats 4000000
/-! Q9: comprehensions over vectors, dicts of vectors. -/
namespace L2.Q9
open PySem PySem.Spec PyProof.Rows

/-- a small vector, ascending -/
structure VOk (N B : Nat) (v : Vec) : Prop where
  asc : Asc v
  len : v.length ≤ N
  bits : ∀ p ∈ v, p.2.natAbs < 2 ^ B
  short : ∀ p ∈ v, p.1.length ≤ 20
theorem VOk.nodup {N B : Nat} {v : Vec} (h : VOk N B v) : (v.map (·.1)).Nodup := asc_nodup h.asc
/-- the dict that a vector makes: val of each -/
theorem get_vec {v : Vec} {val : Lab × Int → V} {gs : List (Lab × Addr × V)} (e : (gs.map fun g => (g.1, g.2.2)) = v.map fun p => (p.1, val p)) (k : Lab) : getG gs k = (v.find? fun p => decide (p.1 = k)).map val := by
  induction v generalizing gs with
  | nil =>
    cases gs with
    | nil => rfl
    | cons _ _ => cases e
  | cons p v ih =>
    cases gs with
    | nil => cases e
    | cons g gs =>
      rw [List.map_cons, List.map_cons] at e
      injection e with e1 e2
      have e3 : g.1 = p.1 := congrArg Prod.fst e1
      have e4 : g.2.2 = val p := congrArg Prod.snd e1
      have h := ih e2
      unfold getG at h ⊢
      rw [List.find?_cons, List.find?_cons, e3]
      cases decide (p.1 = k) with
      | true =>
        show some g.2.2 = some (val p)
        rw [e4]
      | false => exact h
theorem find_has (v : Vec) (k : Lab) : (v.find? fun p => decide (p.1 = k)).isSome = hasK v k := by
  unfold hasK
  induction v with
  | nil => rfl
  | cons p v ih =>
    rw [List.find?_cons, List.map_cons]
    by_cases h : p.1 = k
    · rw [decide_eq_true h]
      simp [h]
    · rw [decide_eq_false h, ih]
      have h' : ¬ k = p.1 := fun e => h e.symm
      simp [h']
theorem get_has {v : Vec} {val : Lab × Int → V} {gs : List (Lab × Addr × V)} (e : (gs.map fun g => (g.1, g.2.2)) = v.map fun p => (p.1, val p)) (k : Lab) : (getG gs k).isSome = hasK v k := by
  rw [get_vec e, Option.isSome_map, find_has]
theorem get_val {v : Vec} {gs : List (Lab × Addr × V)} (e : (gs.map fun g => (g.1, g.2.2)) = v.map fun p => (p.1, V.int p.2)) {k : Lab} (h : hasK v k = true) : getG gs k = some (.int (getK v k)) := by
  rw [get_vec e]
  rw [← find_has] at h
  obtain ⟨p, hp⟩ := Option.isSome_iff_exists.mp h
  unfold getK
  rw [hp]
  rfl
section
variable {P : Program} {w : World} {K : PySem.W.Frag}
/-- [entry for entry in v if ..] -/
theorem comp_rows {a D : Addr} {v : Vec} {fl : Lab × Int → Bool} {tt : TT} {j : Nat} {σ : St} {H1 : Hp} {Qd : Hp → Prop} (hv : VecAt K H1 a v) (hl : v.length ≤ 60000) (hD : H1 D = none) (wj : ∀ x, wipe ((wipe σ [j]).set j (some x)) [j] = wipe σ [j]) (gj : ∀ x, ((wipe σ [j]).set j (some x))[j]? = some (some x))
    (test : ∀ (p : Lab × Int) (c : Addr) (x : V) (H2 : Hp), p ∈ v → Same H1 H2 → SqT K H2 c [x, .int p.2] → At K H2 x (encL p.1) → ∀ Q' : Bool → Hp → Prop, (∀ H3, Same H2 H3 → Q' (fl p) H3) → tt ((wipe σ [j]).set j (some (.ref c))) H2 Q')
    (fin : ∀ (H2 : Hp), Same H1 H2 → VecAt K H2 D (v.filter fl) → Qd H2) :
    ∃ W : Nat → Nat → Hp → Prop, (∃ m, W 0 m (upd H1 D (.lst []))) ∧ ∀ i m H, W i m H → ((Itl K a).stop i H ∧ Qd H) ∨ ((Itl K a).go i H ∧ ∃ Nx : Hp → Prop, (∀ H', Nx H' → ∃ m', m' < m ∧ W (i + 1) m' H') ∧ ∀ x H', (Itl K a).yld i H x H' → gName j x (wipe σ [j]) H' fun σ2 H2 => wipe σ2 [j] = wipe σ [j] ∧ tt σ2 H2 fun b H3 =>
      if b = true then tVar j σ2 H3 fun y H4 => ∃ acc, H4 D = some (.lst acc) ∧ acc.length < sizeLine ∧ Nx (upd H4 D (.lst (acc ++ [y]))) else Nx H3) := by
  obtain ⟨xs, hS, hA⟩ := hv
  refine lc_list (xs := xs) (fun i H' => Same H1 H' ∧ ∃ acc, H' D = some (.lst acc) ∧ AtAll K H' acc (((v.take i).filter fl).map encP)) ⟨same_new hD _, [], upd_same, .nil⟩ (fun i H' _ p => .inl (.inl (p.1 _ _ hS))) (fun i x H' hx p => ?_) (fun H' p => ?_)
  · obtain ⟨sm, acc, hacc, aAll⟩ := p
    obtain ⟨pr, hp, hA1⟩ := hA.mget hx
    have hA2 := hA1.same sm
    obtain ⟨c, y, rfl, hc, hy⟩ := hA2.P
    have z : acc.length < sizeLine := by
      have h1 : acc.length = ((v.take i).filter fl).length := by rw [aAll.mlen]
      have h2 : ((v.take i).filter fl).length ≤ v.length := Nat.le_trans (List.length_filter_le _ _) (by rw [List.length_take]; omega)
      exact few63 (by omega)
    refine ⟨wj _, test pr c y H' (List.mem_of_getElem? hp) sm hc hy _ fun H3 sm3 => ?_⟩
    have hacc' := sm3 _ _ hacc
    cases e : fl pr with
    | true =>
      have b1 : (v.take (i + 1)).filter fl = (v.take i).filter fl ++ [pr] := by rw [takex hp, List.filter_append, List.filter_cons_of_pos e]; rfl
      refine iteT ⟨_, gj _, acc, hacc', z, Same.mut (sm.trans sm3) hD, acc ++ [.ref c], upd_same, ?_⟩
      rw [b1, List.map_append]
      exact ((aAll.same sm3).keep (Kt.lst hacc')).append (.cons ((hA2.same sm3).keep (Kt.lst hacc')) .nil)
    | false =>
      have b1 : (v.take (i + 1)).filter fl = (v.take i).filter fl := by rw [takex hp, List.filter_append, List.filter_cons_of_neg (by rw [e]; simp)]; simp
      refine iteF ⟨sm.trans sm3, acc, hacc', ?_⟩
      rw [b1]
      exact aAll.same sm3
  · obtain ⟨sm, acc, hacc, aAll⟩ := p
    rw [hA.mlen, List.take_length] at aAll
    exact fin H' sm ⟨acc, hacc, aAll⟩
/-- [(labels, f(..)) for labels, value in v] -/
theorem comp_map {a D : Addr} {v : Vec} {f : Lab × Int → Int} {te : TE} {j1 j2 : Nat} {σ : St} {H1 : Hp} {Qd : Hp → Prop} (hv : VecAt K H1 a v) (hl : v.length ≤ 60000) (hD : H1 D = none) (wj : ∀ x y, wipe (((wipe σ [j1, j2]).set j1 (some x)).set j2 (some y)) [j1, j2] = wipe σ [j1, j2])
    (elt : ∀ (p : Lab × Int) (x : V) (H2 : Hp), p ∈ v → Same H1 H2 → At K H2 x (encL p.1) → ∀ Q' : VK, (∀ t H3, Same H2 H3 → H2 t = none → H3 t = some (.tup [x, .int (f p)]) → Q' (.ref t) H3) → te (((wipe σ [j1, j2]).set j1 (some x)).set j2 (some (.int p.2))) H2 Q')
    (fin : ∀ (H2 : Hp), Same H1 H2 → VecAt K H2 D (v.map fun p => (p.1, f p)) → Qd H2) :
    ∃ W : Nat → Nat → Hp → Prop, (∃ m, W 0 m (upd H1 D (.lst []))) ∧ ∀ i m H, W i m H → ((Itl K a).stop i H ∧ Qd H) ∨ ((Itl K a).go i H ∧ ∃ Nx : Hp → Prop, (∀ H', Nx H' → ∃ m', m' < m ∧ W (i + 1) m' H') ∧ ∀ x H', (Itl K a).yld i H x H' → gTup K 2 (gCons (gName j1) (gCons (gName j2) gNil)) x (wipe σ [j1, j2]) H' fun σ2 H2 => wipe σ2 [j1, j2] = wipe σ [j1, j2] ∧ tYes σ2 H2 fun b H3 =>
      if b = true then te σ2 H3 fun y H4 => ∃ acc, H4 D = some (.lst acc) ∧ acc.length < sizeLine ∧ Nx (upd H4 D (.lst (acc ++ [y]))) else Nx H3) := by
  obtain ⟨xs, hS, hA⟩ := hv
  refine lc_list (xs := xs) (fun i H' => Same H1 H' ∧ ∃ acc, H' D = some (.lst acc) ∧ AtAll K H' acc (((v.take i).map fun p => (p.1, f p)).map encP)) ⟨same_new hD _, [], upd_same, .nil⟩ (fun i H' _ p => .inl (.inl (p.1 _ _ hS))) (fun i x H' hx p => ?_) (fun H' p => ?_)
  · obtain ⟨sm, acc, hacc, aAll⟩ := p
    obtain ⟨pr, hp, hA1⟩ := hA.mget hx
    obtain ⟨c, y, rfl, hc, hy⟩ := (hA1.same sm).P
    refine ⟨c, _, rfl, hc, rfl, y, _, rfl, _, _, rfl, rfl, wj _ _, elt pr y H' (List.mem_of_getElem? hp) sm hy _ fun t H3 sm3 nt ht => ?_⟩
    have hacc' := sm3 _ _ hacc
    have z : acc.length < sizeLine := by
      have h1 := aAll.mlen
      rw [List.length_map, List.length_take] at h1
      exact few63 (by omega)
    refine ⟨acc, hacc', z, Same.mut (sm.trans sm3) hD, acc ++ [.ref t], upd_same, ?_⟩
    rw [takex hp, List.map_append, List.map_append]
    exact ((aAll.same sm3).keep (Kt.lst hacc')).append (.cons ((At.tup_mk (SqT.of ht) (.cons (hy.same sm3) (.cons At.int .nil))).keep (Kt.lst hacc')) .nil)
  · obtain ⟨sm, acc, hacc, aAll⟩ := p
    rw [hA.mlen, List.take_length] at aAll
    exact fin H' sm ⟨acc, hacc, aAll⟩
/-- {labels: .. for labels, value in v} -/
theorem comp_dict {a D : Addr} {v : Vec} {val : Lab × Int → V} {tv : TE} {j1 j2 : Nat} {σ : St} {H1 : Hp} {Qd : Hp → Prop} (hv : VecAt K H1 a v) (hl : v.length ≤ 60000) (hn : (v.map (·.1)).Nodup) (hD : H1 D = none) (wj : ∀ x y, wipe (((wipe σ [j1, j2]).set j1 (some x)).set j2 (some y)) [j1, j2] = wipe σ [j1, j2]) (gj : ∀ x y, (((wipe σ [j1, j2]).set j1 (some x)).set j2 (some y))[j1]? = some (some x))
    (elt : ∀ (p : Lab × Int) (x : V) (H2 : Hp) (Q' : VK), Q' (val p) H2 → tv (((wipe σ [j1, j2]).set j1 (some x)).set j2 (some (.int p.2))) H2 Q')
    (fin : ∀ (H2 : Hp) (gs : List (Lab × Addr × V)), Same H1 H2 → DAt P w K encL H2 D gs → ((gs.map fun g => (g.1, g.2.2)) = v.map fun p => (p.1, val p)) → Qd H2) :
    ∃ W : Nat → Nat → Hp → Prop, (∃ m, W 0 m (upd H1 D (dN P w D []))) ∧ ∀ i m H, W i m H → ((Itl K a).stop i H ∧ Qd H) ∨ ((Itl K a).go i H ∧ ∃ Nx : Hp → Prop, (∀ H', Nx H' → ∃ m', m' < m ∧ W (i + 1) m' H') ∧
      ∀ x H', (Itl K a).yld i H x H' → gTup K 2 (gCons (gName j1) (gCons (gName j2) gNil)) x (wipe σ [j1, j2]) H' fun σ2 H2 => wipe σ2 [j1, j2] = wipe σ [j1, j2] ∧ tVar j1 σ2 H2 fun y H4 => tv σ2 H4 fun z H5 => endN P w K D y z H5 Nx) := by
  obtain ⟨xs, hS, hA⟩ := hv
  refine dcN_list (xs := xs) (fun i H' => Same H1 H' ∧ ∃ gs, DAt P w K encL H' D gs ∧ ((gs.map fun g => (g.1, g.2.2)) = (v.take i).map fun p => (p.1, val p))) ⟨same_new hD _, [], DAt.start, rfl⟩ (fun i H' _ p => .inl (.inl (p.1 _ _ hS))) (fun i x H' hx p => ?_) (fun H' p => ?_)
  · obtain ⟨sm, gs, dat, eg⟩ := p
    obtain ⟨pr, hp, hA1⟩ := hA.mget hx
    obtain ⟨c, y, rfl, hc, hy⟩ := (hA1.same sm).P
    obtain ⟨b, _, rfl, _⟩ := hy.tup_of
    refine ⟨c, _, rfl, hc, rfl, .ref b, _, rfl, _, _, rfl, rfl, wj _ _, _, gj _ _, elt pr _ H' _ ?_⟩
    have hkeys : gs.map (·.1) = (v.take i).map (·.1) := by
      have := congrArg (List.map Prod.fst) eg
      rwa [List.map_map, List.map_map] at this
    have new : pr.1 ∉ gs.map (·.1) := fun h => by
      rw [hkeys] at h
      have := hn
      rw [← List.take_append_drop i v, List.map_append, List.nodup_append] at this
      refine this.2.2 pr.1 h pr.1 ?_ rfl
      rw [dropx hp]
      simp
    have lg : gs.length ≤ v.length := by
      have := congrArg List.length hkeys
      rw [List.length_map, List.length_map, List.length_take] at this
      omega
    refine ⟨_, b, _, rfl, dat.at_, dat.ks kfL, key_mk kfL hy, by rw [enG_len]; exact few63 (by omega), Same.mut sm hD, gs ++ [(pr.1, b, val pr)], ?_, ?_⟩
    · rw [putE_new (by rw [atE_G kfL]; exact getG_none new)]
      exact dat.put hy
    · rw [takex hp, List.map_append, List.map_append, eg]
      rfl
  · obtain ⟨sm, gs, dat, eg⟩ := p
    rw [hA.mlen, List.take_length] at eg
    exact fin H' gs sm dat eg
/-- sorted(..) of entries -/
theorem sort_vec {H : Hp} {a : Addr} {v : Vec} (hv : VecAt K H a v) (hl : v.length ≤ 60000) : ∃ bs : List (V × PyData), SqL K H a (bs.map (·.1)) ∧ Sorts K H bs ∧ ∀ p, H p = none → VecAt K (upd H p (.lst ((bs.mergeSort leD).map (·.1)))) p (sortP v) := by
  obtain ⟨vs, hS, hA⟩ := hv
  obtain ⟨e1, e2, e3⟩ := zip_at hA
  refine ⟨vs.zip (v.map encP), by rw [e1]; exact SqL.of hS, sorts_mk e3 e2 alike_P (fun a => ⟨_, rfl⟩) (fun a => Nat.le_trans (depth_P a) (by decide)) hl, fun p hp => ⟨_, upd_same, ?_⟩⟩
  exact (sort_at e3 e2).same (same_new hp _)
end
end L2.Q9


set_option Elab.async false
set_option linter.all false
set_option maxRecDepth 100000
set_option maxHeartbeats 4000000
/-! Q9: operators of vectors. -/
namespace L2.Q9
open PySem PySem.Spec PyProof.Rows

section
variable {X : Cx} {P : Program} {w : World} {K : PySem.W.Frag}
theorem x_dc {kx vx tg iter : Expr} {scope : Scope} {own : List (Str × Nat)} {pos : Pos} {wi : TI} {g : TG} {tk tv : TE} (eP : X.prog = P) (ew : X.w = w) (eK : X.K = K) (hu : X.A.units + 64 < cLine) (hc : X.calm = true) (hN : X.N.Nodup) (hi : PI X tg iter wi) (ok : BlkOk X.N X.env.scope scope own)
    (hg : ∀ s H C cl fp, PG (X.blk s H scope (compEnvC scope cl C X.env) fp) tg g) (hk : ∀ s H C cl fp, PE (X.blk s H scope (compEnvC scope cl C X.env) fp) kx tk)
    (he : ∀ s H C cl fp, PE (X.blk s H scope (compEnvC scope cl C X.env) fp) vx tv) (hs : ∀ x, foldedSetIterable iter X.env x = pure x := by intro _; rfl) :
    PE X (.DictComp kx vx [⟨tg, iter, [], 0⟩] scope pos) (tDcN P w K wi g tk tv (own.map (·.2))) := by
  subst eP ew eK
  exact pe_dcN hu hc hN hi ok hg hk he hs
end
def ValAt (K : PySem.W.Frag) (H : Hp) (v : V) : Val → Prop
  | .num n => v = .int n
  | .vec u => ∃ a, v = .ref a ∧ VecAt K H a u
def VlOk (N B : Nat) : Val → Prop
  | .num n => n.natAbs < 2 ^ B
  | .vec v => VOk N B v
def kdV : Val → Kd
  | .num _ => .num
  | .vec _ => .vec
theorem ValAt.same {K : PySem.W.Frag} {H H' : Hp} {v : V} {x : Val} (h : ValAt K H v x) (s : Same H H') : ValAt K H' v x := by
  cases x with
  | num n => exact h
  | vec u =>
    obtain ⟨a, e, h⟩ := h
    exact ⟨a, e, h.same s⟩
theorem jn_in (s : Str) : inV (.str s) [.str "or", .str "and", .str "unless"] = isJn s := inV_str s ["or", "and", "unless"]
theorem ar_in (s : Str) : inV (.str s) [.str "+", .str "-", .str "*"] = isAr s := inV_str s ["+", "-", "*"]
section
variable {P : Program} {w : World} {K : PySem.W.Frag} {mg : Str → Option Value} {base : Heap}

/-! ### join -/
abbrev s10 : Stmt := topS 10
theorem sc10 : FnScope ["sign", "left", "right", "left_labels", "right_labels", "labels", "_", "entry"] ["sign", "left", "right"] (defScope s10) := ⟨rfl, rfl, rfl, by decide +kernel, rfl, by decide +kernel, by decide +kernel⟩

def spJoin (K : PySem.W.Frag) : Sp := fun vs H Q _ => ∃ s a b v u N B, vs = [.str s, .ref a, .ref b] ∧ VecAt K H a v ∧ VecAt K H b u ∧ VOk N B v ∧ VOk N B u ∧ N ≤ 20000 ∧ ∀ p H', Same H H' → H p = none → VecAt K H' p (joinV s v u) → Q (.ref p) H'
theorem ok10 {f : Addr} {fd : FuncData} (F : Fun K "join" "join" s10 f fd) (msrt : mg "sorted" = none) : FnOk P w K mg base CX0 1 f fd ["sign", "left", "right"] (spJoin K) := by
  refine F.ok sc10 (fun vs H Q E h => ?_) (fun cdv A outer s H vs Q E hr h => ?_)
  · obtain ⟨s, a, b, v, u, N, B, rfl, _⟩ := h
    rfl
  obtain ⟨sg, a, b, v, u, N, B, rfl, hv, hw, ov, ow, hN, q⟩ := h
  have hu := hr.units
  refine ⟨_, pss_cons (ps_set (i := 3) sc10.nd rfl (Or.inr rfl) (x_dc (P := P) (w := w) (K := K) (own := [("labels", 5), ("_", 6)]) (g := gTup K 2 (gCons (gName 5) (gCons (gName 6) gNil))) rfl rfl rfl hu (by rfl) sc10.nd (pi_list (pv 1)) (blkOk_by (own := [("labels", 5), ("_", 6)]) (N := ["sign", "left", "right", "left_labels", "right_labels", "labels", "_", "entry"]) (sc := defScope s10) (by decide +kernel)) (fun _ _ _ _ _ => pg_tup rfl (pgs_cons (pg_name (i := 5) sc10.nd rfl (Or.inl rfl)) (pgs_cons (pg_name (i := 6) sc10.nd rfl (Or.inl rfl)) pgs_nil))) (fun _ _ _ _ _ => pv 5) (fun _ _ _ _ _ => pe_bl)))
    (pss_cons (ps_set (i := 4) sc10.nd rfl (Or.inr rfl) (x_dc (P := P) (w := w) (K := K) (own := [("labels", 5), ("_", 6)]) (g := gTup K 2 (gCons (gName 5) (gCons (gName 6) gNil))) rfl rfl rfl hu (by rfl) sc10.nd (pi_list (pv 2)) (blkOk_by (own := [("labels", 5), ("_", 6)]) (N := ["sign", "left", "right", "left_labels", "right_labels", "labels", "_", "entry"]) (sc := defScope s10) (by decide +kernel)) (fun _ _ _ _ _ => pg_tup rfl (pgs_cons (pg_name (i := 5) sc10.nd rfl (Or.inl rfl)) (pgs_cons (pg_name (i := 6) sc10.nd rfl (Or.inl rfl)) pgs_nil))) (fun _ _ _ _ _ => pv 5) (fun _ _ _ _ _ => pe_bl)))
    (pss_cons (ps_if (pt_cmpR op_eq (pv 0) pe_str (nomark _)) (pss_one (ps_ret (pe_lc (own := [("entry", 7)]) (g := gName 7) (by rfl) sc10.nd (pi_list (pv 1)) (blkOk_by (own := [("entry", 7)]) (N := ["sign", "left", "right", "left_labels", "right_labels", "labels", "_", "entry"]) (sc := defScope s10) (by decide +kernel)) (fun _ _ _ _ _ => pg_name (i := 7) sc10.nd rfl (Or.inl rfl)) (fun _ _ _ _ _ => pts_one (pt_cmpR (r := rInN P w K false) (x_in rfl rfl rfl hu) (pe_ix (r := rIxT K) ix_tup (pv 7) pe_int (fun _ _ => rfl)) (pv 4) (by rfl))) (fun _ _ _ _ _ => pv 7)))) pss_nil)
    (pss_cons (ps_if (pt_cmpR op_eq (pv 0) pe_str (nomark _)) (pss_one (ps_ret (pe_lc (own := [("entry", 7)]) (g := gName 7) (by rfl) sc10.nd (pi_list (pv 1)) (blkOk_by (own := [("entry", 7)]) (N := ["sign", "left", "right", "left_labels", "right_labels", "labels", "_", "entry"]) (sc := defScope s10) (by decide +kernel)) (fun _ _ _ _ _ => pg_name (i := 7) sc10.nd rfl (Or.inl rfl)) (fun _ _ _ _ _ => pts_one (pt_cmpR (r := rInN P w K true) (x_notIn rfl rfl rfl hu) (pe_ix (r := rIxT K) ix_tup (pv 7) pe_int (fun _ _ => rfl)) (pv 4) (by rfl))) (fun _ _ _ _ _ => pv 7)))) pss_nil)
    (pss_one (ps_ret (pe_callB (x_sortL (K := K) rfl hu) (by rfl) msrt boot_sorted (pa_cons (pe_op op_cat (pv 1) (pe_lc (own := [("entry", 7)]) (g := gName 7) (by rfl) sc10.nd (pi_list (pv 2)) (blkOk_by (own := [("entry", 7)]) (N := ["sign", "left", "right", "left_labels", "right_labels", "labels", "_", "entry"]) (sc := defScope s10) (by decide +kernel)) (fun _ _ _ _ _ => pg_name (i := 7) sc10.nd rfl (Or.inl rfl)) (fun _ _ _ _ _ => pts_one (pt_cmpR (r := rInN P w K true) (x_notIn rfl rfl rfl hu) (pe_ix (r := rIxT K) ix_tup (pv 7) pe_int (fun _ _ => rfl)) (pv 3) (by rfl))) (fun _ _ _ _ _ => pv 7))) pa_nil))))))), ?_⟩
  have hv' := hv
  obtain ⟨vvs, hvS, hvA⟩ := hv'
  have hw' := hw
  obtain ⟨wvs, hwS, hwA⟩ := hw'
  refine ⟨_, rfl, a, rfl, ⟨_, SqL.of hvS⟩, fun D1 hD1 => ?_⟩
  refine comp_dict (v := v) (val := fun _ => .bl true) hv (by have := ov.len; omega) ov.nodup hD1 (fun _ _ => rfl) (fun _ _ => rfl) (fun p x H2 Q' hq => hq) fun H1 gl sm1 dl el => ?_
  refine ⟨_, rfl, b, rfl, ⟨_, SqL.of (sm1 _ _ hwS)⟩, fun D2 hD2 => ?_⟩
  refine comp_dict (v := u) (val := fun _ => .bl true) (hw.same sm1) (by have := ow.len; omega) ow.nodup hD2 (fun _ _ => rfl) (fun _ _ => rfl) (fun p x H2 Q' hq => hq) fun H2 gr sm2 dr er => ?_
  have sm := sm1.trans sm2
  have dl := dl.same sm2
  have inner : ∀ (neg : Bool) (es : List (Lab × Addr × V)) (D : Addr) (t : Vec) (sx : V) (H1' : Hp), Same H2 H1' → DAt P w K encL H2 D es → ((es.map fun g => (g.1, g.2.2)) = t.map fun p => (p.1, V.bl true)) → ∀ (k : Lab) (x : V), At K H1' x (encL k) → ∀ Q' : Bool → Hp → Prop, Q' (if neg = true then !hasK t k else hasK t k) H1' → ∃ d es' b' k', V.ref D = .ref d ∧ x = .ref b' ∧ H1' d = some (dN P w d es') ∧ KeysAt K H1' es' ∧ KeyAt K H1' b' k' ∧ ∃ c, V.bl (if neg = true then !(atE es' k').isSome else (atE es' k').isSome) = V.bl c ∧ Q' c H1' := by
    intro neg es D t sx H1' s1 dat et k x hx Q' hq
    obtain ⟨kb, _, rfl, _⟩ := hx.tup_of
    have dat := dat.same s1
    refine ⟨D, _, kb, _, rfl, rfl, dat.at_, dat.ks kfL, key_mk kfL hx, _, rfl, ?_⟩
    rw [atE_G kfL, get_has et]
    exact hq
  unfold joinV at q
  refine ⟨_, rfl, rfl, _, rfl, strT (fun c => ?_) (fun c => ?_)⟩
  · rw [if_pos c] at q
    refine ⟨_, rfl, a, rfl, ⟨_, SqL.of (sm _ _ hvS)⟩, fun D hD => ?_⟩
    refine comp_rows (v := v) (fl := fun p => hasK u p.1) (hv.same sm) (by have := ov.len; omega) hD (fun _ => rfl) (fun _ => rfl) (fun p c x H3 hp sm3 hc hx Q' hq => ?_) fun H3 sm3 h3 => q D H3 (sm.trans sm3) (sm.free hD) h3
    refine ⟨_, rfl, c, _, 0, _, rfl, rfl, hc, rfl, _, rfl, ?_⟩
    exact inner false gr D2 u x H3 sm3 dr er p.1 x hx Q' (hq H3 (Same.refl H3))
  rw [if_neg c] at q
  refine ⟨_, rfl, rfl, _, rfl, strT (fun c => ?_) (fun c => ?_)⟩
  · rw [if_pos c] at q
    refine ⟨_, rfl, a, rfl, ⟨_, SqL.of (sm _ _ hvS)⟩, fun D hD => ?_⟩
    refine comp_rows (v := v) (fl := fun p => !hasK u p.1) (hv.same sm) (by have := ov.len; omega) hD (fun _ => rfl) (fun _ => rfl) (fun p c x H3 hp sm3 hc hx Q' hq => ?_) fun H3 sm3 h3 => q D H3 (sm.trans sm3) (sm.free hD) h3
    refine ⟨_, rfl, c, _, 0, _, rfl, rfl, hc, rfl, _, rfl, ?_⟩
    exact inner true gr D2 u x H3 sm3 dr er p.1 x hx Q' (hq H3 (Same.refl H3))
  rw [if_neg c] at q
  refine ⟨_, rfl, _, rfl, b, rfl, ⟨_, SqL.of (sm _ _ hwS)⟩, fun D hD => ?_⟩
  refine comp_rows (v := u) (fl := fun p => !hasK v p.1) (hw.same sm) (by have := ow.len; omega) hD (fun _ => rfl) (fun _ => rfl) (fun p c x H3 hp sm3 hc hx Q' hq => ?_) fun H3 sm3 h3 => ?_
  · refine ⟨_, rfl, c, _, 0, _, rfl, rfl, hc, rfl, _, rfl, ?_⟩
    exact inner true gl D1 v x H3 sm3 dl el p.1 x hx Q' (hq H3 (Same.refl H3))
  obtain ⟨fvs, hfS, hfA⟩ := h3
  have l1 := hvA.mlen
  have l2 := hfA.mlen
  have l3 : (u.filter fun p => !hasK v p.1).length ≤ u.length := List.length_filter_le _ _
  have ln1 := ov.len
  have ln2 := ow.len
  refine ⟨a, D, _, _, rfl, rfl, sm3 _ _ (sm _ _ hvS), hfS, Nat.le_of_lt (few63 (by omega)), fun C hC => ?_⟩
  have smc := same_new hC (HO.lst (vvs ++ fvs))
  have hcat : VecAt K (upd H3 C (.lst (vvs ++ fvs))) C (v ++ u.filter fun p => !hasK v p.1) := ⟨_, upd_same, by rw [List.map_append]; exact ((hvA.same (sm.trans sm3)).append hfA).same smc⟩
  obtain ⟨bs, b1, b2, b3⟩ := sort_vec hcat (by rw [List.length_append]; omega)
  refine ⟨C, bs, rfl, b1, b2, fun p hp => ?_⟩
  have sm4 := (sm.trans sm3).trans smc
  exact q p _ (sm4.trans (same_new hp _)) (sm4.free hp) (b3 p hp)

/-! ### binary_vectors -/
abbrev s11 : Stmt := topS 11
theorem sc11 : FnScope ["sign", "left", "right", "values", "both", "labels", "value", "entry"] ["sign", "left", "right"] (defScope s11) := ⟨rfl, rfl, rfl, by decide +kernel, rfl, by decide +kernel, by decide +kernel⟩

/-- the module's tuple of signs -/
def ArOk (K : PySem.W.Frag) (mg : Str → Option Value) : Prop := ∃ a, mg "ARITHMETIC" = some (.ref a) ∧ ∀ H, SqT K H a [.str "+", .str "-", .str "*"]
def spBinV (K : PySem.W.Frag) : Sp := fun vs H Q _ => ∃ s a b v u N B, vs = [.str s, .ref a, .ref b] ∧ VecAt K H a v ∧ VecAt K H b u ∧ VOk N B v ∧ VOk N B u ∧ N ≤ 20000 ∧ 0 < B ∧ B ≤ 400000 ∧ ∀ p H', Same H H' → H p = none → VecAt K H' p (vecV s v u) → Q (.ref p) H'
theorem VOk.filter {N B : Nat} {v : Vec} (h : VOk N B v) (f : Lab × Int → Bool) : VOk N B (v.filter f) := ⟨asc_filter h.asc f, Nat.le_trans (List.length_filter_le _ _) h.len, fun p hp => h.bits p (List.mem_filter.mp hp).1, fun p hp => h.short p (List.mem_filter.mp hp).1⟩
theorem getK_bits {N B : Nat} {v : Vec} (h : VOk N B v) {k : Lab} (hk : hasK v k = true) : (getK v k).natAbs < 2 ^ B := by
  rw [← find_has] at hk
  obtain ⟨p, hp⟩ := Option.isSome_iff_exists.mp hk
  unfold getK
  rw [hp]
  exact h.bits p (List.mem_of_find?_eq_some hp)
theorem ok11 {f f8 f9 : Addr} {fd fd8 fd9 : FuncData} (F : Fun K "binary_vectors" "binary_vectors" s11 f fd) (G8 : FnOk P w K mg base CX0 1 f8 fd8 ["sign", "left", "right"] spCompute) (k8 : PySem.W.keepIn K (.ref f8) = true) (b8 : Binds K fd8 ["sign", "left", "right"] []) (m8 : mg "compute" = some (.ref f8))
    (G9 : FnOk P w K mg base CX0 1 f9 fd9 ["sign", "left", "right"] spHolds) (k9 : PySem.W.keepIn K (.ref f9) = true) (b9 : Binds K fd9 ["sign", "left", "right"] []) (m9 : mg "holds" = some (.ref f9)) (AR : ArOk K mg) : FnOk P w K mg base CX0 2 f fd ["sign", "left", "right"] (spBinV K) := by
  obtain ⟨arA, arM, arS⟩ := AR
  refine F.ok sc11 (fun vs H Q E h => ?_) (fun cdv A outer s H vs Q E hr h => ?_)
  · obtain ⟨s, a, b, v, u, N, B, rfl, _⟩ := h
    rfl
  obtain ⟨sg, a, b, v, u, N, B, rfl, hv, hw, ov, ow, hN, hB0, hB, q⟩ := h
  have hu := hr.units
  refine ⟨_, pss_cons (ps_set (i := 3) sc11.nd rfl (Or.inr rfl) (x_dc (P := P) (w := w) (K := K) (own := [("labels", 5), ("value", 6)]) (g := gTup K 2 (gCons (gName 5) (gCons (gName 6) gNil))) rfl rfl rfl hu (by rfl) sc11.nd (pi_list (pv 2)) (blkOk_by (own := [("labels", 5), ("value", 6)]) (N := ["sign", "left", "right", "values", "both", "labels", "value", "entry"]) (sc := defScope s11) (by decide +kernel)) (fun _ _ _ _ _ => pg_tup rfl (pgs_cons (pg_name (i := 5) sc11.nd rfl (Or.inl rfl)) (pgs_cons (pg_name (i := 6) sc11.nd rfl (Or.inl rfl)) pgs_nil))) (fun _ _ _ _ _ => pv 5) (fun _ _ _ _ _ => pv 6)))
    (pss_cons (ps_setLc (i := 4) (own := [("entry", 7)]) (g := gName 7) (by rfl) sc11.nd rfl rfl (sw_true rfl rfl rfl (by decide +kernel)) (pi_list (pv 1)) (blkOk_by (own := [("entry", 7)]) (N := ["sign", "left", "right", "values", "both", "labels", "value", "entry"]) (sc := defScope s11) (by decide +kernel)) (fun _ _ _ _ _ => pg_name (i := 7) sc11.nd rfl (Or.inl rfl)) (fun _ _ _ _ _ => pts_one (pt_cmpR (r := rInN P w K false) (x_in rfl rfl rfl hu) (pe_ix (r := rIxT K) ix_tup (pv 7) pe_int (fun _ _ => rfl)) (pv 3) (by rfl))) (fun _ _ _ _ _ => pv 7))
    (pss_cons (ps_if (pt_cmpR op_in_seq (pv 0) (pe_glob (v := .ref arA) (by rfl) arM rfl) (by rfl)) (pss_one (ps_ret (pe_lc (own := [("labels", 5), ("value", 6)]) (g := gTup K 2 (gCons (gName 5) (gCons (gName 6) gNil))) (by rfl) sc11.nd (pi_list (pv 4)) (blkOk_by (own := [("labels", 5), ("value", 6)]) (N := ["sign", "left", "right", "values", "both", "labels", "value", "entry"]) (sc := defScope s11) (by decide +kernel)) (fun _ _ _ _ _ => pg_tup rfl (pgs_cons (pg_name (i := 5) sc11.nd rfl (Or.inl rfl)) (pgs_cons (pg_name (i := 6) sc11.nd rfl (Or.inl rfl)) pgs_nil))) (fun _ _ _ _ _ => pts_nil) (fun _ _ _ _ _ => pe_tup (pa_cons (pv 5) (pa_cons (pe_call (sp := spCompute) G8 hr rfl m8 k8 b8 .nil pass0 (pa_cons (pv 0) (pa_cons (pv 6) (pa_cons (x_get (P := P) (w := w) (K := K) rfl rfl rfl hu (pv 3) (pv 5) (fun _ _ => rfl)) pa_nil)))) pa_nil)))))) pss_nil)
    (pss_one (ps_ret (pe_lc (own := [("entry", 7)]) (g := gName 7) (by rfl) sc11.nd (pi_list (pv 4)) (blkOk_by (own := [("entry", 7)]) (N := ["sign", "left", "right", "values", "both", "labels", "value", "entry"]) (sc := defScope s11) (by decide +kernel)) (fun _ _ _ _ _ => pg_name (i := 7) sc11.nd rfl (Or.inl rfl)) (fun _ _ _ _ _ => pts_one (pt_val (pe_call (sp := spHolds) G9 hr rfl m9 k9 b9 .nil pass0 (pa_cons (pv 0) (pa_cons (pe_ix (r := rIxT K) ix_tup (pv 7) pe_int (fun _ _ => rfl)) (pa_cons (x_get (P := P) (w := w) (K := K) rfl rfl rfl hu (pv 3) (pe_ix (r := rIxT K) ix_tup (pv 7) pe_int (fun _ _ => rfl)) (fun _ _ => rfl)) pa_nil)))))) (fun _ _ _ _ _ => pv 7)))))), ?_⟩
  have hv' := hv
  obtain ⟨vvs, hvS, hvA⟩ := hv'
  have hw' := hw
  obtain ⟨wvs, hwS, hwA⟩ := hw'
  refine ⟨_, rfl, b, rfl, ⟨_, SqL.of hwS⟩, fun D1 hD1 => ?_⟩
  refine comp_dict (v := u) (val := fun p => .int p.2) hw (by have := ow.len; omega) ow.nodup hD1 (fun _ _ => rfl) (fun _ _ => rfl) (fun p x H2 Q' hq => ⟨_, rfl, hq⟩) fun H1 gr sm1 dr er => ?_
  refine ⟨_, rfl, a, rfl, ⟨_, SqL.of (sm1 _ _ hvS)⟩, fun D2 hD2 => ?_⟩
  refine comp_rows (v := v) (fl := fun p => hasK u p.1) (hv.same sm1) (by have := ov.len; omega) hD2 (fun _ => rfl) (fun _ => rfl) (fun p c x H3 hp sm3 hc hx Q' hq => ?_) fun H2 sm2 h2 => ?_
  · obtain ⟨kb, _, rfl, _⟩ := hx.tup_of
    have dat := dr.same sm3
    refine ⟨_, rfl, c, _, 0, _, rfl, rfl, hc, rfl, _, rfl, D1, _, kb, _, rfl, rfl, dat.at_, dat.ks kfL, key_mk kfL hx, _, rfl, ?_⟩
    rw [atE_G kfL, if_neg Bool.false_ne_true, get_has er]
    exact hq H3 (Same.refl H3)
  have sm := sm1.trans sm2
  have dr2 := dr.same sm2
  have oB := ov.filter fun p => hasK u p.1
  unfold vecV at q
  refine ⟨_, rfl, arA, _, rfl, .inr (arS _), rfl, rfl, _, rfl, iteB (fun c => ?_) (fun c => ?_)⟩
  · have c' : isAr sg = true := by rw [← ar_in]; exact c
    rw [if_pos c'] at q
    have h2' := h2
    obtain ⟨bvs, hbS, hbA⟩ := h2'
    refine ⟨_, rfl, D2, rfl, ⟨_, SqL.of hbS⟩, fun D hD => ?_⟩
    refine comp_map (v := v.filter fun p => hasK u p.1) (f := fun p => cmp sg p.2 (getK u p.1)) h2 (by have := oB.len; omega) hD (fun _ _ => rfl) (fun p x H3 hp sm3 hx Q' hq => ?_) fun H3 sm3 h3 => q D H3 (sm.trans sm3) (sm.free hD) h3
    obtain ⟨kb, _, rfl, _⟩ := hx.tup_of
    have dat := dr2.same sm3
    have hk : hasK u p.1 = true := (List.mem_filter.mp hp).2
    refine ⟨_, rfl, _, rfl, _, rfl, _, rfl, _, rfl, D1, _, kb, _, .int (getK u p.1), rfl, rfl, dat.at_, dat.ks kfL, key_mk kfL hx, by rw [atE_G kfL]; exact get_val er hk, ?_⟩
    refine ⟨sg, p.2, getK u p.1, B, rfl, oB.bits p hp, getK_bits ow hk, hB0, hB, (by show 2 ≤ sizeLine; decide), fun t ht => hq t _ (same_new ht _) ht upd_same⟩
  · have c' : ¬ isAr sg = true := by rw [← ar_in]; exact fun z => by have c2 : inV (.str sg) [.str "+", .str "-", .str "*"] = false := c; rw [z] at c2; cases c2
    rw [if_neg c'] at q
    have h2' := h2
    obtain ⟨bvs, hbS, hbA⟩ := h2'
    refine ⟨_, rfl, D2, rfl, ⟨_, SqL.of hbS⟩, fun D hD => ?_⟩
    refine comp_rows (v := v.filter fun p => hasK u p.1) (fl := fun p => hld sg p.2 (getK u p.1)) h2 (by have := oB.len; omega) hD (fun _ => rfl) (fun _ => rfl) (fun p c x H3 hp sm3 hc hx Q' hq => ?_) fun H3 sm3 h3 => q D H3 (sm.trans sm3) (sm.free hD) h3
    obtain ⟨kb, _, rfl, _⟩ := hx.tup_of
    have dat := dr2.same sm3
    have hk : hasK u p.1 = true := (List.mem_filter.mp hp).2
    refine ⟨_, rfl, _, rfl, c, _, 1, _, rfl, rfl, hc, rfl, _, rfl, _, rfl, c, _, 0, _, rfl, rfl, hc, rfl, D1, _, kb, _, .int (getK u p.1), rfl, rfl, dat.at_, dat.ks kfL, key_mk kfL hx, by rw [atE_G kfL]; exact get_val er hk, ?_⟩
    exact ⟨sg, p.2, getK u p.1, rfl, _, rfl, hq H3 (Same.refl H3)⟩

/-! ### binary -/
abbrev s12 : Stmt := topS 12
theorem sc12 : FnScope ["sign", "left", "right", "left_is_vector", "right_is_vector", "labels", "value", "entry"] ["sign", "left", "right"] (defScope s12) := ⟨rfl, rfl, rfl, by decide +kernel, rfl, by decide +kernel, by decide +kernel⟩

def spBin (K : PySem.W.Frag) : Sp := fun vs H Q _ => ∃ s l r x y N B, vs = [.str s, l, r] ∧ ValAt K H l x ∧ ValAt K H r y ∧ VlOk N B x ∧ VlOk N B y ∧ N ≤ 20000 ∧ 0 < B ∧ B ≤ 400000 ∧ (kdBin s (kdV x) (kdV y)).isSome = true ∧ ∀ v H', Same H H' → ValAt K H' v (binV s x y) → Q v H'
theorem isi_int {K : PySem.W.Frag} {H : Hp} {i : Int} : TyX K H (.int i) (.type "int") := .base (.int i)
theorem isi_lst {K : PySem.W.Frag} {H : Hp} {a : Addr} {xs : List V} (e : H a = some (.lst xs)) : TyX K H (.ref a) (.type "list") := .base (.lst e)
theorem ok12 {f f8 f9 f10 f11 : Addr} {fd fd8 fd9 fd10 fd11 : FuncData} (F : Fun K "binary" "binary" s12 f fd) (G8 : FnOk P w K mg base CX0 1 f8 fd8 ["sign", "left", "right"] spCompute) (k8 : PySem.W.keepIn K (.ref f8) = true) (b8 : Binds K fd8 ["sign", "left", "right"] []) (m8 : mg "compute" = some (.ref f8))
    (G9 : FnOk P w K mg base CX0 1 f9 fd9 ["sign", "left", "right"] spHolds) (k9 : PySem.W.keepIn K (.ref f9) = true) (b9 : Binds K fd9 ["sign", "left", "right"] []) (m9 : mg "holds" = some (.ref f9)) (G10 : FnOk P w K mg base CX0 1 f10 fd10 ["sign", "left", "right"] (spJoin K)) (k10 : PySem.W.keepIn K (.ref f10) = true) (b10 : Binds K fd10 ["sign", "left", "right"] []) (m10 : mg "join" = some (.ref f10))
    (G11 : FnOk P w K mg base CX0 2 f11 fd11 ["sign", "left", "right"] (spBinV K)) (k11 : PySem.W.keepIn K (.ref f11) = true) (b11 : Binds K fd11 ["sign", "left", "right"] []) (m11 : mg "binary_vectors" = some (.ref f11)) (AR : ArOk K mg) (misi : mg "isinstance" = none) (mlist : mg "list" = none) : FnOk P w K mg base CX0 3 f fd ["sign", "left", "right"] (spBin K) := by
  obtain ⟨arA, arM, arS⟩ := AR
  refine F.ok sc12 (fun vs H Q E h => ?_) (fun cdv A outer s H vs Q E hr h => ?_)
  · obtain ⟨s, l, r, x, y, N, B, rfl, _⟩ := h
    rfl
  obtain ⟨sg, l, r, x, y, N, B, rfl, hx, hy, ox, oy, hN, hB0, hB, hk, q⟩ := h
  refine ⟨_, pss_cons (ps_if (pt_cmpR op_in_seq (pv 0) (pe_tup (pa_cons pe_str (pa_cons pe_str (pa_cons pe_str pa_nil)))) (by rfl)) (pss_one (ps_ret (pe_call G10 (hr.mono (by decide)) rfl m10 k10 b10 .nil pass0 (pa_cons (pv 0) (pa_cons (pv 1) (pa_cons (pv 2) pa_nil)))))) pss_nil)
    (pss_cons (ps_set (i := 3) sc12.nd rfl (Or.inl rfl) (pe_callB call_isi (by rfl) misi boot_isinstance (pa_cons (pv 1) (pa_cons (pe_bltn (v := .ty "list") (by rfl) mlist boot_list rfl) pa_nil))))
    (pss_cons (ps_set (i := 4) sc12.nd rfl (Or.inl rfl) (pe_callB call_isi (by rfl) misi boot_isinstance (pa_cons (pv 2) (pa_cons (pe_bltn (v := .ty "list") (by rfl) mlist boot_list rfl) pa_nil))))
    (pss_cons (ps_if (PW.pt (pw_and (pt_val (pv 3)) (pw_and1 (pt_val (pv 4))))) (pss_one (ps_ret (pe_call G11 hr rfl m11 k11 b11 .nil pass0 (pa_cons (pv 0) (pa_cons (pv 1) (pa_cons (pv 2) pa_nil)))))) pss_nil)
    (pss_cons (ps_if (pt_cmpR op_in_seq (pv 0) (pe_glob (v := .ref arA) (by rfl) arM rfl) (by rfl))
      (pss_cons (ps_if (pt_val (pv 3)) (pss_one (ps_ret (pe_lc (own := [("labels", 5), ("value", 6)]) (g := gTup K 2 (gCons (gName 5) (gCons (gName 6) gNil))) (by rfl) sc12.nd (pi_list (pv 1)) (blkOk_by (own := [("labels", 5), ("value", 6)]) (N := ["sign", "left", "right", "left_is_vector", "right_is_vector", "labels", "value", "entry"]) (sc := defScope s12) (by decide +kernel)) (fun _ _ _ _ _ => pg_tup rfl (pgs_cons (pg_name (i := 5) sc12.nd rfl (Or.inl rfl)) (pgs_cons (pg_name (i := 6) sc12.nd rfl (Or.inl rfl)) pgs_nil))) (fun _ _ _ _ _ => pts_nil) (fun _ _ _ _ _ => pe_tup (pa_cons (pv 5) (pa_cons (pe_call (sp := spCompute) G8 (hr.mono (by decide)) rfl m8 k8 b8 .nil pass0 (pa_cons (pv 0) (pa_cons (pv 6) (pa_cons (pv 2) pa_nil)))) pa_nil)))))) pss_nil) (pss_cons (ps_if (pt_val (pv 4)) (pss_one (ps_ret (pe_lc (own := [("labels", 5), ("value", 6)]) (g := gTup K 2 (gCons (gName 5) (gCons (gName 6) gNil))) (by rfl) sc12.nd (pi_list (pv 2)) (blkOk_by (own := [("labels", 5), ("value", 6)]) (N := ["sign", "left", "right", "left_is_vector", "right_is_vector", "labels", "value", "entry"]) (sc := defScope s12) (by decide +kernel)) (fun _ _ _ _ _ => pg_tup rfl (pgs_cons (pg_name (i := 5) sc12.nd rfl (Or.inl rfl)) (pgs_cons (pg_name (i := 6) sc12.nd rfl (Or.inl rfl)) pgs_nil))) (fun _ _ _ _ _ => pts_nil) (fun _ _ _ _ _ => pe_tup (pa_cons (pv 5) (pa_cons (pe_call (sp := spCompute) G8 (hr.mono (by decide)) rfl m8 k8 b8 .nil pass0 (pa_cons (pv 0) (pa_cons (pv 1) (pa_cons (pv 6) pa_nil)))) pa_nil)))))) pss_nil) (pss_one (ps_ret (pe_call G8 (hr.mono (by decide)) rfl m8 k8 b8 .nil pass0 (pa_cons (pv 0) (pa_cons (pv 1) (pa_cons (pv 2) pa_nil)))))))) pss_nil)
    (pss_cons (ps_if (pt_val (pv 3)) (pss_one (ps_ret (pe_lc (own := [("entry", 7)]) (g := gName 7) (by rfl) sc12.nd (pi_list (pv 1)) (blkOk_by (own := [("entry", 7)]) (N := ["sign", "left", "right", "left_is_vector", "right_is_vector", "labels", "value", "entry"]) (sc := defScope s12) (by decide +kernel)) (fun _ _ _ _ _ => pg_name (i := 7) sc12.nd rfl (Or.inl rfl)) (fun _ _ _ _ _ => pts_one (pt_val (pe_call (sp := spHolds) G9 (hr.mono (by decide)) rfl m9 k9 b9 .nil pass0 (pa_cons (pv 0) (pa_cons (pe_ix (r := rIxT K) ix_tup (pv 7) pe_int (fun _ _ => rfl)) (pa_cons (pv 2) pa_nil)))))) (fun _ _ _ _ _ => pv 7)))) pss_nil)
    (pss_one (ps_ret (pe_lc (own := [("entry", 7)]) (g := gName 7) (by rfl) sc12.nd (pi_list (pv 2)) (blkOk_by (own := [("entry", 7)]) (N := ["sign", "left", "right", "left_is_vector", "right_is_vector", "labels", "value", "entry"]) (sc := defScope s12) (by decide +kernel)) (fun _ _ _ _ _ => pg_name (i := 7) sc12.nd rfl (Or.inl rfl)) (fun _ _ _ _ _ => pts_one (pt_val (pe_call (sp := spHolds) G9 (hr.mono (by decide)) rfl m9 k9 b9 .nil pass0 (pa_cons (pv 0) (pa_cons (pv 1) (pa_cons (pe_ix (r := rIxT K) ix_tup (pv 7) pe_int (fun _ _ => rfl)) pa_nil)))))) (fun _ _ _ _ _ => pv 7))))))))), ?_⟩
  refine ⟨_, rfl, (by show 3 ≤ sizeLine; decide), fun jt hjt => ?_⟩
  have smj := same_new hjt (HO.tup [.str "or", .str "and", .str "unless"])
  generalize hHj : upd H jt (HO.tup [.str "or", .str "and", .str "unless"]) = Hj at smj
  have hjs : SqT K Hj jt [.str "or", .str "and", .str "unless"] := by rw [← hHj]; exact SqT.of upd_same
  have hx := hx.same smj
  have hy := hy.same smj
  have kV : ∀ {a b : String} {c : Bool}, kitB a b = some c → PySem.W.kitOne K (.type a) (.type b) = some c := fun h => kit_ty h
  have tt : ∀ (c : Bool) {A B : Prop}, inV (.str sg) [.str "or", .str "and", .str "unless"] = c → (isJn sg = c) := fun c _ _ e => by rw [← jn_in]; exact e
  refine ⟨jt, _, rfl, .inr (by first | exact hjs | (rw [hHj]; exact hjs)), rfl, rfl, _, rfl, ?_⟩
  show if inV (.str sg) [.str "or", .str "and", .str "unless"] = true then _ else _
  rw [jn_in]
  cases x with
  | num m =>
    cases y with
    | num n =>
      obtain rfl : l = .int m := hx
      obtain rfl : r = .int n := hy
      have ar : isAr sg = true := by
        have h1 : (kdBin sg .num .num).isSome = true := hk
        unfold kdBin at h1
        by_cases c : isAr sg = true
        · exact c
        · rw [if_neg c] at h1; cases h1
      have jn : isJn sg = false := by
        unfold isAr at ar
        unfold isJn
        have := of_decide_eq_true ar
        simp only [List.mem_cons, List.not_mem_nil, or_false] at this
        rcases this with rfl | rfl | rfl <;> decide
      rw [jn]
      refine iteF ?_
      refine ⟨_, rfl, _, _, _, _, false, rfl, .ty "list", isi_int, kV (by decide +kernel), ?_⟩
      refine ⟨_, rfl, _, _, _, _, false, rfl, .ty "list", isi_int, kV (by decide +kernel), ?_⟩
      refine ⟨_, rfl, _, rfl, iteF ?_⟩
      refine ⟨_, rfl, arA, _, rfl, .inr (arS _), rfl, rfl, _, rfl, ?_⟩
      show if inV (.str sg) [.str "+", .str "-", .str "*"] = true then _ else _
      rw [ar_in, ar]
      refine iteT ?_
      refine ⟨_, rfl, _, rfl, iteF ?_⟩
      refine ⟨_, rfl, _, rfl, iteF ?_⟩
      refine ⟨_, rfl, _, rfl, _, rfl, sg, m, n, B, rfl, ox, oy, hB0, hB, ?_⟩
      exact q _ _ (by first | exact smj | (rw [hHj]; exact smj)) rfl
    | vec u =>
      obtain rfl : l = .int m := hx
      obtain ⟨b, rfl, hu2⟩ := hy
      have jn : isJn sg = false := by
        have h1 : (if isJn sg = true then none else some Kd.vec).isSome = true := hk
        cases c : isJn sg with
        | false => rfl
        | true => rw [c] at h1; cases h1
      rw [jn]
      refine iteF ?_
      have hu' := hu2
      obtain ⟨uvs, huS, huA⟩ := hu'
      have hl := oy.len
      refine ⟨_, rfl, _, _, _, _, false, rfl, .ty "list", isi_int, kV (by decide +kernel), ?_⟩
      refine ⟨_, rfl, _, _, _, _, true, rfl, .ty "list", isi_lst (by first | exact huS | (rw [hHj]; exact huS)), kV (by decide +kernel), ?_⟩
      refine ⟨_, rfl, _, rfl, iteF ?_⟩
      refine ⟨_, rfl, arA, _, rfl, .inr (arS _), rfl, rfl, _, rfl, ?_⟩
      show if inV (.str sg) [.str "+", .str "-", .str "*"] = true then _ else _
      rw [ar_in]
      have q2 : ∀ v H', Same H H' → ValAt K H' v (.vec (if isAr sg = true then u.map (fun p => (p.1, cmp sg m p.2)) else u.filter fun p => hld sg m p.2)) → Q v H' := q
      refine iteB (fun c => ?_) (fun c => ?_)
      · refine ⟨_, rfl, _, rfl, iteF ?_⟩
        refine ⟨_, rfl, _, rfl, iteT ?_⟩
        rw [if_pos c] at q2
        try rw [hHj]
        refine ⟨_, rfl, b, rfl, ⟨_, SqL.of huS⟩, fun D hD => ?_⟩
        refine comp_map (v := u) (f := fun p => cmp sg m p.2) hu2 (by omega) hD (fun _ _ => rfl) (fun p x H3 hp sm3 hx Q' hq => ?_) fun H3 sm3 h3 => q2 (.ref D) H3 (smj.trans sm3) ⟨D, rfl, h3⟩
        exact ⟨_, rfl, _, rfl, _, rfl, _, rfl, sg, m, p.2, B, rfl, ox, oy.bits p hp, hB0, hB, (by show 2 ≤ sizeLine; decide), fun t ht => hq t _ (same_new ht _) ht upd_same⟩
      · refine ⟨_, rfl, _, rfl, iteF ?_⟩
        rw [if_neg (by rw [c]; simp)] at q2
        try rw [hHj]
        refine ⟨_, rfl, b, rfl, ⟨_, SqL.of huS⟩, fun D hD => ?_⟩
        refine comp_rows (v := u) (fl := fun p => hld sg m p.2) hu2 (by omega) hD (fun _ => rfl) (fun _ => rfl) (fun p c x H3 hp sm3 hc hx Q' hq => ?_) fun H3 sm3 h3 => q2 (.ref D) H3 (smj.trans sm3) ⟨D, rfl, h3⟩
        exact ⟨_, rfl, _, rfl, _, rfl, c, _, 1, _, rfl, rfl, hc, rfl, sg, m, p.2, rfl, _, rfl, hq H3 (Same.refl H3)⟩
  | vec v =>
    obtain ⟨a, rfl, hv2⟩ := hx
    have hv' := hv2
    obtain ⟨vvs, hvS, hvA⟩ := hv'
    have hlv := ox.len
    cases y with
    | num n =>
      obtain rfl : r = .int n := hy
      have jn : isJn sg = false := by
        have h1 : (if isJn sg = true then none else some Kd.vec).isSome = true := hk
        cases c : isJn sg with
        | false => rfl
        | true => rw [c] at h1; cases h1
      rw [jn]
      refine iteF ?_
      refine ⟨_, rfl, _, _, _, _, true, rfl, .ty "list", isi_lst (by first | exact hvS | (rw [hHj]; exact hvS)), kV (by decide +kernel), ?_⟩
      refine ⟨_, rfl, _, _, _, _, false, rfl, .ty "list", isi_int, kV (by decide +kernel), ?_⟩
      refine ⟨_, rfl, _, rfl, iteT ?_⟩
      refine ⟨_, rfl, _, rfl, iteF ?_⟩
      refine ⟨_, rfl, arA, _, rfl, .inr (arS _), rfl, rfl, _, rfl, ?_⟩
      show if inV (.str sg) [.str "+", .str "-", .str "*"] = true then _ else _
      rw [ar_in]
      have q2 : ∀ w H', Same H H' → ValAt K H' w (.vec (if isAr sg = true then v.map (fun p => (p.1, cmp sg p.2 n)) else v.filter fun p => hld sg p.2 n)) → Q w H' := q
      refine iteB (fun c => ?_) (fun c => ?_)
      · refine ⟨_, rfl, _, rfl, iteT ?_⟩
        rw [if_pos c] at q2
        try rw [hHj]
        refine ⟨_, rfl, a, rfl, ⟨_, SqL.of hvS⟩, fun D hD => ?_⟩
        refine comp_map (v := v) (f := fun p => cmp sg p.2 n) hv2 (by omega) hD (fun _ _ => rfl) (fun p x H3 hp sm3 hx Q' hq => ?_) fun H3 sm3 h3 => q2 (.ref D) H3 (smj.trans sm3) ⟨D, rfl, h3⟩
        exact ⟨_, rfl, _, rfl, _, rfl, _, rfl, sg, p.2, n, B, rfl, ox.bits p hp, oy, hB0, hB, (by show 2 ≤ sizeLine; decide), fun t ht => hq t _ (same_new ht _) ht upd_same⟩
      · refine ⟨_, rfl, _, rfl, iteT ?_⟩
        rw [if_neg (by rw [c]; simp)] at q2
        try rw [hHj]
        refine ⟨_, rfl, a, rfl, ⟨_, SqL.of hvS⟩, fun D hD => ?_⟩
        refine comp_rows (v := v) (fl := fun p => hld sg p.2 n) hv2 (by omega) hD (fun _ => rfl) (fun _ => rfl) (fun p c x H3 hp sm3 hc hx Q' hq => ?_) fun H3 sm3 h3 => q2 (.ref D) H3 (smj.trans sm3) ⟨D, rfl, h3⟩
        exact ⟨_, rfl, _, rfl, c, _, 1, _, rfl, rfl, hc, rfl, _, rfl, sg, p.2, n, rfl, _, rfl, hq H3 (Same.refl H3)⟩
    | vec u =>
      obtain ⟨b, rfl, hu2⟩ := hy
      have hu' := hu2
      obtain ⟨uvs, huS, huA⟩ := hu'
      have q2 : ∀ w H', Same H H' → ValAt K H' w (.vec (if isJn sg = true then joinV sg v u else vecV sg v u)) → Q w H' := q
      refine iteB (fun c => ?_) (fun c => ?_)
      · rw [if_pos c] at q2
        try rw [hHj]
        exact ⟨_, rfl, _, rfl, _, rfl, sg, a, b, v, u, N, B, rfl, hv2, hu2, ox, oy, hN, fun p H' sm hp h => q2 (.ref p) H' (smj.trans sm) ⟨p, rfl, h⟩⟩
      · rw [if_neg (by rw [c]; simp)] at q2
        refine ⟨_, rfl, _, _, _, _, true, rfl, .ty "list", isi_lst (by first | exact hvS | (rw [hHj]; exact hvS)), kV (by decide +kernel), ?_⟩
        refine ⟨_, rfl, _, _, _, _, true, rfl, .ty "list", isi_lst (by first | exact huS | (rw [hHj]; exact huS)), kV (by decide +kernel), ?_⟩
        refine ⟨_, rfl, _, rfl, iteT ?_⟩
        refine ⟨_, rfl, _, rfl, iteT ?_⟩
        try rw [hHj]
        exact ⟨_, rfl, _, rfl, _, rfl, sg, a, b, v, u, N, B, rfl, hv2, hu2, ox, oy, hN, hB0, hB, fun p H' sm hp h => q2 (.ref p) H' (smj.trans sm) ⟨p, rfl, h⟩⟩

end
end L2.Q9


set_option Elab.async false
set_option linter.all false
set_option maxRecDepth 100000
set_option maxHeartbeats 4000000
/-! Q9: aggregations, the law's operators. -/
namespace L2.Q9
open PySem PySem.Spec PyProof.Rows

theorem agv_ovr {wd : Str} (h : wd ∈ (["sum", "min", "max", "count"] : List Str)) (vs : List Int) : ovr (wd ++ "_over") vs = agv wd vs := by
  simp only [List.mem_cons, List.not_mem_nil, or_false] at h
  rcases h with rfl | rfl | rfl | rfl
  · rfl
  · rfl
  · rfl
  · rfl
theorem only_len (l : Lab) (ns : List Str) : (only l ns).length ≤ l.length := List.length_filter_le _ _
section
variable {P : Program} {w : World} {K : PySem.W.Frag} {mg : Str → Option Value} {base : Heap}

/-! ### aggregate -/
abbrev s14 : Stmt := topS 14
theorem sc14 : FnScope ["word", "names", "vector", "found", "labels", "value", "left"] ["word", "names", "vector"] (defScope s14) := ⟨rfl, rfl, rfl, by decide +kernel, rfl, by decide +kernel, by decide +kernel⟩

def spAgg (K : PySem.W.Frag) : Sp := fun vs H Q _ => ∃ wd nv ns a v, vs = [.str wd, nv, .ref a] ∧ At K H nv (.tuple (ns.map .str)) ∧ VecAt K H a v ∧ v.length ≤ 20000 ∧ (∀ p ∈ v, p.1.length ≤ 20) ∧ wd ∈ (["sum", "min", "max", "count"] : List Str) ∧ ∀ p H', Same H H' → H p = none → VecAt K H' p (agg wd ns v) → Q (.ref p) H'
theorem ok14 {f f4 f13 : Addr} {fd fd4 fd13 : FuncData} (F : Fun K "aggregate" "aggregate" s14 f fd) (G4 : FnOk P w K mg base CX0 1 f4 fd4 ["labels", "names"] (spOnly K)) (k4 : PySem.W.keepIn K (.ref f4) = true) (b4 : Binds K fd4 ["labels", "names"] []) (m4 : mg "only" = some (.ref f4))
    (G13 : FnOk P w K mg base CX0 1 f13 fd13 ["word", "values"] (spAggV K)) (k13 : PySem.W.keepIn K (.ref f13) = true) (b13 : Binds K fd13 ["word", "values"] []) (m13 : mg "aggregate_values" = some (.ref f13)) (msrt : mg "sorted" = none) : FnOk P w K mg base CX0 2 f fd ["word", "names", "vector"] (spAgg K) := by
  refine F.ok sc14 (fun vs H Q E h => ?_) (fun cdv A outer s H vs Q E hr h => ?_)
  · obtain ⟨wd, nv, ns, a, v, rfl, _⟩ := h
    rfl
  obtain ⟨wd, nv, ns, va, v, rfl, hns, ⟨vvs, hV, hVA⟩, hlen, hsh, hwd, q⟩ := h
  have hu := hr.units
  refine ⟨_, pss_cons (ps_set (i := 3) sc14.nd rfl (Or.inr rfl) (x_new (P := P) (w := w) rfl rfl))
    (pss_cons (ps_for PassesOwn.never rfl (pi_list (pv 2)) (pg_tup rfl (pgs_cons (pg_name (i := 4) sc14.nd rfl (Or.inl rfl)) (pgs_cons (pg_name (i := 5) sc14.nd rfl (Or.inl rfl)) pgs_nil)))
      (pss_cons (ps_set (i := 6) sc14.nd rfl (Or.inl rfl) (pe_call G4 hr rfl m4 k4 b4 .nil pass0 (pa_cons (pv 4) (pa_cons (pv 1) pa_nil))))
      (pss_cons (ps_if (pt_cmpR (x_notIn (P := P) (w := w) (K := K) rfl rfl rfl hu) (pv 6) (pv 3) (by rfl)) (pss_one (ps_asg (pe_lst pa_nil) (pg_sub (pv 3) (pv 6) (x_set (P := P) (w := w) (K := K) rfl rfl rfl hu)))) pss_nil)
      (pss_one (ps_expr (pe_bm PySem.F.plainAttrs_list PySem.F.slot_list_append PySem.F.type_list_append mt_append (x_get (P := P) (w := w) (K := K) rfl rfl rfl hu (pv 3) (pv 6) (fun _ _ => rfl)) (pa_cons (pv 5) pa_nil)))))))
    (pss_one (ps_ret (pe_lc (own := [("labels", 4)]) (g := gName 4) (by rfl) sc14.nd (pi_list (pe_callB (x_sortD (P := P) (w := w) (K := K) rfl rfl rfl hu rfl) (by rfl) msrt boot_sorted (pa_cons (pv 3) pa_nil))) (blkOk_by (own := [("labels", 4)]) (N := ["word", "names", "vector", "found", "labels", "value", "left"]) (sc := defScope s14) (by decide +kernel))
      (fun _ _ _ _ _ => pg_name (i := 4) sc14.nd rfl (Or.inl rfl)) (fun _ _ _ _ _ => pts_nil) (fun _ _ _ _ _ => pe_tup (pa_cons (pv 4) (pa_cons (pe_call (sp := spAggV K) G13 hr rfl m13 k13 b13 .nil pass0 (pa_cons (pv 0) (pa_cons (x_get (P := P) (w := w) (K := K) rfl rfl rfl hu (pv 3) (pv 4) (fun _ _ => rfl)) pa_nil))) pa_nil))))))), ?_⟩
  refine fun d hd => ?_
  refine ⟨_, rfl, va, rfl, ⟨_, SqL.of (same_new hd _ _ _ hV)⟩, for_list (xs := vvs) (fun i σ H' => (∃ y z u, σ = [some (.str wd), some nv, some (.ref va), some (.ref d), y, z, u]) ∧ GAt P w K H H' d ((v.take i).map fun p => (only p.1 ns, p.2))) ⟨⟨none, none, none, rfl⟩, GAt.start hd⟩ (fun i σ H' _ p => SqL.of (p.2.sm _ _ hV)) (fun i x σ H' hx p => ?_) (fun σ H' p => ?_)⟩
  · obtain ⟨⟨y, z, u, rfl⟩, hG⟩ := p
    obtain ⟨pr, hp, hA⟩ := hVA.mget hx
    have hA := hA.same hG.sm
    obtain ⟨sa, lv, rfl, hS, hL⟩ := hA.P
    have hsl := hsh pr (List.mem_of_getElem? hp)
    have step : ((v.take (i + 1)).map fun p => (only p.1 ns, p.2)) = ((v.take i).map fun p => (only p.1 ns, p.2)) ++ [(only pr.1 ns, pr.2)] := by
      rw [takex hp, List.map_append]
      rfl
    have few : ((v.take i).map fun p => (only p.1 ns, p.2)).length ≤ 20000 := by
      rw [List.length_map, List.length_take]
      omega
    generalize hxs : ((v.take i).map fun p => (only p.1 ns, p.2)) = xs at hG step few
    refine ⟨sa, _, rfl, hS, rfl, lv, _, rfl, _, _, rfl, rfl, ?_⟩
    refine ⟨_, rfl, _, rfl, ?_⟩
    have hns' := hns.same hG.sm
    obtain ⟨nb, nvs, rfl, _⟩ := hns'.tup_of
    refine ⟨lv, pr.1, .ref nb, ns, rfl, hL, by omega, hns', fun kb H2 sm02 nkb hkb => ?_⟩
    obtain ⟨gs, ek, g⟩ := hG.same sm02
    have kAt := key_mk kfL hkb
    refine ⟨_, rfl, _, rfl, d, _, kb, _, rfl, rfl, g.dat.at_, g.dat.ks kfL, kAt, _, rfl, iteB (fun e1 => ?_) (fun e1 => ?_)⟩
    · have nk : only pr.1 ns ∉ keysOf xs := fun hk => by
        obtain ⟨x0, hx0, ex0⟩ := ex_key ek hk
        have q1 := get_gsV g.ndk hx0
        rw [ex0] at q1
        have e2 : (!(atE (enG encL (gsV gs)) (Q9.nk (encL (only pr.1 ns)))).isSome) = true := e1
        rw [atE_G kfL, q1] at e2
        cases e2
      have nkg : only pr.1 ns ∉ gs.map (·.1) := by rw [ek]; exact nk
      refine ⟨Nat.zero_le _, fun l hl => ?_⟩
      have sm3 : Same H2 (upd H2 l (.lst [])) := same_new hl _
      have g3 := g.same sm3
      refine ⟨_, rfl, _, rfl, d, _, kb, _, rfl, rfl, g3.dat.at_, g3.dat.ks kfL, kAt.keep (Kt.of sm3), ?_, ?_⟩
      · rw [enG_len, List.length_map]
        have h1 : gs.length = (keysOf xs).length := by rw [← ek, List.length_map]
        have h2 := length_keysOf xs
        exact few63 (by omega)
      have an : atE (enG encL (gsV gs)) (Q9.nk (encL (only pr.1 ns))) = none := by rw [atE_G kfL]; exact get_gsV_none nkg
      rw [putE_new an]
      have h0l : H l = none := (g.sm).free hl
      have fresh : ∀ x ∈ gs, x.2.2 ≠ l := fun x hx z => by
        have := (g.ls x hx).1
        rw [z, hl] at this
        cases this
      have g4 := g3.put (k := only pr.1 ns) (b := kb) (l := l) nkg (hkb.same sm3) upd_same h0l fresh (look_none nk)
      have kt4 : Kt (upd H2 l (.lst [])) (upd (upd H2 l (.lst [])) d (dN P w d (enG encL (gsV gs) ++ [(Q9.nk (encL (only pr.1 ns)), kb, .ref l)]))) := Kt.ext g3.dat.at_
      have hl4 := (g4.ls (only pr.1 ns, kb, l) (by simp)).1
      rw [look_none nk] at hl4
      have got : getG (gsV (gs ++ [(only pr.1 ns, kb, l)])) (only pr.1 ns) = some (.ref l) := get_gsV (x := (only pr.1 ns, kb, l)) g4.ndk (by simp)
      refine ⟨_, rfl, _, rfl, d, _, kb, _, .ref l, rfl, rfl, g4.dat.at_, g4.dat.ks kfL, (kAt.keep (Kt.of sm3)).keep kt4, ?_, .inl ⟨rfl, _, SqL.of hl4⟩, ?_⟩
      · rw [atE_G kfL]
        exact got
      refine ⟨_, rfl, l, [], _, rfl, rfl, hl4, (by show 0 < sizeLine; decide), ⟨_, _, _, rfl⟩, ?_⟩
      rw [step]
      exact GAt.new ek nk g4 pr.2
    · have hk : only pr.1 ns ∈ keysOf xs := by
        by_cases c : only pr.1 ns ∈ keysOf xs
        · exact c
        · have e2 : (!(atE (enG encL (gsV gs)) (Q9.nk (encL (only pr.1 ns)))).isSome) = false := e1
          rw [atE_G kfL, get_gsV_none (by rw [ek]; exact c)] at e2
          cases e2
      obtain ⟨x0, hx0, ex0⟩ := ex_key ek hk
      have got := get_gsV g.ndk hx0
      rw [ex0] at got
      have hl4 := (g.ls x0 hx0).1
      refine ⟨_, rfl, _, rfl, d, _, kb, _, .ref x0.2.2, rfl, rfl, g.dat.at_, g.dat.ks kfL, kAt, ?_, .inl ⟨rfl, _, SqL.of hl4⟩, ?_⟩
      · rw [atE_G kfL]
        exact got
      refine ⟨_, rfl, x0.2.2, _, _, rfl, rfl, hl4, ?_, ⟨_, _, _, rfl⟩, ?_⟩
      · rw [List.length_map]
        have := look_len xs x0.1
        exact few63 (by omega)
      rw [step, ← ex0]
      exact GAt.old ek g hx0 pr.2
  · obtain ⟨⟨y, z, u, rfl⟩, hG⟩ := p
    rw [hVA.mlen, List.take_length] at hG
    have few : (v.map fun p => (only p.1 ns, p.2)).length ≤ 60000 := by rw [List.length_map]; omega
    have q : ∀ p H', Same H H' → H p = none → VecAt K H' p (grp (agv wd) (v.map fun p => (only p.1 ns, p.2))) → Q (.ref p) H' := q
    generalize (v.map fun p => (only p.1 ns, p.2)) = xs at hG few q
    obtain ⟨gs, ek, g⟩ := hG
    obtain ⟨bs, e1, S, rAll⟩ := GAt.sorts ek g few
    refine ⟨_, rfl, d, _, bs, rfl, g.dat.at_, g.dat.ks kfL, e1, S, fun srt hsrt => ?_⟩
    have smS := same_new hsrt (HO.lst ((bs.mergeSort leD).map (·.1)))
    refine ⟨srt, rfl, ⟨_, SqL.of upd_same⟩, fun D hD => ?_⟩
    refine comp_grp (f := agv wd) ek (g.same smS) (rAll.same smS) upd_same hD few (fun _ => rfl) (fun k kb l H2 sm hk hkA hdat hgot hl Q' hq => ?_) fun H2 sm hv => q D H2 ((g.sm.trans smS).trans sm) ((g.sm.trans smS).free hD) hv
    refine ⟨_, rfl, _, rfl, _, rfl, _, rfl, d, _, kb, _, .ref l, rfl, rfl, hdat.at_, hdat.ks kfL, key_mk kfL hkA, by rw [atE_G kfL]; exact hgot, ?_⟩
    exact ⟨wd, l, look xs k, rfl, SqL.of hl, look_ne hk, (by show 2 ≤ sizeLine; decide), fun t ht => hq t _ (same_new ht _) ht upd_same⟩

/-! ### _law_aggregate -/
abbrev s45 : Stmt := topS 45
theorem sc45 : FnScope ["_law_word", "_law_names_here", "_law_rows", "_law_found", "_law_labels_here", "_law_worth_here", "_law_pair"] ["_law_word", "_law_names_here", "_law_rows"] (defScope s45) := ⟨rfl, rfl, rfl, by decide +kernel, rfl, by decide +kernel, by decide +kernel⟩

theorem str_len {wd : Str} (h : wd ∈ (["sum", "min", "max", "count"] : List Str)) : wd.length + ("_over" : Str).length ≤ sizeLine := by
  simp only [List.mem_cons, List.not_mem_nil, or_false] at h
  rcases h with rfl | rfl | rfl | rfl <;> decide
theorem ok45 {f f40 : Addr} {fd fd40 : FuncData} (F : Fun K "_law_aggregate" "_law_aggregate" s45 f fd) (G40 : FnOk P w K mg base CX0 1 f40 fd40 ["_law_word", "_law_values"] (spOver K)) (k40 : PySem.W.keepIn K (.ref f40) = true) (b40 : Binds K fd40 ["_law_word", "_law_values"] []) (m40 : mg "_law_over" = some (.ref f40)) (msrt : mg "sorted" = none) (mt : mg "tuple" = none) :
    FnOk P w K mg base CX0 2 f fd ["_law_word", "_law_names_here", "_law_rows"] (spAgg K) := by
  refine F.ok sc45 (fun vs H Q E h => ?_) (fun cdv A outer s H vs Q E hr h => ?_)
  · obtain ⟨wd, nv, ns, a, v, rfl, _⟩ := h
    rfl
  obtain ⟨wd, nv, ns, va, v, rfl, hns, ⟨vvs, hV, hVA⟩, hlen, hsh, hwd, q⟩ := h
  have hu := hr.units
  refine ⟨_, pss_cons (ps_set (i := 3) sc45.nd rfl (Or.inr rfl) (x_new (P := P) (w := w) rfl rfl))
    (pss_cons (ps_for PassesOwn.never rfl (pi_list (pv 2)) (pg_tup rfl (pgs_cons (pg_name (i := 4) sc45.nd rfl (Or.inl rfl)) (pgs_cons (pg_name (i := 5) sc45.nd rfl (Or.inl rfl)) pgs_nil)))
      (pss_one (ps_expr (pe_bm PySem.F.plainAttrs_list PySem.F.slot_list_append PySem.F.type_list_append mt_append (pe_sdN hu (pv 3) (pa_cons (pe_callTy call_tuple_of (by rfl) mt boot_tuple (pa_cons (pe_lc (own := [("_law_pair", 6)]) (g := gName 6) (by rfl) sc45.nd (pi_tup (pv 4)) (blkOk_by (own := [("_law_pair", 6)]) (N := ["_law_word", "_law_names_here", "_law_rows", "_law_found", "_law_labels_here", "_law_worth_here", "_law_pair"]) (sc := defScope s45) (by decide +kernel)) (fun _ _ _ _ _ => pg_name (i := 6) sc45.nd rfl (Or.inl rfl))
            (fun _ _ _ _ _ => pts_one (pt_cmpR (r := rIn K false) op_in_seq (pe_ix (r := rIxT K) ix_tup (pv 6) pe_int (fun _ _ => rfl)) (pv 1) (by rfl))) (fun _ _ _ _ _ => pv 6)) pa_nil)) (pa_cons (pe_lst pa_nil) pa_nil))) (pa_cons (pv 5) pa_nil)))))
    (pss_one (ps_ret (pe_lc (own := [("_law_labels_here", 4)]) (g := gName 4) (by rfl) sc45.nd (pi_list (pe_callB (x_sortD (P := P) (w := w) (K := K) rfl rfl rfl hu rfl) (by rfl) msrt boot_sorted (pa_cons (pv 3) pa_nil))) (blkOk_by (own := [("_law_labels_here", 4)]) (N := ["_law_word", "_law_names_here", "_law_rows", "_law_found", "_law_labels_here", "_law_worth_here", "_law_pair"]) (sc := defScope s45) (by decide +kernel))
      (fun _ _ _ _ _ => pg_name (i := 4) sc45.nd rfl (Or.inl rfl)) (fun _ _ _ _ _ => pts_nil) (fun _ _ _ _ _ => pe_tup (pa_cons (pv 4) (pa_cons (pe_call (sp := spOver K) G40 hr rfl m40 k40 b40 .nil pass0 (pa_cons (pe_op op_add_str (pv 0) pe_str) (pa_cons (x_get (P := P) (w := w) (K := K) rfl rfl rfl hu (pv 3) (pv 4) (fun _ _ => rfl)) pa_nil))) pa_nil))))))), ?_⟩
  refine fun d hd => ?_
  refine ⟨_, rfl, va, rfl, ⟨_, SqL.of (same_new hd _ _ _ hV)⟩, for_list (xs := vvs) (fun i σ H' => (∃ y z u, σ = [some (.str wd), some nv, some (.ref va), some (.ref d), y, z, u]) ∧ GAt P w K H H' d ((v.take i).map fun p => (only p.1 ns, p.2))) ⟨⟨none, none, none, rfl⟩, GAt.start hd⟩ (fun i σ H' _ p => SqL.of (p.2.sm _ _ hV)) (fun i x σ H' hx p => ?_) (fun σ H' p => ?_)⟩
  · obtain ⟨⟨y, z, u, rfl⟩, hG⟩ := p
    obtain ⟨pr, hp, hA⟩ := hVA.mget hx
    have hA := hA.same hG.sm
    obtain ⟨sa, lv, rfl, hS, hL⟩ := hA.P
    have hsl := hsh pr (List.mem_of_getElem? hp)
    have step : ((v.take (i + 1)).map fun p => (only p.1 ns, p.2)) = ((v.take i).map fun p => (only p.1 ns, p.2)) ++ [(only pr.1 ns, pr.2)] := by
      rw [takex hp, List.map_append]
      rfl
    have few : ((v.take i).map fun p => (only p.1 ns, p.2)).length ≤ 20000 := by
      rw [List.length_map, List.length_take]
      omega
    generalize hxs : ((v.take i).map fun p => (only p.1 ns, p.2)) = xs at hG step few
    have hns' := hns.same hG.sm
    obtain ⟨nb, nvs, rfl, hNS, hNA⟩ := hns'.tup_of
    obtain rfl := At.strs hNA
    refine ⟨sa, _, rfl, hS, rfl, lv, _, rfl, _, _, rfl, rfl, ?_⟩
    obtain ⟨gs0, ek0, g0⟩ := hG
    obtain ⟨la, lvs, rfl, hLS, hLA⟩ := hL.tup_of
    refine ⟨_, rfl, ⟨d, _, rfl, g0.dat.at_⟩, _, rfl, la, rfl, ⟨_, hLS⟩, fun C hC => ?_⟩
    refine comp_pairs (l := pr.1) (fl := fun p => decide (p.1 ∈ ns)) hLS hLA (by omega) hC (fun _ => rfl) (fun _ => rfl) (fun p2 c H2 sm hc Q' hq => ?_) fun H2 acc smC hacc aAll => ?_
    · refine ⟨_, rfl, c, _, 0, _, rfl, rfl, hc, rfl, _, rfl, nb, ns.map V.str, rfl, .inr (Same.seqT sm hNS), rfl, flat_strs ns, _, rfl, ?_⟩
      have e2 : (if false = true then !inV (V.str p2.1) (ns.map V.str) else inV (V.str p2.1) (ns.map V.str)) = decide (p2.1 ∈ ns) := by rw [if_neg Bool.false_ne_true, inV_str]
      rw [← e2] at hq
      exact hq
    refine ⟨C, acc, rfl, .inl ⟨SqL.of hacc, fun kb hkbn => ?_⟩⟩
    have smT := same_new hkbn (HO.tup acc)
    have sm2 : Same H' (upd H2 kb (.tup acc)) := smC.trans smT
    have hkb : At K (upd H2 kb (.tup acc)) (.ref kb) (encL (only pr.1 ns)) := At.tup_mk (SqT.of upd_same) (aAll.same smT)
    generalize upd H2 kb (.tup acc) = H3 at sm2 hkb
    have g := g0.same sm2
    have ek := ek0
    have kAt := key_mk kfL hkb
    refine ⟨Nat.zero_le _, fun l hl => ?_⟩
    have sm4 : Same H3 (upd H3 l (.lst [])) := same_new hl _
    have g4 := g.same sm4
    have lgs : (enG encL (gsV gs0)).length < sizeLine := by
      rw [enG_len, List.length_map]
      have h1 : gs0.length = (keysOf xs).length := by rw [← ek, List.length_map]
      have h2 := length_keysOf xs
      exact few63 (by omega)
    refine ⟨d, _, kb, _, .ref l, rfl, rfl, g4.dat.at_, g4.dat.ks kfL, kAt.keep (Kt.of sm4), lgs, fun u hu1 => ?_, fun hn1 => ?_⟩
    · rw [atE_G kfL] at hu1
      have hk : only pr.1 ns ∈ keysOf xs := by
        by_cases c : only pr.1 ns ∈ keysOf xs
        · exact c
        · rw [get_gsV_none (by rw [ek]; exact c)] at hu1
          cases hu1
      obtain ⟨x0, hx0, ex0⟩ := ex_key ek hk
      have got := get_gsV g.ndk hx0
      rw [ex0, hu1] at got
      cases got
      have hl4 := (g4.ls x0 hx0).1
      refine ⟨.inl ⟨rfl, _, SqL.of hl4⟩, ?_⟩
      refine ⟨_, rfl, x0.2.2, _, _, rfl, rfl, hl4, ?_, ⟨_, _, _, rfl⟩, ?_⟩
      · rw [List.length_map]
        have := look_len xs x0.1
        exact few63 (by omega)
      rw [step, ← ex0]
      exact GAt.old ek g4 hx0 pr.2
    · rw [atE_G kfL] at hn1
      have nk : only pr.1 ns ∉ keysOf xs := fun hk => by
        obtain ⟨x0, hx0, ex0⟩ := ex_key ek hk
        have q1 := get_gsV g.ndk hx0
        rw [ex0, hn1] at q1
        cases q1
      have nkg : only pr.1 ns ∉ gs0.map (·.1) := by rw [ek]; exact nk
      have h0l : H l = none := (g.sm).free hl
      have fresh : ∀ x ∈ gs0, x.2.2 ≠ l := fun x hx z => by
        have := (g.ls x hx).1
        rw [z, hl] at this
        cases this
      have g5 := g4.put (k := only pr.1 ns) (b := kb) (l := l) nkg (hkb.same sm4) upd_same h0l fresh (look_none nk)
      have hl5 := (g5.ls (only pr.1 ns, kb, l) (by simp)).1
      rw [look_none nk] at hl5
      refine ⟨.inl ⟨rfl, _, SqL.of hl5⟩, ?_⟩
      refine ⟨_, rfl, l, [], _, rfl, rfl, hl5, (by show 0 < sizeLine; decide), ⟨_, _, _, rfl⟩, ?_⟩
      rw [step]
      exact GAt.new ek nk g5 pr.2
  · obtain ⟨⟨y, z, u, rfl⟩, hG⟩ := p
    rw [hVA.mlen, List.take_length] at hG
    have few : (v.map fun p => (only p.1 ns, p.2)).length ≤ 60000 := by rw [List.length_map]; omega
    have q : ∀ p H', Same H H' → H p = none → VecAt K H' p (grp (agv wd) (v.map fun p => (only p.1 ns, p.2))) → Q (.ref p) H' := q
    rw [show agv wd = ovr (wd ++ "_over") from funext fun vs => (agv_ovr hwd vs).symm] at q
    generalize (v.map fun p => (only p.1 ns, p.2)) = xs at hG few q
    obtain ⟨gs, ek, g⟩ := hG
    obtain ⟨bs, e1, S, rAll⟩ := GAt.sorts ek g few
    refine ⟨_, rfl, d, _, bs, rfl, g.dat.at_, g.dat.ks kfL, e1, S, fun srt hsrt => ?_⟩
    have smS := same_new hsrt (HO.lst ((bs.mergeSort leD).map (·.1)))
    refine ⟨srt, rfl, ⟨_, SqL.of upd_same⟩, fun D hD => ?_⟩
    refine comp_grp (f := ovr (wd ++ "_over")) ek (g.same smS) (rAll.same smS) upd_same hD few (fun _ => rfl) (fun k kb l H2 sm hk hkA hdat hgot hl Q' hq => ?_) fun H2 sm hv => q D H2 ((g.sm.trans smS).trans sm) ((g.sm.trans smS).free hD) hv
    refine ⟨_, rfl, _, rfl, wd, _, rfl, rfl, str_len hwd, _, rfl, _, rfl, d, _, kb, _, .ref l, rfl, rfl, hdat.at_, hdat.ks kfL, key_mk kfL hkA, by rw [atE_G kfL]; exact hgot, ?_⟩
    refine ⟨_, l, look xs k, rfl, SqL.of hl, look_ne hk, Nat.le_trans (look_len xs k) few, fun H3 sm3 => ?_⟩
    exact ⟨(by show 2 ≤ sizeLine; decide), fun t ht => hq t _ (sm3.trans (same_new ht _)) (sm3.free ht) upd_same⟩

end
end L2.Q9


set_option Elab.async false
set_option linter.all false
set_option maxRecDepth 100000
set_option maxHeartbeats 4000000
/-! Q9: the law's own operators. -/
namespace L2.Q9
open PySem PySem.Spec PyProof.Rows

section
variable {X : Cx} {K : PySem.W.Frag}
theorem x_inP (eK : X.K = K) (hu : X.A.units + 64 < cLine) : OpR X (compareOp .In) (rInP K false) := by
  subst eK
  exact op_inP hu
theorem x_notInP (eK : X.K = K) (hu : X.A.units + 64 < cLine) : OpR X (compareOp .NotIn) (rInP K true) := by
  subst eK
  exact op_notInP hu
end
/-- a list of labels -/
def LabsAt (K : PySem.W.Frag) (H : Hp) (a : Addr) (ks : List Lab) : Prop := ∃ vs, H a = some (.lst vs) ∧ AtAll K H vs (ks.map encL)
theorem LabsAt.same {K : PySem.W.Frag} {H H' : Hp} {a : Addr} {ks : List Lab} (h : LabsAt K H a ks) (s : Same H H') : LabsAt K H' a ks := by
  obtain ⟨vs, h1, h2⟩ := h
  exact ⟨vs, s _ _ h1, h2.same s⟩
theorem any_labs (k : Lab) (ks : List Lab) : (ks.map encL).any (fun e => PyData.eqv e (encL k)) = decide (k ∈ ks) := by
  induction ks with
  | nil => rfl
  | cons j ks ih =>
    rw [List.map_cons, List.any_cons, ih, eqvL]
    by_cases h : k = j
    · subst h
      simp
    · have h2 : ¬ j = k := fun e => h e.symm
      simp [h, h2]
theorem plain_labs : ∀ ks : List Lab, PyData.plainAll (ks.map encL) = true := fun ks => plainAll_im _ (imAll_map im_L ks)
/-- in, not in such a list -/
theorem labs_in {K : PySem.W.Frag} {H : Hp} {a : Addr} {ks : List Lab} {k : Lab} {x : V} {Q : V → Hp → Prop} {neg : Bool} (h : LabsAt K H a ks) (hx : At K H x (encL k)) (q : Q (.bl (if neg = true then !decide (k ∈ ks) else decide (k ∈ ks))) H) : rInP K neg x (.ref a) H Q := by
  obtain ⟨vs, h1, h2⟩ := h
  refine ⟨encL k, ks.map encL, hx.dp, .lst (SqL.of h1) h2.dpAll.1, plain_im _ (im_L k), plain_labs ks, Nat.le_trans (depth_L k) (by decide), ?_⟩
  rw [any_labs]
  exact q
section
variable {P : Program} {w : World} {K : PySem.W.Frag}
/-- [row[0] for row in v if ..] -/
theorem comp_labs {a D : Addr} {v : Vec} {fl : Lab × Int → Bool} {tt : TT} {te : TE} {j : Nat} {σ : St} {H1 : Hp} {Qd : Hp → Prop} (hv : VecAt K H1 a v) (hl : v.length ≤ 60000) (hD : H1 D = none) (wj : ∀ x, wipe ((wipe σ [j]).set j (some x)) [j] = wipe σ [j])
    (test : ∀ (p : Lab × Int) (c : Addr) (x : V) (H2 : Hp), p ∈ v → Same H1 H2 → SqT K H2 c [x, .int p.2] → At K H2 x (encL p.1) → ∀ Q' : Bool → Hp → Prop, (∀ H3, Same H2 H3 → Q' (fl p) H3) → tt ((wipe σ [j]).set j (some (.ref c))) H2 Q')
    (elt : ∀ (p : Lab × Int) (c : Addr) (x : V) (H2 : Hp), SqT K H2 c [x, .int p.2] → ∀ Q' : VK, Q' x H2 → te ((wipe σ [j]).set j (some (.ref c))) H2 Q')
    (fin : ∀ (H2 : Hp), Same H1 H2 → LabsAt K H2 D ((v.filter fl).map (·.1)) → Qd H2) :
    ∃ W : Nat → Nat → Hp → Prop, (∃ m, W 0 m (upd H1 D (.lst []))) ∧ ∀ i m H, W i m H → ((Itl K a).stop i H ∧ Qd H) ∨ ((Itl K a).go i H ∧ ∃ Nx : Hp → Prop, (∀ H', Nx H' → ∃ m', m' < m ∧ W (i + 1) m' H') ∧ ∀ x H', (Itl K a).yld i H x H' → gName j x (wipe σ [j]) H' fun σ2 H2 => wipe σ2 [j] = wipe σ [j] ∧ tt σ2 H2 fun b H3 =>
      if b = true then te σ2 H3 fun y H4 => ∃ acc, H4 D = some (.lst acc) ∧ acc.length < sizeLine ∧ Nx (upd H4 D (.lst (acc ++ [y]))) else Nx H3) := by
  obtain ⟨xs, hS, hA⟩ := hv
  refine lc_list (xs := xs) (fun i H' => Same H1 H' ∧ ∃ acc, H' D = some (.lst acc) ∧ AtAll K H' acc ((((v.take i).filter fl).map (·.1)).map encL)) ⟨same_new hD _, [], upd_same, .nil⟩ (fun i H' _ p => .inl (.inl (p.1 _ _ hS))) (fun i x H' hx p => ?_) (fun H' p => ?_)
  · obtain ⟨sm, acc, hacc, aAll⟩ := p
    obtain ⟨pr, hp, hA1⟩ := hA.mget hx
    have hA2 := hA1.same sm
    obtain ⟨c, y, rfl, hc, hy⟩ := hA2.P
    have z : acc.length < sizeLine := by
      have h1 : acc.length = ((v.take i).filter fl).length := by rw [aAll.mlen, List.length_map]
      have h2 : ((v.take i).filter fl).length ≤ v.length := Nat.le_trans (List.length_filter_le _ _) (by rw [List.length_take]; omega)
      exact few63 (by omega)
    refine ⟨wj _, test pr c y H' (List.mem_of_getElem? hp) sm hc hy _ fun H3 sm3 => ?_⟩
    have hacc' := sm3 _ _ hacc
    cases e : fl pr with
    | true =>
      have b1 : (v.take (i + 1)).filter fl = (v.take i).filter fl ++ [pr] := by rw [takex hp, List.filter_append, List.filter_cons_of_pos e]; rfl
      refine iteT (elt pr c y H3 (Same.seqT sm3 hc) _ ⟨acc, hacc', z, Same.mut (sm.trans sm3) hD, acc ++ [y], upd_same, ?_⟩)
      rw [b1, List.map_append, List.map_append]
      exact ((aAll.same sm3).keep (Kt.lst hacc')).append (.cons ((hy.same sm3).keep (Kt.lst hacc')) .nil)
    | false =>
      have b1 : (v.take (i + 1)).filter fl = (v.take i).filter fl := by rw [takex hp, List.filter_append, List.filter_cons_of_neg (by rw [e]; simp)]; simp
      refine iteF ⟨sm.trans sm3, acc, hacc', ?_⟩
      rw [b1]
      exact aAll.same sm3
  · obtain ⟨sm, acc, hacc, aAll⟩ := p
    rw [hA.mlen, List.take_length] at aAll
    exact fin H' sm ⟨acc, hacc, aAll⟩
end

/-! ### what it computes -/
def lawB (s : Str) (F S G : Vec) : Vec :=
  if s = "and" then F.filter (fun p => hasK S p.1) else if s = "unless" then F.filter (fun p => !hasK S p.1) else if s = "or" then sortP (F ++ S.filter fun p => !hasK F p.1)
  else if isAr s = true then (F.filter fun p => hasK S p.1).map (fun p => (p.1, cmp s p.2 (getK S p.1)))
  else G.filter fun p => decide (p.1 ∈ (((F.filter fun p => hasK S p.1).filter fun p => hld s p.2 (getK S p.1)).map (·.1)))
theorem has_of {u : Vec} {p : Lab × Int} (h : p ∈ u) : hasK u p.1 = true := decide_eq_true (List.mem_map.mpr ⟨p, h, rfl⟩)
theorem getK_of {u : Vec} {p : Lab × Int} (hn : (u.map (·.1)).Nodup) (h : p ∈ u) : getK u p.1 = p.2 := by
  unfold getK
  cases e : u.find? (fun q => decide (q.1 = p.1)) with
  | none =>
    rw [List.find?_eq_none] at e
    exact absurd (decide_eq_true rfl) (e p h)
  | some q =>
    have h1 := List.mem_of_find?_eq_some e
    have h2 := of_decide_eq_true (List.find?_some (p := fun q : Lab × Int => decide (q.1 = p.1)) e)
    rw [inj_nodup hn h1 h h2]
    rfl
theorem getK_const {u : Vec} {n : Int} {k : Lab} (h : hasK u k = true) : getK (u.map fun p => (p.1, n)) k = n := by
  unfold getK
  have h2 := of_decide_eq_true h
  obtain ⟨p, hp, e⟩ := List.mem_map.mp h2
  cases e1 : (u.map fun p => (p.1, n)).find? (fun q => decide (q.1 = k)) with
  | none =>
    rw [List.find?_eq_none] at e1
    exact absurd (decide_eq_true e) (e1 (p.1, n) (List.mem_map.mpr ⟨p, hp, rfl⟩))
  | some q =>
    obtain ⟨r, _, rfl⟩ := List.mem_map.mp (List.mem_of_find?_eq_some e1)
    rfl
theorem hasK_map (u : Vec) (f : Lab × Int → Int) (k : Lab) : hasK (u.map fun p => (p.1, f p)) k = hasK u k := by
  unfold hasK
  rw [List.map_map]
  rfl
theorem keep_eq {v : Vec} (hn : (v.map (·.1)).Nodup) (g : Lab × Int → Bool) : (v.filter fun p => decide (p.1 ∈ (v.filter g).map (·.1))) = v.filter g := by
  refine List.filter_congr fun p hp => ?_
  cases e : g p with
  | true => exact decide_eq_true (List.mem_map.mpr ⟨p, List.mem_filter.mpr ⟨hp, e⟩, rfl⟩)
  | false =>
    refine decide_eq_false fun h => ?_
    obtain ⟨q, hq, e2⟩ := List.mem_map.mp h
    have hq' := List.mem_filter.mp hq
    rw [inj_nodup hn hq'.1 hp e2, e] at hq'
    cases hq'.2
theorem not_jn {s : Str} (h : ¬ isJn s = true) : ¬ s = "and" ∧ ¬ s = "unless" ∧ ¬ s = "or" := by
  refine ⟨?_, ?_, ?_⟩
  · rintro rfl; exact h (by decide)
  · rintro rfl; exact h (by decide)
  · rintro rfl; exact h (by decide)
theorem filter_all {α : Type} {l : List α} {f : α → Bool} (h : ∀ a ∈ l, f a = true) : l.filter f = l := List.filter_eq_self.mpr h
theorem lawB_nv {s : Str} {m : Int} {u : Vec} (hn : (u.map (·.1)).Nodup) (jn : ¬ isJn s = true) : lawB s (u.map fun p => (p.1, m)) u u = if isAr s = true then u.map (fun p => (p.1, cmp s m p.2)) else u.filter fun p => hld s m p.2 := by
  obtain ⟨j1, j2, j3⟩ := not_jn jn
  have e1 : ((u.map fun p => (p.1, m)).filter fun p => hasK u p.1) = u.map fun p => (p.1, m) := filter_all fun q hq => by
    obtain ⟨p, hp, rfl⟩ := List.mem_map.mp hq
    exact (show hasK u p.1 = true from has_of hp)
  unfold lawB
  rw [if_neg j1, if_neg j2, if_neg j3, e1]
  split
  · rw [List.map_map]
    refine List.map_congr_left fun p hp => ?_
    show (p.1, cmp s m (getK u p.1)) = _
    rw [getK_of hn hp]
  · have e2 : (((u.map fun p => (p.1, m)).filter fun p => hld s p.2 (getK u p.1)).map (·.1)) = (u.filter fun p => hld s m p.2).map (·.1) := by
      rw [List.filter_map, List.map_map]
      have e3 : (u.filter ((fun p => hld s p.2 (getK u p.1)) ∘ fun p => (p.1, m))) = u.filter fun p => hld s m p.2 := List.filter_congr fun p hp => by
        show hld s m (getK u p.1) = _
        rw [getK_of hn hp]
      rw [e3]
      rfl
    rw [e2]
    exact keep_eq hn _
theorem lawB_vn {s : Str} {n : Int} {v : Vec} (hn : (v.map (·.1)).Nodup) (jn : ¬ isJn s = true) : lawB s v (v.map fun p => (p.1, n)) v = if isAr s = true then v.map (fun p => (p.1, cmp s p.2 n)) else v.filter fun p => hld s p.2 n := by
  obtain ⟨j1, j2, j3⟩ := not_jn jn
  have e1 : (v.filter fun p => hasK (v.map fun p => (p.1, n)) p.1) = v := filter_all fun p hp => by
    rw [hasK_map v (fun _ => n)]
    exact has_of hp
  unfold lawB
  rw [if_neg j1, if_neg j2, if_neg j3, e1]
  split
  · refine List.map_congr_left fun p hp => ?_
    rw [getK_const (has_of hp)]
  · have e3 : (v.filter fun p => hld s p.2 (getK (v.map fun p => (p.1, n)) p.1)) = v.filter fun p => hld s p.2 n := List.filter_congr fun p hp => by rw [getK_const (has_of hp)]
    rw [e3]
    exact keep_eq hn _
theorem lawB_vv {s : Str} {v u : Vec} (hn : (v.map (·.1)).Nodup) : lawB s v u v = if isJn s = true then joinV s v u else vecV s v u := by
  unfold lawB joinV vecV
  by_cases jn : isJn s = true
  · rw [if_pos jn]
    have h := of_decide_eq_true jn
    simp only [List.mem_cons, List.not_mem_nil, or_false] at h
    by_cases j1 : s = "and"
    · rw [if_pos j1, if_pos j1]
    rw [if_neg j1, if_neg j1]
    by_cases j2 : s = "unless"
    · rw [if_pos j2, if_pos j2]
    rw [if_neg j2, if_neg j2]
    rcases h with h | h | h
    · rw [if_pos h]
    · exact absurd h j1
    · exact absurd h j2
  · obtain ⟨j1, j2, j3⟩ := not_jn jn
    rw [if_neg jn, if_neg j1, if_neg j2, if_neg j3]
    split
    · rfl
    · rw [List.filter_filter]
      exact keep_eq hn _

theorem iteAnd {il : Bool} {A X : Prop} (h : X) (k : il = true → X → A) : if il = true then A else X := by
  cases il with
  | true => exact k rfl h
  | false => exact h
theorem via {t : TE} {σ : St} {H : Hp} {Q : VK} (A : V → Hp → Prop) (h : ∀ Q' : VK, (∀ v H', A v H' → Q' v H') → t σ H Q') (k : ∀ v H', A v H' → Q v H') : t σ H Q := h Q k
theorem VOk.const {N B : Nat} {v : Vec} (h : VOk N B v) {n : Int} (hn : n.natAbs < 2 ^ B) : VOk N B (v.map fun p => (p.1, n)) := by
  refine ⟨asc_map h.asc _, by rw [List.length_map]; exact h.len, fun p hp => ?_, fun p hp => ?_⟩
  · obtain ⟨q, hq, rfl⟩ := List.mem_map.mp hp
    exact hn
  · obtain ⟨q, hq, rfl⟩ := List.mem_map.mp hp
    exact h.short q hq
/-- the two sides, as vectors -/
structure Sides (K : PySem.W.Frag) (H : Hp) (N B : Nat) (l r : V) (il ir : Bool) (F S G : Vec) : Prop where
  nb : (il && ir) = false
  tl : ∀ H', Same H H' → ∃ t, TyX K H' l t ∧ PySem.W.kitOne K t (.type "int") = some il
  tr : ∀ H', Same H H' → ∃ t, TyX K H' r t ∧ PySem.W.kitOne K t (.type "int") = some ir
  f1 : il = true → ∃ m b u, l = .int m ∧ r = .ref b ∧ VecAt K H b u ∧ u.length ≤ N ∧ F = u.map fun p => (p.1, m)
  f0 : il = false → ∃ a, l = .ref a ∧ VecAt K H a F
  s1 : ir = true → ∃ n a v, r = .int n ∧ l = .ref a ∧ VecAt K H a v ∧ v.length ≤ N ∧ S = v.map fun p => (p.1, n)
  s0 : ir = false → ∃ b, r = .ref b ∧ VecAt K H b S
  g1 : il = true → ∃ b, r = .ref b ∧ VecAt K H b G
  g0 : il = false → ∃ a, l = .ref a ∧ VecAt K H a G
  okF : VOk N B F
  okS : VOk N B S
  len : G.length ≤ N
theorem no_jn {s : Str} (h : (if isJn s = true then none else some Kd.vec).isSome = true) : ¬ isJn s = true := fun c => by
  rw [if_pos c] at h
  cases h
theorem sides_nv {K : PySem.W.Frag} {H : Hp} {N B : Nat} {m : Int} {b : Addr} {u : Vec} (hv : VecAt K H b u) (om : m.natAbs < 2 ^ B) (ou : VOk N B u) : Sides K H N B (.int m) (.ref b) true false (u.map fun p => (p.1, m)) u u :=
  ⟨rfl, fun _ _ => ⟨_, isi_int, kit_ty (by decide +kernel)⟩, fun H' sm => by
    obtain ⟨vs, hS, _⟩ := hv
    exact ⟨_, isi_lst (sm _ _ hS), kit_ty (by decide +kernel)⟩, fun _ => ⟨m, b, u, rfl, rfl, hv, ou.len, rfl⟩, fun h => (by cases h), fun h => (by cases h), fun _ => ⟨b, rfl, hv⟩, fun _ => ⟨b, rfl, hv⟩, fun h => (by cases h), ou.const om, ou, ou.len⟩
theorem sides_vn {K : PySem.W.Frag} {H : Hp} {N B : Nat} {n : Int} {a : Addr} {v : Vec} (hv : VecAt K H a v) (on : n.natAbs < 2 ^ B) (ov : VOk N B v) : Sides K H N B (.ref a) (.int n) false true v (v.map fun p => (p.1, n)) v :=
  ⟨rfl, fun H' sm => by
    obtain ⟨vs, hS, _⟩ := hv
    exact ⟨_, isi_lst (sm _ _ hS), kit_ty (by decide +kernel)⟩, fun _ _ => ⟨_, isi_int, kit_ty (by decide +kernel)⟩, fun h => (by cases h), fun _ => ⟨a, rfl, hv⟩, fun _ => ⟨n, a, v, rfl, rfl, hv, ov.len, rfl⟩, fun h => (by cases h), fun h => (by cases h), fun _ => ⟨a, rfl, hv⟩, ov, ov.const on, ov.len⟩
theorem sides_vv {K : PySem.W.Frag} {H : Hp} {N B : Nat} {a b : Addr} {v u : Vec} (hv : VecAt K H a v) (hu : VecAt K H b u) (ov : VOk N B v) (ou : VOk N B u) : Sides K H N B (.ref a) (.ref b) false false v u v :=
  ⟨rfl, fun H' sm => by
    obtain ⟨vs, hS, _⟩ := hv
    exact ⟨_, isi_lst (sm _ _ hS), kit_ty (by decide +kernel)⟩, fun H' sm => by
    obtain ⟨vs, hS, _⟩ := hu
    exact ⟨_, isi_lst (sm _ _ hS), kit_ty (by decide +kernel)⟩, fun h => (by cases h), fun _ => ⟨a, rfl, hv⟩, fun h => (by cases h), fun _ => ⟨b, rfl, hu⟩, fun h => (by cases h), fun _ => ⟨a, rfl, hv⟩, ov, ou, ov.len⟩
theorem no_int {s : Str} {x y : Val} {N B : Nat} {K : PySem.W.Frag} {H : Hp} {l r : V} (hx : ValAt K H l x) (hy : ValAt K H r y) (ox : VlOk N B x) (oy : VlOk N B y) (hk : (kdBin s (kdV x) (kdV y)).isSome = true) :
    (∃ m n, x = .num m ∧ y = .num n ∧ l = .int m ∧ r = .int n) ∨ ∃ il ir F S G, Sides K H N B l r il ir F S G ∧ binV s x y = .vec (lawB s F S G) := by
  cases x with
  | num m =>
    cases y with
    | num n => exact .inl ⟨m, n, rfl, rfl, hx, hy⟩
    | vec u =>
      obtain rfl : l = .int m := hx
      obtain ⟨b, rfl, hv⟩ := hy
      refine .inr ⟨_, _, _, _, _, sides_nv hv ox oy, ?_⟩
      rw [lawB_nv (VOk.nodup oy) (no_jn hk)]
      rfl
  | vec v =>
    obtain ⟨a, rfl, hv⟩ := hx
    cases y with
    | num n =>
      obtain rfl : r = .int n := hy
      refine .inr ⟨_, _, _, _, _, sides_vn hv oy ox, ?_⟩
      rw [lawB_vn (VOk.nodup ox) (no_jn hk)]
      rfl
    | vec u =>
      obtain ⟨b, rfl, hu⟩ := hy
      refine .inr ⟨_, _, _, _, _, sides_vv hv hu ox oy, ?_⟩
      rw [lawB_vv (VOk.nodup ox)]
      rfl
section
variable {P : Program} {w : World} {K : PySem.W.Frag} {mg : Str → Option Value} {base : Heap}

/-! ### _law_binary -/
abbrev s44 : Stmt := topS 44
theorem sc44 : FnScope ["_law_sign_here", "_law_left", "_law_right", "_law_first", "_law_second", "_law_known", "_law_labels_here", "_law_worth_here", "_law_mine", "_law_both", "_law_kept", "_law_told_here", "_law_row"] ["_law_sign_here", "_law_left", "_law_right"] (defScope s44) := ⟨rfl, rfl, rfl, by decide +kernel, rfl, by decide +kernel, by decide +kernel⟩

theorem ok44 {f f42 f43 : Addr} {fd fd42 fd43 : FuncData} (F : Fun K "_law_binary" "_law_binary" s44 f fd) (G42 : FnOk P w K mg base CX0 1 f42 fd42 ["_law_sign_here", "_law_left", "_law_right"] spCompute) (k42 : PySem.W.keepIn K (.ref f42) = true) (b42 : Binds K fd42 ["_law_sign_here", "_law_left", "_law_right"] []) (m42 : mg "_law_compute" = some (.ref f42))
    (G43 : FnOk P w K mg base CX0 1 f43 fd43 ["_law_sign_here", "_law_left", "_law_right"] spHolds) (k43 : PySem.W.keepIn K (.ref f43) = true) (b43 : Binds K fd43 ["_law_sign_here", "_law_left", "_law_right"] []) (m43 : mg "_law_holds" = some (.ref f43)) (misi : mg "isinstance" = none) (mint : mg "int" = none) (msrt : mg "sorted" = none) : FnOk P w K mg base CX0 2 f fd ["_law_sign_here", "_law_left", "_law_right"] (spBin K) := by
  refine F.ok sc44 (fun vs H Q E h => ?_) (fun cdv A outer s H vs Q E hr h => ?_)
  · obtain ⟨s, l, r, x, y, N, B, rfl, _⟩ := h
    rfl
  obtain ⟨sg, l, r, x, y, N, B, rfl, hx, hy, ox, oy, hN, hB0, hB, hk, q⟩ := h
  have hu := hr.units
  refine ⟨_, pss_cons (ps_if (PW.pt (pw_and (pt_val (pe_callB call_isi (by rfl) misi boot_isinstance (pa_cons (pv 1) (pa_cons (pe_bltn (v := .ty "int") (by rfl) mint boot_int rfl) pa_nil)))) (pw_and1 (pt_val (pe_callB call_isi (by rfl) misi boot_isinstance (pa_cons (pv 2) (pa_cons (pe_bltn (v := .ty "int") (by rfl) mint boot_int rfl) pa_nil))))))) (pss_one (ps_ret (pe_call G42 hr rfl m42 k42 b42 .nil pass0 (pa_cons (pv 0) (pa_cons (pv 1) (pa_cons (pv 2) pa_nil)))))) pss_nil)
    (pss_cons (ps_set (i := 3) sc44.nd rfl (Or.inl rfl) (pe_ifExp (pt_val (pe_callB call_isi (by rfl) misi boot_isinstance (pa_cons (pv 1) (pa_cons (pe_bltn (v := .ty "int") (by rfl) mint boot_int rfl) pa_nil)))) (pe_lc (own := [("_law_labels_here", 6), ("_law_told_here", 11)]) (g := gTup K 2 (gCons (gName 6) (gCons (gName 11) gNil))) (by rfl) sc44.nd (pi_list (pv 2)) (blkOk_by (own := [("_law_labels_here", 6), ("_law_told_here", 11)]) (N := ["_law_sign_here", "_law_left", "_law_right", "_law_first", "_law_second", "_law_known", "_law_labels_here", "_law_worth_here", "_law_mine", "_law_both", "_law_kept", "_law_told_here", "_law_row"]) (sc := defScope s44) (by decide +kernel)) (fun _ _ _ _ _ => pg_tup rfl (pgs_cons (pg_name (i := 6) sc44.nd rfl (Or.inl rfl)) (pgs_cons (pg_name (i := 11) sc44.nd rfl (Or.inl rfl)) pgs_nil))) (fun _ _ _ _ _ => pts_nil) (fun _ _ _ _ _ => pe_tup (pa_cons (pv 6) (pa_cons (pv 1) pa_nil)))) (pv 1)))
    (pss_cons (ps_set (i := 4) sc44.nd rfl (Or.inl rfl) (pe_ifExp (pt_val (pe_callB call_isi (by rfl) misi boot_isinstance (pa_cons (pv 2) (pa_cons (pe_bltn (v := .ty "int") (by rfl) mint boot_int rfl) pa_nil)))) (pe_lc (own := [("_law_labels_here", 6), ("_law_told_here", 11)]) (g := gTup K 2 (gCons (gName 6) (gCons (gName 11) gNil))) (by rfl) sc44.nd (pi_list (pv 1)) (blkOk_by (own := [("_law_labels_here", 6), ("_law_told_here", 11)]) (N := ["_law_sign_here", "_law_left", "_law_right", "_law_first", "_law_second", "_law_known", "_law_labels_here", "_law_worth_here", "_law_mine", "_law_both", "_law_kept", "_law_told_here", "_law_row"]) (sc := defScope s44) (by decide +kernel)) (fun _ _ _ _ _ => pg_tup rfl (pgs_cons (pg_name (i := 6) sc44.nd rfl (Or.inl rfl)) (pgs_cons (pg_name (i := 11) sc44.nd rfl (Or.inl rfl)) pgs_nil))) (fun _ _ _ _ _ => pts_nil) (fun _ _ _ _ _ => pe_tup (pa_cons (pv 6) (pa_cons (pv 2) pa_nil)))) (pv 2)))
    (pss_cons (ps_set (i := 5) sc44.nd rfl (Or.inr rfl) (x_new (P := P) (w := w) rfl rfl))
    (pss_cons (ps_for PassesOwn.never rfl (pi_list (pv 4)) (pg_tup rfl (pgs_cons (pg_name (i := 6) sc44.nd rfl (Or.inl rfl)) (pgs_cons (pg_name (i := 7) sc44.nd rfl (Or.inl rfl)) pgs_nil)))
      (pss_one (ps_asg (pv 7) (pg_sub (pv 5) (pv 6) (x_set (P := P) (w := w) (K := K) rfl rfl rfl hu)))))
    (pss_cons (ps_if (pt_cmpR op_eq (pv 0) pe_str (nomark _)) (pss_one (ps_ret (pe_lc (own := [("_law_row", 12)]) (g := gName 12) (by rfl) sc44.nd (pi_list (pv 3)) (blkOk_by (own := [("_law_row", 12)]) (N := ["_law_sign_here", "_law_left", "_law_right", "_law_first", "_law_second", "_law_known", "_law_labels_here", "_law_worth_here", "_law_mine", "_law_both", "_law_kept", "_law_told_here", "_law_row"]) (sc := defScope s44) (by decide +kernel)) (fun _ _ _ _ _ => pg_name (i := 12) sc44.nd rfl (Or.inl rfl)) (fun _ _ _ _ _ => pts_one (pt_cmpR (r := rInN P w K false) (x_in rfl rfl rfl hu) (pe_ix (r := rIxT K) ix_tup (pv 12) pe_int (fun _ _ => rfl)) (pv 5) (by rfl))) (fun _ _ _ _ _ => pv 12)))) pss_nil)
    (pss_cons (ps_if (pt_cmpR op_eq (pv 0) pe_str (nomark _)) (pss_one (ps_ret (pe_lc (own := [("_law_row", 12)]) (g := gName 12) (by rfl) sc44.nd (pi_list (pv 3)) (blkOk_by (own := [("_law_row", 12)]) (N := ["_law_sign_here", "_law_left", "_law_right", "_law_first", "_law_second", "_law_known", "_law_labels_here", "_law_worth_here", "_law_mine", "_law_both", "_law_kept", "_law_told_here", "_law_row"]) (sc := defScope s44) (by decide +kernel)) (fun _ _ _ _ _ => pg_name (i := 12) sc44.nd rfl (Or.inl rfl)) (fun _ _ _ _ _ => pts_one (pt_cmpR (r := rInN P w K true) (x_notIn rfl rfl rfl hu) (pe_ix (r := rIxT K) ix_tup (pv 12) pe_int (fun _ _ => rfl)) (pv 5) (by rfl))) (fun _ _ _ _ _ => pv 12)))) pss_nil)
    (pss_cons (ps_if (pt_cmpR op_eq (pv 0) pe_str (nomark _)) (pss_cons (ps_set (i := 8) sc44.nd rfl (Or.inr rfl) (pe_lc (own := [("_law_row", 12)]) (g := gName 12) (by rfl) sc44.nd (pi_list (pv 3)) (blkOk_by (own := [("_law_row", 12)]) (N := ["_law_sign_here", "_law_left", "_law_right", "_law_first", "_law_second", "_law_known", "_law_labels_here", "_law_worth_here", "_law_mine", "_law_both", "_law_kept", "_law_told_here", "_law_row"]) (sc := defScope s44) (by decide +kernel)) (fun _ _ _ _ _ => pg_name (i := 12) sc44.nd rfl (Or.inl rfl)) (fun _ _ _ _ _ => pts_nil) (fun _ _ _ _ _ => (pe_ix (r := rIxT K) ix_tup (pv 12) pe_int (fun _ _ => rfl)))))
      (pss_one (ps_ret (pe_callB (x_sortL (K := K) rfl hu) (by rfl) msrt boot_sorted (pa_cons (pe_op op_cat (pv 3) (pe_lc (own := [("_law_row", 12)]) (g := gName 12) (by rfl) sc44.nd (pi_list (pv 4)) (blkOk_by (own := [("_law_row", 12)]) (N := ["_law_sign_here", "_law_left", "_law_right", "_law_first", "_law_second", "_law_known", "_law_labels_here", "_law_worth_here", "_law_mine", "_law_both", "_law_kept", "_law_told_here", "_law_row"]) (sc := defScope s44) (by decide +kernel)) (fun _ _ _ _ _ => pg_name (i := 12) sc44.nd rfl (Or.inl rfl)) (fun _ _ _ _ _ => pts_one (pt_cmpR (r := rInP K true) (x_notInP rfl hu) (pe_ix (r := rIxT K) ix_tup (pv 12) pe_int (fun _ _ => rfl)) (pv 8) (by rfl))) (fun _ _ _ _ _ => pv 12))) pa_nil))))) pss_nil)
    (pss_cons (ps_setLc (i := 9) (own := [("_law_row", 12)]) (g := gName 12) (by rfl) sc44.nd rfl rfl (sw_true rfl rfl rfl (by decide +kernel)) (pi_list (pv 3)) (blkOk_by (own := [("_law_row", 12)]) (N := ["_law_sign_here", "_law_left", "_law_right", "_law_first", "_law_second", "_law_known", "_law_labels_here", "_law_worth_here", "_law_mine", "_law_both", "_law_kept", "_law_told_here", "_law_row"]) (sc := defScope s44) (by decide +kernel)) (fun _ _ _ _ _ => pg_name (i := 12) sc44.nd rfl (Or.inl rfl)) (fun _ _ _ _ _ => pts_one (pt_cmpR (r := rInN P w K false) (x_in rfl rfl rfl hu) (pe_ix (r := rIxT K) ix_tup (pv 12) pe_int (fun _ _ => rfl)) (pv 5) (by rfl))) (fun _ _ _ _ _ => pv 12))
    (pss_cons (ps_if (pt_cmpR op_in_seq (pv 0) (pe_tup (pa_cons pe_str (pa_cons pe_str (pa_cons pe_str pa_nil)))) (by rfl)) (pss_one (ps_ret (pe_lc (own := [("_law_labels_here", 6), ("_law_worth_here", 7)]) (g := gTup K 2 (gCons (gName 6) (gCons (gName 7) gNil))) (by rfl) sc44.nd (pi_list (pv 9)) (blkOk_by (own := [("_law_labels_here", 6), ("_law_worth_here", 7)]) (N := ["_law_sign_here", "_law_left", "_law_right", "_law_first", "_law_second", "_law_known", "_law_labels_here", "_law_worth_here", "_law_mine", "_law_both", "_law_kept", "_law_told_here", "_law_row"]) (sc := defScope s44) (by decide +kernel)) (fun _ _ _ _ _ => pg_tup rfl (pgs_cons (pg_name (i := 6) sc44.nd rfl (Or.inl rfl)) (pgs_cons (pg_name (i := 7) sc44.nd rfl (Or.inl rfl)) pgs_nil))) (fun _ _ _ _ _ => pts_nil) (fun _ _ _ _ _ => pe_tup (pa_cons (pv 6) (pa_cons (pe_call (sp := spCompute) G42 hr rfl m42 k42 b42 .nil pass0 (pa_cons (pv 0) (pa_cons (pv 7) (pa_cons (x_get (P := P) (w := w) (K := K) rfl rfl rfl hu (pv 5) (pv 6) (fun _ _ => rfl)) pa_nil)))) pa_nil)))))) pss_nil)
    (pss_cons (ps_set (i := 10) sc44.nd rfl (Or.inr rfl) (pe_lc (own := [("_law_row", 12)]) (g := gName 12) (by rfl) sc44.nd (pi_list (pv 9)) (blkOk_by (own := [("_law_row", 12)]) (N := ["_law_sign_here", "_law_left", "_law_right", "_law_first", "_law_second", "_law_known", "_law_labels_here", "_law_worth_here", "_law_mine", "_law_both", "_law_kept", "_law_told_here", "_law_row"]) (sc := defScope s44) (by decide +kernel)) (fun _ _ _ _ _ => pg_name (i := 12) sc44.nd rfl (Or.inl rfl)) (fun _ _ _ _ _ => pts_one (pt_val (pe_call (sp := spHolds) G43 hr rfl m43 k43 b43 .nil pass0 (pa_cons (pv 0) (pa_cons (pe_ix (r := rIxT K) ix_tup (pv 12) pe_int (fun _ _ => rfl)) (pa_cons (x_get (P := P) (w := w) (K := K) rfl rfl rfl hu (pv 5) (pe_ix (r := rIxT K) ix_tup (pv 12) pe_int (fun _ _ => rfl)) (fun _ _ => rfl)) pa_nil)))))) (fun _ _ _ _ _ => (pe_ix (r := rIxT K) ix_tup (pv 12) pe_int (fun _ _ => rfl)))))
    (pss_cons (ps_if (pt_val (pe_callB call_isi (by rfl) misi boot_isinstance (pa_cons (pv 1) (pa_cons (pe_bltn (v := .ty "int") (by rfl) mint boot_int rfl) pa_nil)))) (pss_one (ps_ret (pe_lc (own := [("_law_row", 12)]) (g := gName 12) (by rfl) sc44.nd (pi_list (pv 2)) (blkOk_by (own := [("_law_row", 12)]) (N := ["_law_sign_here", "_law_left", "_law_right", "_law_first", "_law_second", "_law_known", "_law_labels_here", "_law_worth_here", "_law_mine", "_law_both", "_law_kept", "_law_told_here", "_law_row"]) (sc := defScope s44) (by decide +kernel)) (fun _ _ _ _ _ => pg_name (i := 12) sc44.nd rfl (Or.inl rfl)) (fun _ _ _ _ _ => pts_one (pt_cmpR (r := rInP K false) (x_inP rfl hu) (pe_ix (r := rIxT K) ix_tup (pv 12) pe_int (fun _ _ => rfl)) (pv 10) (by rfl))) (fun _ _ _ _ _ => pv 12)))) pss_nil)
    (pss_one (ps_ret (pe_lc (own := [("_law_row", 12)]) (g := gName 12) (by rfl) sc44.nd (pi_list (pv 1)) (blkOk_by (own := [("_law_row", 12)]) (N := ["_law_sign_here", "_law_left", "_law_right", "_law_first", "_law_second", "_law_known", "_law_labels_here", "_law_worth_here", "_law_mine", "_law_both", "_law_kept", "_law_told_here", "_law_row"]) (sc := defScope s44) (by decide +kernel)) (fun _ _ _ _ _ => pg_name (i := 12) sc44.nd rfl (Or.inl rfl)) (fun _ _ _ _ _ => pts_one (pt_cmpR (r := rInP K false) (x_inP rfl hu) (pe_ix (r := rIxT K) ix_tup (pv 12) pe_int (fun _ _ => rfl)) (pv 10) (by rfl))) (fun _ _ _ _ _ => pv 12))))))))))))))), ?_⟩
  rcases no_int hx hy ox oy hk with ⟨m, n, rfl, rfl, rfl, rfl⟩ | ⟨il, ir, F, S, G, sd, eq⟩
  · refine ⟨_, rfl, _, _, _, _, true, rfl, .ty "int", isi_int, kit_ty (by decide +kernel), ?_⟩
    refine ⟨_, rfl, iteT ?_⟩
    refine ⟨_, rfl, _, _, _, _, true, rfl, .ty "int", isi_int, kit_ty (by decide +kernel), ?_⟩
    refine ⟨_, rfl, iteT ?_⟩
    refine ⟨_, rfl, _, rfl, _, rfl, sg, m, n, B, rfl, ox, oy, hB0, hB, ?_⟩
    exact q _ _ (Same.refl H) rfl
  rw [eq] at q
  clear eq hk ox oy hx hy
  obtain ⟨tl0, tl1, tl2⟩ := sd.tl H (Same.refl H)
  obtain ⟨tr0, tr1, tr2⟩ := sd.tr H (Same.refl H)
  refine ⟨_, rfl, _, _, _, _, il, rfl, .ty "int", tl1, tl2, _, rfl, ?_⟩
  refine iteAnd (iteF ?_) (fun c rest => ?_)
  rotate_left
  · have e : ir = false := by
      have := sd.nb
      rw [c] at this
      exact this
    subst e
    exact ⟨_, rfl, _, _, _, _, false, rfl, .ty "int", tr1, tr2, _, rfl, rest⟩
  -- the first
  dsimp only [tNext, tSeq, tAsg]
  refine via (t := tIf _ _ _) (fun v H' => ∃ a, v = .ref a ∧ Same H H' ∧ VecAt K H' a F) (fun Q' hq => ?_) (fun v H1 ⟨fa, e, sm1, hF⟩ => ?_)
  · refine ⟨_, rfl, _, _, _, _, il, rfl, .ty "int", tl1, tl2, _, rfl, iteB (fun c => ?_) (fun c => ?_)⟩
    · obtain ⟨m, b, u, rfl, rfl, hu2, hlu, rfl⟩ := sd.f1 c
      have hu' := hu2
      obtain ⟨uvs, huS, huA⟩ := hu'
      refine ⟨_, rfl, b, rfl, ⟨_, SqL.of huS⟩, fun D hD => ?_⟩
      refine comp_map (v := u) (f := fun _ => m) hu2 (by omega) hD (fun _ _ => rfl) (fun p x H3 hp sm3 hx Q' hq => ?_) fun H3 sm3 h3 => hq (.ref D) H3 ⟨D, rfl, sm3, h3⟩
      exact ⟨_, rfl, _, rfl, (by show 2 ≤ sizeLine; decide), fun t ht => hq t _ (same_new ht _) ht upd_same⟩
    · obtain ⟨a, rfl, hv⟩ := sd.f0 c
      exact ⟨_, rfl, hq _ _ ⟨a, rfl, Same.refl H, hv⟩⟩
  subst e
  -- the second
  obtain ⟨tr0', tr1', tr2'⟩ := sd.tr H1 sm1
  dsimp only [gName]
  refine via (t := tIf _ _ _) (fun v H' => ∃ a, v = .ref a ∧ Same H1 H' ∧ VecAt K H' a S) (fun Q' hq => ?_) (fun v H2 ⟨sa, e, sm2, hS⟩ => ?_)
  · refine ⟨_, rfl, _, _, _, _, ir, rfl, .ty "int", tr1', tr2', _, rfl, iteB (fun c => ?_) (fun c => ?_)⟩
    · obtain ⟨n, a, v, rfl, rfl, hv2, hlv, rfl⟩ := sd.s1 c
      have hv2 := hv2.same sm1
      have hv' := hv2
      obtain ⟨vvs, hvS, hvA⟩ := hv'
      refine ⟨_, rfl, a, rfl, ⟨_, SqL.of hvS⟩, fun D hD => ?_⟩
      refine comp_map (v := v) (f := fun _ => n) hv2 (by omega) hD (fun _ _ => rfl) (fun p x H3 hp sm3 hx Q' hq => ?_) fun H3 sm3 h3 => hq (.ref D) H3 ⟨D, rfl, sm3, h3⟩
      exact ⟨_, rfl, _, rfl, (by show 2 ≤ sizeLine; decide), fun t ht => hq t _ (same_new ht _) ht upd_same⟩
    · obtain ⟨b, rfl, hv⟩ := sd.s0 c
      exact ⟨_, rfl, hq _ _ ⟨b, rfl, Same.refl H1, hv.same sm1⟩⟩
  subst e
  have hF := hF.same sm2
  have sm02 := sm1.trans sm2
  -- the dict
  refine fun d hd => ?_
  have hS' := hS
  obtain ⟨svs, hsS, hsA⟩ := hS'
  have nS := sd.okS.nodup
  have lS := sd.okS.len
  have lF := sd.okF.len
  refine ⟨_, rfl, sa, rfl, ⟨_, SqL.of (same_new hd _ _ _ hsS)⟩, for_list (xs := svs) (fun i σ H' => (∃ y z, σ = [some (.str sg), some l, some r, some (.ref fa), some (.ref sa), some (.ref d), y, z, none, none, none, none, none]) ∧ Same H2 H' ∧ ∃ gs, DAt P w K encL H' d gs ∧ ((gs.map fun g => (g.1, g.2.2)) = (S.take i).map fun p => (p.1, V.int p.2))) ⟨⟨none, none, rfl⟩, same_new hd _, [], DAt.start, rfl⟩ (fun i σ H' _ p => SqL.of (p.2.1 _ _ hsS)) (fun i x σ H' hx p => ?_) (fun σ H' p => ?_)⟩
  · obtain ⟨⟨y, z, rfl⟩, sm, gs, dat, eg⟩ := p
    obtain ⟨pr, hp, hA1⟩ := hsA.mget hx
    obtain ⟨c, yv, rfl, hc, hy⟩ := (hA1.same sm).P
    obtain ⟨kb, _, rfl, _⟩ := hy.tup_of
    have hkeys : gs.map (·.1) = (S.take i).map (·.1) := by
      have := congrArg (List.map Prod.fst) eg
      rwa [List.map_map, List.map_map] at this
    have new : pr.1 ∉ gs.map (·.1) := fun h => by
      rw [hkeys] at h
      have := nS
      rw [← List.take_append_drop i S, List.map_append, List.nodup_append] at this
      refine this.2.2 pr.1 h pr.1 ?_ rfl
      rw [dropx hp]
      simp
    have lg : gs.length ≤ S.length := by
      have := congrArg List.length hkeys
      rw [List.length_map, List.length_map, List.length_take] at this
      omega
    refine ⟨c, _, rfl, hc, rfl, .ref kb, _, rfl, _, _, rfl, rfl, ?_⟩
    refine ⟨_, rfl, _, rfl, _, rfl, d, _, kb, _, rfl, rfl, dat.at_, dat.ks kfL, key_mk kfL hy, by rw [enG_len]; exact few63 (by omega), ⟨_, _, rfl⟩, Same.mut sm hd, gs ++ [(pr.1, kb, .int pr.2)], ?_, ?_⟩
    · rw [putE_new (by rw [atE_G kfL]; exact getG_none new)]
      exact dat.put hy
    · rw [takex hp, List.map_append, List.map_append, eg]
      rfl
  obtain ⟨⟨y6, y7, rfl⟩, sm3, gs, dat, eg⟩ := p
  rw [hsA.mlen, List.take_length] at eg
  have sm03 := sm02.trans sm3
  have hF := hF.same sm3
  have hS := hS.same sm3
  clear hsA hsS svs
  have inK : ∀ (neg : Bool) (H3 : Hp), Same H' H3 → ∀ (k : Lab) (x : V), At K H3 x (encL k) → ∀ Q' : Bool → Hp → Prop, Q' (if neg = true then !hasK S k else hasK S k) H3 → ∃ d' es' b' k', V.ref d = .ref d' ∧ x = .ref b' ∧ H3 d' = some (dN P w d' es') ∧ KeysAt K H3 es' ∧ KeyAt K H3 b' k' ∧ ∃ c, V.bl (if neg = true then !(atE es' k').isSome else (atE es' k').isSome) = V.bl c ∧ Q' c H3 := by
    intro neg H3 s1 k x hx Q' hq
    obtain ⟨kb, _, rfl, _⟩ := hx.tup_of
    have dat := dat.same s1
    refine ⟨d, _, kb, _, rfl, rfl, dat.at_, dat.ks kfL, key_mk kfL hx, _, rfl, ?_⟩
    rw [atE_G kfL, get_has eg]
    exact hq
  have hF' := hF
  obtain ⟨fvs, hfS, hfA⟩ := hF'
  have hS' := hS
  obtain ⟨svs, hsS, hsA⟩ := hS'
  unfold lawB at q
  refine ⟨_, rfl, rfl, _, rfl, strT (fun c => ?_) (fun c => ?_)⟩
  · rw [if_pos c] at q
    refine ⟨_, rfl, fa, rfl, ⟨_, SqL.of hfS⟩, fun D hD => ?_⟩
    refine comp_rows (v := F) (fl := fun p => hasK S p.1) hF (by omega) hD (fun _ => rfl) (fun _ => rfl) (fun p c x H3 hp sm4 hc hx Q' hq => ?_) fun H3 sm4 h3 => q (.ref D) H3 (sm03.trans sm4) ⟨D, rfl, h3⟩
    refine ⟨_, rfl, c, _, 0, _, rfl, rfl, hc, rfl, _, rfl, ?_⟩
    exact inK false H3 sm4 p.1 x hx Q' (hq H3 (Same.refl H3))
  rw [if_neg c] at q
  refine ⟨_, rfl, rfl, _, rfl, strT (fun c => ?_) (fun c => ?_)⟩
  · rw [if_pos c] at q
    refine ⟨_, rfl, fa, rfl, ⟨_, SqL.of hfS⟩, fun D hD => ?_⟩
    refine comp_rows (v := F) (fl := fun p => !hasK S p.1) hF (by omega) hD (fun _ => rfl) (fun _ => rfl) (fun p c x H3 hp sm4 hc hx Q' hq => ?_) fun H3 sm4 h3 => q (.ref D) H3 (sm03.trans sm4) ⟨D, rfl, h3⟩
    refine ⟨_, rfl, c, _, 0, _, rfl, rfl, hc, rfl, _, rfl, ?_⟩
    exact inK true H3 sm4 p.1 x hx Q' (hq H3 (Same.refl H3))
  rw [if_neg c] at q
  refine ⟨_, rfl, rfl, _, rfl, strT (fun c => ?_) (fun c => ?_)⟩
  · rw [if_pos c] at q
    refine ⟨_, rfl, fa, rfl, ⟨_, SqL.of hfS⟩, fun M hM => ?_⟩
    refine comp_labs (v := F) (fl := fun _ => true) hF (by omega) hM (fun _ => rfl) (fun p c x H3 hp sm4 hc hx Q' hq => hq H3 (Same.refl H3)) (fun p c x H3 hc Q' hq => ⟨_, rfl, c, _, 0, _, rfl, rfl, hc, rfl, hq⟩) fun H3 sm4 hM3 => ?_
    rw [filter_all (fun _ _ => rfl)] at hM3
    refine ⟨_, rfl, _, rfl, sa, rfl, ⟨_, SqL.of (sm4 _ _ hsS)⟩, fun D hD => ?_⟩
    refine comp_rows (v := S) (fl := fun p => !hasK F p.1) (hS.same sm4) (by omega) hD (fun _ => rfl) (fun _ => rfl) (fun p c x H4 hp sm5 hc hx Q' hq => ?_) fun H4 sm5 h4 => ?_
    · refine ⟨_, rfl, c, _, 0, _, rfl, rfl, hc, rfl, _, rfl, ?_⟩
      exact labs_in (neg := true) (hM3.same sm5) hx ⟨_, rfl, hq H4 (Same.refl H4)⟩
    obtain ⟨gvs, hgS, hgA⟩ := h4
    have l1 := hfA.mlen
    have l2 := hgA.mlen
    have l3 : (S.filter fun p => !hasK F p.1).length ≤ S.length := List.length_filter_le _ _
    refine ⟨fa, D, _, _, rfl, rfl, sm5 _ _ (sm4 _ _ hfS), hgS, Nat.le_of_lt (few63 (by omega)), fun C hC => ?_⟩
    have smc := same_new hC (HO.lst (fvs ++ gvs))
    have hcat : VecAt K (upd H4 C (.lst (fvs ++ gvs))) C (F ++ S.filter fun p => !hasK F p.1) := ⟨_, upd_same, by rw [List.map_append]; exact ((hfA.same (sm4.trans sm5)).append hgA).same smc⟩
    obtain ⟨bs, b1, b2, b3⟩ := sort_vec hcat (by rw [List.length_append]; omega)
    refine ⟨C, bs, rfl, b1, b2, fun p hp => ?_⟩
    exact q _ _ ((((sm03.trans sm4).trans sm5).trans smc).trans (same_new hp _)) ⟨p, rfl, b3 p hp⟩
  rw [if_neg c] at q
  -- both
  refine ⟨_, rfl, fa, rfl, ⟨_, SqL.of hfS⟩, fun D2 hD2 => ?_⟩
  refine comp_rows (v := F) (fl := fun p => hasK S p.1) hF (by omega) hD2 (fun _ => rfl) (fun _ => rfl) (fun p c x H3 hp sm4 hc hx Q' hq => ?_) fun H3 sm4 h2 => ?_
  · refine ⟨_, rfl, c, _, 0, _, rfl, rfl, hc, rfl, _, rfl, ?_⟩
    exact inK false H3 sm4 p.1 x hx Q' (hq H3 (Same.refl H3))
  have sm04 := sm03.trans sm4
  have dat2 := dat.same sm4
  have oB := sd.okF.filter fun p => hasK S p.1
  have lB := oB.len
  refine ⟨_, rfl, (by show 3 ≤ sizeLine; decide), fun jt hjt => ?_⟩
  have smj := same_new hjt (HO.tup [.str "+", .str "-", .str "*"])
  refine ⟨jt, _, rfl, .inr (SqT.of upd_same), rfl, rfl, _, rfl, ?_⟩
  generalize upd H3 jt (HO.tup [.str "+", .str "-", .str "*"]) = Hj at smj
  show if inV (.str sg) [.str "+", .str "-", .str "*"] = true then _ else _
  rw [ar_in]
  have dat3 := dat2.same smj
  have h2 := h2.same smj
  have sm05 := sm04.trans smj
  have h2' := h2
  obtain ⟨bvs, hbS, hbA⟩ := h2'
  refine iteB (fun c => ?_) (fun c => ?_)
  · rw [if_pos c] at q
    refine ⟨_, rfl, D2, rfl, ⟨_, SqL.of hbS⟩, fun D hD => ?_⟩
    refine comp_map (v := F.filter fun p => hasK S p.1) (f := fun p => cmp sg p.2 (getK S p.1)) h2 (by omega) hD (fun _ _ => rfl) (fun p x H4 hp sm5 hx Q' hq => ?_) fun H4 sm5 h4 => q (.ref D) H4 (sm05.trans sm5) ⟨D, rfl, h4⟩
    obtain ⟨kb, _, rfl, _⟩ := hx.tup_of
    have dat := dat3.same sm5
    have hk : hasK S p.1 = true := (List.mem_filter.mp hp).2
    refine ⟨_, rfl, _, rfl, _, rfl, _, rfl, _, rfl, d, _, kb, _, .int (getK S p.1), rfl, rfl, dat.at_, dat.ks kfL, key_mk kfL hx, by rw [atE_G kfL]; exact get_val eg hk, ?_⟩
    exact ⟨sg, p.2, getK S p.1, B, rfl, oB.bits p hp, getK_bits sd.okS hk, hB0, hB, (by show 2 ≤ sizeLine; decide), fun t ht => hq t _ (same_new ht _) ht upd_same⟩
  rw [if_neg (by rw [c]; simp)] at q
  refine ⟨_, rfl, D2, rfl, ⟨_, SqL.of hbS⟩, fun M hM => ?_⟩
  refine comp_labs (v := F.filter fun p => hasK S p.1) (fl := fun p => hld sg p.2 (getK S p.1)) h2 (by omega) hM (fun _ => rfl) (fun p c x H4 hp sm5 hc hx Q' hq => ?_) (fun p c x H3 hc Q' hq => ⟨_, rfl, c, _, 0, _, rfl, rfl, hc, rfl, hq⟩) fun H4 sm5 hM4 => ?_
  · obtain ⟨kb, _, rfl, _⟩ := hx.tup_of
    have dat := dat3.same sm5
    have hk : hasK S p.1 = true := (List.mem_filter.mp hp).2
    refine ⟨_, rfl, _, rfl, c, _, 1, _, rfl, rfl, hc, rfl, _, rfl, _, rfl, c, _, 0, _, rfl, rfl, hc, rfl, d, _, kb, _, .int (getK S p.1), rfl, rfl, dat.at_, dat.ks kfL, key_mk kfL hx, by rw [atE_G kfL]; exact get_val eg hk, ?_⟩
    exact ⟨sg, p.2, getK S p.1, rfl, _, rfl, hq H4 (Same.refl H4)⟩
  have sm06 := sm05.trans sm5
  generalize (((F.filter fun p : Lab × Int => hasK S p.1).filter fun p : Lab × Int => hld sg p.2 (getK S p.1)).map fun p : Lab × Int => p.1) = ks at hM4 q
  have lG := sd.len
  obtain ⟨tl0', tl1', tl2'⟩ := sd.tl H4 sm06
  refine ⟨_, rfl, _, _, _, _, il, rfl, .ty "int", tl1', tl2', _, rfl, iteB (fun c => ?_) (fun c => ?_)⟩
  · obtain ⟨b, rfl, hG⟩ := sd.g1 c
    have hG := hG.same sm06
    have hG' := hG
    obtain ⟨gvs, hgS, hgA⟩ := hG'
    refine ⟨_, rfl, b, rfl, ⟨_, SqL.of hgS⟩, fun D hD => ?_⟩
    refine comp_rows (v := G) (fl := fun p => decide (p.1 ∈ ks)) hG (by omega) hD (fun _ => rfl) (fun _ => rfl) (fun p c x H5 hp sm7 hc hx Q' hq => ?_) fun H5 sm7 h5 => q (.ref D) H5 (sm06.trans sm7) ⟨D, rfl, h5⟩
    refine ⟨_, rfl, c, _, 0, _, rfl, rfl, hc, rfl, _, rfl, ?_⟩
    exact labs_in (neg := false) (hM4.same sm7) hx ⟨_, rfl, hq H5 (Same.refl H5)⟩
  · obtain ⟨a, rfl, hG⟩ := sd.g0 c
    have hG := hG.same sm06
    have hG' := hG
    obtain ⟨gvs, hgS, hgA⟩ := hG'
    refine ⟨_, rfl, a, rfl, ⟨_, SqL.of hgS⟩, fun D hD => ?_⟩
    refine comp_rows (v := G) (fl := fun p => decide (p.1 ∈ ks)) hG (by omega) hD (fun _ => rfl) (fun _ => rfl) (fun p c x H5 hp sm7 hc hx Q' hq => ?_) fun H5 sm7 h5 => q (.ref D) H5 (sm06.trans sm7) ⟨D, rfl, h5⟩
    refine ⟨_, rfl, c, _, 0, _, rfl, rfl, hc, rfl, _, rfl, ?_⟩
    exact labs_in (neg := false) (hM4.same sm7) hx ⟨_, rfl, hq H5 (Same.refl H5)⟩
end
end L2.Q9


set_option Elab.async false
set_option linter.all false
set_option maxRecDepth 100000
set_option maxHeartbeats 4000000
/-! Q9: how large the values are. -/
namespace L2.Q9
open PySem PySem.Spec PyProof.Rows

def sz : Ex → Nat
  | .num _ => 1
  | .latest _ _ => 1
  | .over _ _ _ _ => 1
  | .agg _ _ e => sz e + 1
  | .bin _ l r => sz l + sz r + 1
theorem sz_pos : ∀ e : Ex, 1 ≤ sz e
  | .num _ => Nat.le_refl _
  | .latest _ _ => Nat.le_refl _
  | .over _ _ _ _ => Nat.le_refl _
  | .agg _ _ e => by rw [sz]; omega
  | .bin _ l r => by rw [sz]; omega
def ht : Ex → Nat
  | .num _ => 1
  | .latest _ _ => 1
  | .over _ _ _ _ => 1
  | .agg _ _ e => ht e + 1
  | .bin _ l r => max (ht l) (ht r) + 1
theorem ht_sz : ∀ e : Ex, ht e ≤ sz e
  | .num _ => Nat.le_refl _
  | .latest _ _ => Nat.le_refl _
  | .over _ _ _ _ => Nat.le_refl _
  | .agg _ _ e => by
    rw [ht, sz]
    have := ht_sz e
    omega
  | .bin _ l r => by
    rw [ht, sz]
    have := ht_sz l
    have := ht_sz r
    omega
def ExOk : Ex → Prop
  | .num n => n.natAbs < 2 ^ 60
  | .latest _ _ => True
  | .over _ _ _ sp => 1 ≤ sp ∧ sp ≤ 1000
  | .agg wd _ e => wd ∈ (["sum", "min", "max", "count"] : List Str) ∧ ExOk e
  | .bin _ l r => ExOk l ∧ ExOk r
/-- lists of such numbers -/
def Nums (B : Nat) (vs : List Int) : Prop := ∀ n ∈ vs, n.natAbs < 2 ^ B
theorem sum_abs {B : Nat} : ∀ {vs : List Int}, Nums B vs → vs.sum.natAbs ≤ vs.length * 2 ^ B
  | [], _ => by simp
  | n :: vs, h => by
    have h1 := h n (List.mem_cons_self ..)
    have h2 := sum_abs (vs := vs) fun m hm => h m (List.mem_cons_of_mem _ hm)
    rw [List.sum_cons, List.length_cons]
    have h3 := Int.natAbs_add_le n vs.sum
    rw [Nat.succ_mul]
    omega
theorem len_pow {B l : Nat} (h : l ≤ 20000) : l * 2 ^ B < 2 ^ (B + 16) := by
  have e : 2 ^ (B + 16) = 65536 * 2 ^ B := by rw [Nat.pow_add, Nat.mul_comm]
  rw [e]
  exact Nat.mul_lt_mul_of_pos_right (by omega) (Nat.two_pow_pos B)
theorem up_pow {a B C : Nat} (h : a < 2 ^ B) (l : B ≤ C) : a < 2 ^ C := Nat.lt_of_lt_of_le h (Nat.pow_le_pow_right (by decide) l)
theorem sum_small {B : Nat} {vs : List Int} (h : Nums B vs) (l : vs.length ≤ 20000) : vs.sum.natAbs < 2 ^ (B + 20) := Nat.lt_of_le_of_lt (sum_abs h) (up_pow (len_pow l) (by omega))
theorem min_small {B : Nat} {vs : List Int} (h : Nums B vs) : (minI vs).natAbs < 2 ^ B := by
  unfold minI
  cases e : vs.min? with
  | none => exact Nat.two_pow_pos B
  | some m => exact h m (List.min?_mem e)
theorem max_small {B : Nat} {vs : List Int} (h : Nums B vs) : (maxI vs).natAbs < 2 ^ B := by
  unfold maxI
  cases e : vs.max? with
  | none => exact Nat.two_pow_pos B
  | some m => exact h m (List.max?_mem e)
theorem getD_small {B : Nat} {vs : List Int} (h : Nums B vs) (i : Nat) : (vs.getD i 0).natAbs < 2 ^ B := by
  rw [List.getD_eq_getElem?_getD]
  cases e : vs[i]? with
  | none => exact Nat.two_pow_pos B
  | some m => exact h m (List.mem_of_getElem? e)
theorem len_small {B : Nat} {vs : List Int} (l : vs.length ≤ 20000) : ((vs.length : Int)).natAbs < 2 ^ (B + 20) := by
  rw [Int.natAbs_natCast]
  exact Nat.lt_of_lt_of_le (show vs.length < 2 ^ 20 by omega) (Nat.pow_le_pow_right (by decide) (by omega))
theorem inc_small {B : Nat} {vs : List Int} (h : Nums B vs) : ∀ n : Nat, (incN vs n).natAbs ≤ n * 2 ^ (B + 1)
  | 0 => by simp [incN]
  | n + 1 => by
    rw [incN, Nat.succ_mul]
    have h1 := inc_small h n
    have h2 := Int.natAbs_add_le (incN vs n) (stp (vs.getD n 0) (vs.getD (n + 1) 0))
    have h3 := getD_small h n
    have h4 := getD_small h (n + 1)
    have h5 : (stp (vs.getD n 0) (vs.getD (n + 1) 0)).natAbs ≤ 2 ^ (B + 1) := by
      rw [Nat.pow_succ]
      unfold stp
      split <;> omega
    omega
theorem ovr_small {B : Nat} {wd : Str} {vs : List Int} (h : Nums B vs) (l : vs.length ≤ 10000) : (ovr wd vs).natAbs < 2 ^ (B + 20) := by
  have up : ∀ {a : Nat}, a < 2 ^ B → a < 2 ^ (B + 20) := fun h => up_pow h (by omega)
  unfold ovr
  split
  · exact sum_small h (by omega)
  split
  · exact up (min_small h)
  split
  · exact up (max_small h)
  split
  · exact len_small (by omega)
  split
  · exact up (getD_small h _)
  · exact Nat.lt_of_le_of_lt (inc_small h _) (up_pow (len_pow (B := B + 1) (by omega)) (by omega))
theorem agv_small {B : Nat} {wd : Str} {vs : List Int} (h : Nums B vs) (l : vs.length ≤ 20000) : (agv wd vs).natAbs < 2 ^ (B + 20) := by
  have up : ∀ {a : Nat}, a < 2 ^ B → a < 2 ^ (B + 20) := fun h => up_pow h (by omega)
  unfold agv
  split
  · exact sum_small h (by omega)
  split
  · exact up (min_small h)
  split
  · exact up (max_small h)
  · exact len_small (by omega)
theorem VOk.mono {N B N' B' : Nat} {v : Vec} (h : VOk N B v) (hN : N ≤ N') (hB : B ≤ B') : VOk N' B' v := ⟨h.asc, Nat.le_trans h.len hN, fun p hp => up_pow (h.bits p hp) hB, h.short⟩
theorem VlOk.mono {N B N' B' : Nat} {x : Val} (h : VlOk N B x) (hN : N ≤ N') (hB : B ≤ B') : VlOk N' B' x := by
  cases x with
  | num n => exact up_pow h hB
  | vec v => exact VOk.mono h hN hB
theorem grp_ok {f : List Int → Int} {xs : List (Lab × Int)} {N B C : Nat} (h : ∀ p ∈ xs, p.2.natAbs < 2 ^ B ∧ p.1.length ≤ 20) (hf : ∀ vs, Nums B vs → vs.length ≤ xs.length → (f vs).natAbs < 2 ^ C) (hl : xs.length ≤ N) : VOk N C (grp f xs) := by
  refine ⟨grp_asc f xs, Nat.le_trans (grp_len f xs) hl, fun p hp => ?_, fun p hp => ?_⟩
  · obtain ⟨k, hk, rfl⟩ := List.mem_map.mp hp
    exact hf _ (fun n hn => (h _ (look_mem hn)).1) (look_len xs k)
  · obtain ⟨k, hk, rfl⟩ := List.mem_map.mp hp
    have hk' : k ∈ keysOf xs := (List.mergeSort_perm _ _).mem_iff.mp hk
    obtain ⟨q, hq, rfl⟩ := List.mem_map.mp ((mem_keysOf xs k).mp hk')
    exact (h q hq).2
theorem rd_ok {view : List Smp} (h : ViewOk view) (metric : Str) (ms : List Mat) (width time : Int) : (∀ p ∈ rd view metric ms width time, p.2.natAbs < 2 ^ 60 ∧ p.1.length ≤ 20) ∧ (rd view metric ms width time).length ≤ 63 := by
  refine ⟨fun p hp => ?_, Nat.le_trans (rd_len view metric ms width time) h.few⟩
  obtain ⟨s, hs, rfl⟩ := List.mem_map.mp hp
  have hs' := (List.mem_filter.mp hs).1
  exact ⟨h.small s hs', Nat.le_trans (bare_len _) (h.short s hs')⟩
theorem win_ok {view : List Smp} (h : ViewOk view) {f : List Int → Int} (hf : ∀ vs, Nums 60 vs → vs.length ≤ 10000 → (f vs).natAbs < 2 ^ 80) (metric : Str) (ms : List Mat) (width time : Int) : VOk 63 80 (grp f (rd view metric ms width time)) := by
  obtain ⟨h1, h2⟩ := rd_ok h metric ms width time
  exact grp_ok h1 (fun vs a b => hf vs a (by omega)) h2
theorem cmp_small {s : Str} {a b : Int} {B C : Nat} (ha : a.natAbs < 2 ^ B) (hb : b.natAbs < 2 ^ C) (hB : 0 < B) (hC : 0 < C) : (cmp s a b).natAbs < 2 ^ (B + C + 1) := by
  have e : 2 ^ (B + C + 1) = 2 ^ B * 2 ^ C * 2 := by rw [Nat.pow_succ, Nat.pow_add]
  have p1 : 2 ^ B ≤ 2 ^ B * 2 ^ C := Nat.le_mul_of_pos_right _ (Nat.two_pow_pos C)
  have p2 : 2 ^ C ≤ 2 ^ B * 2 ^ C := Nat.le_mul_of_pos_left _ (Nat.two_pow_pos B)
  rw [e]
  unfold cmp
  split
  · have := Int.natAbs_add_le a b
    omega
  split
  · have := Int.natAbs_sub_le a b
    omega
  · rw [Int.natAbs_mul]
    have := Nat.mul_lt_mul'' ha hb
    omega
theorem kdBin_vec {s : Str} {x y : Kd} {k : Kd} (h : kdBin s x y = some k) (ne : x ≠ .num ∨ y ≠ .num) : k = .vec := by
  unfold kdBin at h
  cases x with
  | num =>
    cases y with
    | num => rcases ne with z | z <;> exact absurd rfl z
    | vec =>
      simp only at h
      split at h
      · cases h
      · injection h with h; exact h.symm
  | vec =>
    cases y with
    | num =>
      simp only at h
      split at h
      · cases h
      · injection h with h; exact h.symm
    | vec => injection h with h; exact h.symm
theorem sortP_asc {v : Vec} (hn : (v.map (·.1)).Nodup) : Asc (sortP v) := by
  unfold Asc
  have hn' : ((sortP v).map (·.1)).Nodup := ((List.mergeSort_perm v (leF encP)).map (·.1)).nodup_iff.mpr hn
  rw [List.Nodup, List.pairwise_map] at hn'
  exact (PySem.W.sort_pairwise (leF_total encP) v).imp₂ (fun {a b} h1 h2 => ltP_of_le h1 h2) hn'
theorem asc_map2 {v : Vec} (h : Asc v) (f : Lab × Int → Int) : Asc (v.map fun p => (p.1, f p)) := asc_map h f
theorem bin_ok {s : Str} {x y : Val} {N M B C : Nat} {k : Kd} (ox : VlOk N B x) (oy : VlOk M C y) (hB : 0 < B) (hC : 0 < C) (hk : kdBin s (kdV x) (kdV y) = some k) : VlOk (N + M) (B + C + 1) (binV s x y) ∧ kdV (binV s x y) = k := by
  have b1 : B ≤ B + C + 1 := by omega
  have b2 : C ≤ B + C + 1 := by omega
  have n1 : N ≤ N + M := by omega
  have n2 : M ≤ N + M := by omega
  cases x with
  | num m =>
    cases y with
    | num n =>
      refine ⟨cmp_small ox oy hB hC, ?_⟩
      have h : (if isAr s = true then some Kd.num else none) = some k := hk
      split at h
      · injection h
      · cases h
    | vec u =>
      refine ⟨?_, (kdBin_vec hk (.inr (by simp [kdV]))).symm⟩
      show VOk (N + M) (B + C + 1) (if isAr s = true then u.map (fun p => (p.1, cmp s m p.2)) else u.filter fun p => hld s m p.2)
      have oy : VOk M C u := oy
      split
      · refine ⟨asc_map oy.asc _, by rw [List.length_map]; exact Nat.le_trans oy.len n2, fun p hp => ?_, fun p hp => ?_⟩
        · obtain ⟨q, hq, rfl⟩ := List.mem_map.mp hp
          exact cmp_small ox (oy.bits q hq) hB hC
        · obtain ⟨q, hq, rfl⟩ := List.mem_map.mp hp
          exact oy.short q hq
      · exact (oy.filter _).mono n2 b2
  | vec v =>
    have ox : VOk N B v := ox
    cases y with
    | num n =>
      refine ⟨?_, (kdBin_vec hk (.inl (by simp [kdV]))).symm⟩
      show VOk (N + M) (B + C + 1) (if isAr s = true then v.map (fun p => (p.1, cmp s p.2 n)) else v.filter fun p => hld s p.2 n)
      split
      · refine ⟨asc_map ox.asc _, by rw [List.length_map]; exact Nat.le_trans ox.len n1, fun p hp => ?_, fun p hp => ?_⟩
        · obtain ⟨q, hq, rfl⟩ := List.mem_map.mp hp
          exact cmp_small (ox.bits q hq) oy hB hC
        · obtain ⟨q, hq, rfl⟩ := List.mem_map.mp hp
          exact ox.short q hq
      · exact (ox.filter _).mono n1 b1
    | vec u =>
      have oy : VOk M C u := oy
      refine ⟨?_, (kdBin_vec hk (.inl (by simp [kdV]))).symm⟩
      show VOk (N + M) (B + C + 1) (if isJn s = true then joinV s v u else vecV s v u)
      split
      · unfold joinV
        split
        · exact (ox.filter _).mono n1 b1
        split
        · exact (ox.filter _).mono n1 b1
        · have perm := List.mergeSort_perm (v ++ u.filter fun p => !hasK v p.1) (leF encP)
          refine ⟨sortP_asc ?_, ?_, fun p hp => ?_, fun p hp => ?_⟩
          · rw [List.map_append, List.nodup_append]
            refine ⟨ox.nodup, ?_, fun a ha b hb e => ?_⟩
            · exact List.Nodup.sublist (List.Sublist.map _ List.filter_sublist) oy.nodup
            · subst e
              obtain ⟨q, hq, rfl⟩ := List.mem_map.mp hb
              have h1 := (List.mem_filter.mp hq).2
              have h2 : hasK v q.1 = true := decide_eq_true ha
              rw [h2] at h1
              cases h1
          · rw [perm.length_eq, List.length_append]
            have := List.length_filter_le (fun p => !hasK v p.1) u
            have := ox.len
            have := oy.len
            omega
          · rcases List.mem_append.mp (perm.mem_iff.mp hp) with h | h
            · exact up_pow (ox.bits p h) b1
            · exact up_pow (oy.bits p (List.mem_filter.mp h).1) b2
          · rcases List.mem_append.mp (perm.mem_iff.mp hp) with h | h
            · exact ox.short p h
            · exact oy.short p (List.mem_filter.mp h).1
      · unfold vecV
        split
        · have o := ox.filter fun p => hasK u p.1
          refine ⟨asc_map o.asc _, by rw [List.length_map]; exact Nat.le_trans o.len n1, fun p hp => ?_, fun p hp => ?_⟩
          · obtain ⟨q, hq, rfl⟩ := List.mem_map.mp hp
            exact cmp_small (o.bits q hq) (getK_bits oy (List.mem_filter.mp hq).2) hB hC
          · obtain ⟨q, hq, rfl⟩ := List.mem_map.mp hp
            exact o.short q hq
        · exact ((ox.filter _).filter _).mono n1 b1
theorem last_small {B : Nat} {vs : List Int} (h : Nums B vs) : (lastI vs).natAbs < 2 ^ (B + 20) := up_pow (getD_small h _) (by omega)
theorem kd_agg {wd : Str} {ns : List Str} {e : Ex} {k : Kd} (h : kd (.agg wd ns e) = some k) : kd e = some .vec ∧ k = .vec := by
  rw [kd] at h
  cases e1 : kd e with
  | none => rw [e1] at h; cases h
  | some a =>
    rw [e1] at h
    cases a with
    | num => cases h
    | vec => injection h with h; exact ⟨rfl, h.symm⟩
theorem kd_bin {s : Str} {l r : Ex} {k : Kd} (h : kd (.bin s l r) = some k) : ∃ a b, kd l = some a ∧ kd r = some b ∧ kdBin s a b = some k := by
  rw [kd] at h
  cases e1 : kd l with
  | none => rw [e1] at h; cases h
  | some a =>
    rw [e1] at h
    cases e2 : kd r with
    | none => rw [e2] at h; cases h
    | some b =>
      rw [e2] at h
      exact ⟨a, b, rfl, rfl, h⟩
theorem ev_ok {view : List Smp} (hv : ViewOk view) (lb t : Int) : ∀ (e : Ex) (k : Kd), ExOk e → kd e = some k → sz e ≤ 300 → VlOk (63 * sz e) (81 * sz e) (ev lb view t e) ∧ kdV (ev lb view t e) = k
  | .num n, k, ho, hk, _ => by
    rw [kd] at hk
    injection hk with hk
    exact ⟨up_pow (show n.natAbs < 2 ^ 60 from ho) (by rw [sz]; omega), hk⟩
  | .latest m ms, k, ho, hk, _ => by
    rw [kd] at hk
    injection hk with hk
    refine ⟨?_, hk⟩
    rw [ev, sz]
    exact (win_ok hv (fun vs h _ => last_small h) m ms lb t).mono (by omega) (by omega)
  | .over wd m ms sp, k, ho, hk, _ => by
    rw [kd] at hk
    injection hk with hk
    refine ⟨?_, hk⟩
    rw [ev, sz]
    exact (win_ok hv (fun vs h l => ovr_small h l) m ms sp t).mono (by omega) (by omega)
  | .agg wd ns e, k, ho, hk, hs => by
    obtain ⟨h1, rfl⟩ := kd_agg hk
    rw [sz] at hs
    obtain ⟨i1, i2⟩ := ev_ok hv lb t e .vec ho.2 h1 (by omega)
    rw [ev]
    cases e1 : ev lb view t e with
    | num n => rw [e1] at i2; cases i2
    | vec v =>
      rw [e1] at i1
      have i1 : VOk (63 * sz e) (81 * sz e) v := i1
      refine ⟨?_, rfl⟩
      have ln := i1.len
      show VOk _ _ (agg wd ns v)
      have o : VOk (63 * sz e) (81 * sz e + 20) (agg wd ns v) := by
        refine grp_ok (B := 81 * sz e) (fun p hp => ?_) (fun vs h l => agv_small h ?_) (by rw [List.length_map]; exact ln)
        · obtain ⟨q, hq, rfl⟩ := List.mem_map.mp hp
          exact ⟨i1.bits q hq, Nat.le_trans (only_len _ _) (i1.short q hq)⟩
        · rw [List.length_map] at l
          omega
      rw [sz]
      exact o.mono (by omega) (by omega)
  | .bin s l r, k, ho, hk, hs => by
    obtain ⟨a, b, h1, h2, h3⟩ := kd_bin hk
    rw [sz] at hs
    obtain ⟨i1, i2⟩ := ev_ok hv lb t l a ho.1 h1 (by omega)
    obtain ⟨j1, j2⟩ := ev_ok hv lb t r b ho.2 h2 (by omega)
    have p1 := sz_pos l
    have p2 := sz_pos r
    rw [← i2, ← j2] at h3
    obtain ⟨o1, o2⟩ := bin_ok i1 j1 (by omega) (by omega) h3
    rw [ev, sz]
    exact ⟨o1.mono (by omega) (by omega), o2⟩
end L2.Q9


set_option Elab.async false
set_option linter.all false
set_option maxRecDepth 100000
set_option maxHeartbeats 4000000
/-! Q9: the two evaluators. -/
namespace L2.Q9
open PySem PySem.Spec PyProof.Rows

theorem At.strv {K : PySem.W.Frag} {H : Hp} {x : Str} {v : V} (h : At K H v (.str x)) : v = .str x := h.str_eq
section
variable {P : Program} {w : World} {K : PySem.W.Frag}
/-- [(labels, f(values)) for labels, values in read] -/
theorem comp_win {a D : Addr} {xs : List (Lab × Int)} {f : List Int → Int} {te : TE} {j1 j2 : Nat} {σ : St} {H1 : Hp} {Qd : Hp → Prop} (hv : WinAt K H1 a xs) (hl : xs.length ≤ 60000) (hD : H1 D = none) (wj : ∀ x y, wipe (((wipe σ [j1, j2]).set j1 (some x)).set j2 (some y)) [j1, j2] = wipe σ [j1, j2])
    (elt : ∀ (k : Lab) (x : V) (l : Addr) (H2 : Hp), k ∈ keysOf xs → Same H1 H2 → At K H2 x (encL k) → H2 l = some (.lst ((look xs k).map V.int)) → ∀ Q' : VK, (∀ t H3, Same H2 H3 → H2 t = none → H3 t = some (.tup [x, .int (f (look xs k))]) → Q' (.ref t) H3) → te (((wipe σ [j1, j2]).set j1 (some x)).set j2 (some (.ref l))) H2 Q')
    (fin : ∀ (H2 : Hp), Same H1 H2 → VecAt K H2 D (grp f xs) → Qd H2) :
    ∃ W : Nat → Nat → Hp → Prop, (∃ m, W 0 m (upd H1 D (.lst []))) ∧ ∀ i m H, W i m H → ((Itl K a).stop i H ∧ Qd H) ∨ ((Itl K a).go i H ∧ ∃ Nx : Hp → Prop, (∀ H', Nx H' → ∃ m', m' < m ∧ W (i + 1) m' H') ∧ ∀ x H', (Itl K a).yld i H x H' → gTup K 2 (gCons (gName j1) (gCons (gName j2) gNil)) x (wipe σ [j1, j2]) H' fun σ2 H2 => wipe σ2 [j1, j2] = wipe σ [j1, j2] ∧ tYes σ2 H2 fun b H3 =>
      if b = true then te σ2 H3 fun y H4 => ∃ acc, H4 D = some (.lst acc) ∧ acc.length < sizeLine ∧ Nx (upd H4 D (.lst (acc ++ [y]))) else Nx H3) := by
  obtain ⟨vs, hS, hlen, hA⟩ := hv
  have hks : (sortL (keysOf xs)).length ≤ 60000 := by
    rw [List.length_mergeSort]
    exact Nat.le_trans (length_keysOf xs) hl
  refine lc_list (xs := vs) (fun i H' => Same H1 H' ∧ ∃ acc, H' D = some (.lst acc) ∧ AtAll K H' acc ((((sortL (keysOf xs)).take i).map fun k => (k, f (look xs k))).map encP)) ⟨same_new hD _, [], upd_same, .nil⟩ (fun i H' _ p => .inl (.inl (p.1 _ _ hS))) (fun i x H' hx p => ?_) (fun H' p => ?_)
  · obtain ⟨sm, acc, hacc, aAll⟩ := p
    have hi : i < (sortL (keysOf xs)).length := by rw [← hlen]; exact lt_of_get hx
    have hp : (sortL (keysOf xs))[i]? = some ((sortL (keysOf xs))[i]) := List.getElem?_eq_getElem hi
    generalize (sortL (keysOf xs))[i] = k at hp
    obtain ⟨c, y, l, rfl, hc, hy, hl2⟩ := hA i k x hp hx
    have hc := SqT.of (K := K) (sm _ _ hc)
    have hy := hy.same sm
    have hl2 := sm _ _ hl2
    have km : k ∈ keysOf xs := (List.mergeSort_perm _ _).mem_iff.mp (List.mem_of_getElem? hp)
    refine ⟨c, _, rfl, hc, rfl, y, _, rfl, _, _, rfl, rfl, wj _ _, elt k y l H' km sm hy hl2 _ fun t H3 sm3 nt ht => ?_⟩
    have hacc' := sm3 _ _ hacc
    have z : acc.length < sizeLine := by
      have h1 := aAll.mlen
      rw [List.length_map, List.length_take] at h1
      exact few63 (by omega)
    refine ⟨acc, hacc', z, Same.mut (sm.trans sm3) hD, acc ++ [.ref t], upd_same, ?_⟩
    rw [takex hp, List.map_append, List.map_append]
    exact ((aAll.same sm3).keep (Kt.lst hacc')).append (.cons ((At.tup_mk (SqT.of ht) (.cons (hy.same sm3) (.cons At.int .nil))).keep (Kt.lst hacc')) .nil)
  · obtain ⟨sm, acc, hacc, aAll⟩ := p
    rw [hlen, List.take_length] at aAll
    exact fin H' sm ⟨acc, hacc, aAll⟩
end
/-- an expression's value, of height n at most -/
def spVal (K : PySem.W.Frag) (n : Nat) : Sp := fun vs H Q _ => ∃ v lb va time e view, vs = [v, .int lb, .ref va, .int time] ∧ At K H v (encE e) ∧ ht e ≤ n ∧ ViewAt K H va view ∧ ViewOk view ∧ 0 ≤ time ∧ time ≤ 20 ∧ 1 ≤ lb ∧ lb ≤ 1000 ∧ ExOk e ∧ (kd e).isSome = true ∧ sz e ≤ 300 ∧ ∀ v H', Same H H' → ValAt K H' v (ev lb view time e) → Q v H'
theorem ht_pos : ∀ e : Ex, 1 ≤ ht e
  | .num _ => Nat.le_refl _
  | .latest _ _ => Nat.le_refl _
  | .over _ _ _ _ => Nat.le_refl _
  | .agg _ _ e => by rw [ht]; omega
  | .bin _ l r => by rw [ht]; omega
theorem strEq {a b : Str} {A B : Prop} {Q : Prop} (h1 : a = b → A) (h2 : ¬ a = b → B) : if decide (V.str a = V.str b) = true then A else B := strT h1 h2
section
variable {P : Program} {w : World} {K : PySem.W.Frag} {mg : Str → Option Value} {base : Heap}

/-! ### value_at -/
abbrev s21 : Stmt := topS 21
theorem sc21 : FnScope ["expression", "lookback", "view", "time", "head", "read", "left", "labels", "values"] ["expression", "lookback", "view", "time"] (defScope s21) := ⟨rfl, rfl, rfl, by decide +kernel, rfl, by decide +kernel, by decide +kernel⟩

theorem ok21 {f : Addr} {fd : FuncData} (Fn : Fun K "value_at" "value_at" s21 f fd) (kf : PySem.W.keepIn K (.ref f) = true) (bf : Binds K fd ["expression", "lookback", "view", "time"] []) (mf : mg "value_at" = some (.ref f))
    {f17 : Addr} {fd17 : FuncData} (G17 : FnOk P w K mg base CX0 5 f17 fd17 ["view", "metric", "matchers", "width", "time"] (spWindows K)) (k17 : PySem.W.keepIn K (.ref f17) = true) (b17 : Binds K fd17 ["view", "metric", "matchers", "width", "time"] []) (m17 : mg "windows" = some (.ref f17))
    {f19 : Addr} {fd19 : FuncData} (G19 : FnOk P w K mg base CX0 2 f19 fd19 ["word", "values"] (spOver K)) (k19 : PySem.W.keepIn K (.ref f19) = true) (b19 : Binds K fd19 ["word", "values"] []) (m19 : mg "over" = some (.ref f19))
    {f14 : Addr} {fd14 : FuncData} (G14 : FnOk P w K mg base CX0 2 f14 fd14 ["word", "names", "vector"] (spAgg K)) (k14 : PySem.W.keepIn K (.ref f14) = true) (b14 : Binds K fd14 ["word", "names", "vector"] []) (m14 : mg "aggregate" = some (.ref f14))
    {f12 : Addr} {fd12 : FuncData} (G12 : FnOk P w K mg base CX0 3 f12 fd12 ["sign", "left", "right"] (spBin K)) (k12 : PySem.W.keepIn K (.ref f12) = true) (b12 : Binds K fd12 ["sign", "left", "right"] []) (m12 : mg "binary" = some (.ref f12)) : ∀ n : Nat, FnOk P w K mg base CX0 (6 + n) f fd ["expression", "lookback", "view", "time"] (spVal K n) := by
  intro n
  have len : ∀ vs H Q E, spVal K n vs H Q E → vs.length = 4 := fun vs H Q E h => by
    obtain ⟨v, lb, va, time, e, view, rfl, _⟩ := h
    rfl
  induction n with
  | zero =>
    refine Fn.ok (k := 5) sc21 len (fun cdv A outer s H vs Q E hr h => ?_)
    obtain ⟨v, lb, va, time, e, view, rfl, hv, hh, _⟩ := h
    have := ht_pos e
    omega
  | succ n ih =>
    have ih := ih fun vs H Q E h => by
      obtain ⟨v, lb, va, time, e, view, rfl, _⟩ := h
      rfl
    refine Fn.ok (k := 6 + n) sc21 len (fun cdv A outer s H vs Q E hr h => ?_)
    obtain ⟨v, lb, va, time, e, view, rfl, hv, hh, hva, vok, t0, t20, l1, l1000, eok, hk, hsz, q⟩ := h
    have hr5 := hr.mono (show 5 ≤ 6 + n by omega)
    have hr2 := hr.mono (show 2 ≤ 6 + n by omega)
    have hr3 := hr.mono (show 3 ≤ 6 + n by omega)
    refine ⟨_, pss_cons (ps_set (i := 4) sc21.nd rfl (Or.inl rfl) (pe_ix ix_tup (pv 0) pe_int (fun _ _ => rfl)))
      (pss_cons (ps_if (pt_cmpR op_eq (pv 4) pe_str (nomark _)) (pss_one (ps_ret (pe_ix ix_tup (pv 0) pe_int (fun _ _ => rfl)))) pss_nil)
      (pss_cons (ps_if (pt_cmpR op_eq (pv 4) pe_str (nomark _)) (pss_cons (ps_set (i := 5) sc21.nd rfl (Or.inl rfl) (pe_call G17 hr5 rfl m17 k17 b17 .nil pass0 (pa_cons (pv 2) (pa_cons (pe_ix ix_tup (pv 0) pe_int (fun _ _ => rfl)) (pa_cons (pe_ix ix_tup (pv 0) pe_int (fun _ _ => rfl)) (pa_cons (pv 1) (pa_cons (pv 3) pa_nil)))))))
        (pss_one (ps_ret (pe_lc (own := [("labels", 7), ("values", 8)]) (g := gTup K 2 (gCons (gName 7) (gCons (gName 8) gNil))) (by rfl) sc21.nd (pi_list (pv 5)) (blkOk_by (own := [("labels", 7), ("values", 8)]) (N := ["expression", "lookback", "view", "time", "head", "read", "left", "labels", "values"]) (sc := defScope s21) (by decide +kernel)) (fun _ _ _ _ _ => pg_tup rfl (pgs_cons (pg_name (i := 7) sc21.nd rfl (Or.inl rfl)) (pgs_cons (pg_name (i := 8) sc21.nd rfl (Or.inl rfl)) pgs_nil))) (fun _ _ _ _ _ => pts_nil) (fun _ _ _ _ _ => pe_tup (pa_cons (pv 7) (pa_cons (pe_ix (r := rIxL K) ix_list (pv 8) (pe_un un_neg pe_int) (fun _ _ => rfl)) pa_nil))))))) pss_nil)
      (pss_cons (ps_if (pt_cmpR op_eq (pv 4) pe_str (nomark _)) (pss_cons (ps_set (i := 5) sc21.nd rfl (Or.inl rfl) (pe_call G17 hr5 rfl m17 k17 b17 .nil pass0 (pa_cons (pv 2) (pa_cons (pe_ix ix_tup (pv 0) pe_int (fun _ _ => rfl)) (pa_cons (pe_ix ix_tup (pv 0) pe_int (fun _ _ => rfl)) (pa_cons (pe_ix ix_tup (pv 0) pe_int (fun _ _ => rfl)) (pa_cons (pv 3) pa_nil)))))))
        (pss_one (ps_ret (pe_lc (own := [("labels", 7), ("values", 8)]) (g := gTup K 2 (gCons (gName 7) (gCons (gName 8) gNil))) (by rfl) sc21.nd (pi_list (pv 5)) (blkOk_by (own := [("labels", 7), ("values", 8)]) (N := ["expression", "lookback", "view", "time", "head", "read", "left", "labels", "values"]) (sc := defScope s21) (by decide +kernel)) (fun _ _ _ _ _ => pg_tup rfl (pgs_cons (pg_name (i := 7) sc21.nd rfl (Or.inl rfl)) (pgs_cons (pg_name (i := 8) sc21.nd rfl (Or.inl rfl)) pgs_nil))) (fun _ _ _ _ _ => pts_nil) (fun _ _ _ _ _ => pe_tup (pa_cons (pv 7) (pa_cons (pe_call (sp := spOver K) G19 hr2 rfl m19 k19 b19 .nil pass0 (pa_cons (pe_ix (r := rIxT K) ix_tup (pv 0) pe_int (fun _ _ => rfl)) (pa_cons (pv 8) pa_nil))) pa_nil))))))) pss_nil)
      (pss_cons (ps_if (pt_cmpR op_eq (pv 4) pe_str (nomark _)) (pss_one (ps_ret (pe_call G14 hr2 rfl m14 k14 b14 .nil pass0 (pa_cons (pe_ix ix_tup (pv 0) pe_int (fun _ _ => rfl)) (pa_cons (pe_ix ix_tup (pv 0) pe_int (fun _ _ => rfl)) (pa_cons (pe_call ih hr rfl mf kf bf .nil pass0 (pa_cons (pe_ix ix_tup (pv 0) pe_int (fun _ _ => rfl)) (pa_cons (pv 1) (pa_cons (pv 2) (pa_cons (pv 3) pa_nil))))) pa_nil)))))) pss_nil)
      (pss_cons (ps_set (i := 6) sc21.nd rfl (Or.inl rfl) (pe_call ih hr rfl mf kf bf .nil pass0 (pa_cons (pe_ix ix_tup (pv 0) pe_int (fun _ _ => rfl)) (pa_cons (pv 1) (pa_cons (pv 2) (pa_cons (pv 3) pa_nil))))))
      (pss_one (ps_ret (pe_call G12 hr3 rfl m12 k12 b12 .nil pass0 (pa_cons (pe_ix ix_tup (pv 0) pe_int (fun _ _ => rfl)) (pa_cons (pv 6) (pa_cons (pe_call ih hr rfl mf kf bf .nil pass0 (pa_cons (pe_ix ix_tup (pv 0) pe_int (fun _ _ => rfl)) (pa_cons (pv 1) (pa_cons (pv 2) (pa_cons (pv 3) pa_nil))))) pa_nil))))))))))), ?_⟩
    obtain ⟨ka, hka⟩ := Option.isSome_iff_exists.mp hk
    cases e with
    | num m =>
      obtain ⟨a, x, y, rfl, hS, hx, hy⟩ := (show At K H v (.tuple [.str "number", .int m]) from hv).pair
      rw [hx.str_eq, hy.int_eq] at hS
      refine ⟨_, rfl, a, _, 0, _, rfl, rfl, hS, rfl, ?_⟩
      refine ⟨_, rfl, rfl, _, rfl, strT (fun c => ?_) (fun c => absurd rfl c)⟩
      exact ⟨_, rfl, a, _, 1, _, rfl, rfl, hS, rfl, q _ _ (Same.refl H) rfl⟩
    | latest m ms =>
      obtain ⟨a, x, y, z, rfl, hS, hx, hy, hz⟩ := (show At K H v (.tuple [.str "latest", .str m, .tuple (ms.map encM)]) from hv).three
      rw [hx.str_eq, hy.str_eq] at hS
      refine ⟨_, rfl, a, _, 0, _, rfl, rfl, hS, rfl, ?_⟩
      refine ⟨_, rfl, rfl, _, rfl, strT (fun c => absurd c (by decide)) (fun _ => ?_)⟩
      refine ⟨_, rfl, rfl, _, rfl, strT (fun _ => ?_) (fun c => absurd rfl c)⟩
      refine ⟨_, rfl, _, rfl, a, _, 1, _, rfl, rfl, hS, rfl, _, rfl, a, _, 2, _, rfl, rfl, hS, rfl, _, rfl, _, rfl, va, view, m, z, ms, lb, time, rfl, hva, vok.few, vok.short, hz, fun p H2 sm2 np hw => ?_⟩
      have hw' := hw
      obtain ⟨wvs, hwS, _⟩ := hw'
      refine ⟨_, rfl, p, rfl, ⟨_, SqL.of hwS⟩, fun D hD => ?_⟩
      have lr := (rd_ok vok m ms lb time).2
      refine comp_win (f := lastI) hw (by omega) hD (fun _ _ => rfl) (fun k x l H3 hk sm3 hx hl Q' hq => ?_) fun H3 sm3 h3 => q _ H3 (sm2.trans sm3) ⟨D, rfl, h3⟩
      exact ⟨_, rfl, _, rfl, 1, rfl, l, _, _, _, rfl, rfl, SqL.of hl, ints_last (look_ne hk), (by show 2 ≤ sizeLine; decide), fun t ht => hq t _ (same_new ht _) ht upd_same⟩
    | over wd m ms sp =>
      obtain ⟨a, x, y, z, u, t, rfl, hS, hx, hy, hz, hu, ht'⟩ := (show At K H v (.tuple [.str "over", .str wd, .str m, .tuple (ms.map encM), .int sp]) from hv).five
      rw [hx.str_eq, hy.str_eq, hz.str_eq, ht'.int_eq] at hS
      refine ⟨_, rfl, a, _, 0, _, rfl, rfl, hS, rfl, ?_⟩
      refine ⟨_, rfl, rfl, _, rfl, strT (fun c => absurd c (by decide)) (fun _ => ?_)⟩
      refine ⟨_, rfl, rfl, _, rfl, strT (fun c => absurd c (by decide)) (fun _ => ?_)⟩
      refine ⟨_, rfl, rfl, _, rfl, strT (fun _ => ?_) (fun c => absurd rfl c)⟩
      refine ⟨_, rfl, _, rfl, a, _, 2, _, rfl, rfl, hS, rfl, _, rfl, a, _, 3, _, rfl, rfl, hS, rfl, _, rfl, a, _, 4, _, rfl, rfl, hS, rfl, _, rfl, va, view, m, u, ms, sp, time, rfl, hva, vok.few, vok.short, hu, fun p H2 sm2 np hw => ?_⟩
      have hw' := hw
      obtain ⟨wvs, hwS, _⟩ := hw'
      refine ⟨_, rfl, p, rfl, ⟨_, SqL.of hwS⟩, fun D hD => ?_⟩
      have lr := (rd_ok vok m ms sp time).2
      refine comp_win (f := ovr wd) hw (by omega) hD (fun _ _ => rfl) (fun k x l H3 hk sm3 hx hl Q' hq => ?_) fun H3 sm3 h3 => q _ H3 (sm2.trans sm3) ⟨D, rfl, h3⟩
      refine ⟨_, rfl, _, rfl, a, _, 1, _, rfl, rfl, Same.seqT (sm2.trans sm3) hS, rfl, _, rfl, wd, l, look _ k, rfl, SqL.of hl, look_ne hk, Nat.le_trans (look_len _ k) (by omega), fun H4 sm4 => ?_⟩
      exact ⟨(by show 2 ≤ sizeLine; decide), fun t ht => hq t _ (sm4.trans (same_new ht _)) (sm4.free ht) upd_same⟩
    | agg wd ns e =>
      obtain ⟨a, x, y, z, u, rfl, hS, hx, hy, hz, hu⟩ := (show At K H v (.tuple [.str "aggregate", .str wd, .tuple (ns.map .str), encE e]) from hv).four
      rw [hx.str_eq, hy.str_eq] at hS
      obtain ⟨hke, rfl⟩ := kd_agg hka
      rw [sz] at hsz
      have hh : ht e + 1 ≤ n + 1 := hh
      refine ⟨_, rfl, a, _, 0, _, rfl, rfl, hS, rfl, ?_⟩
      refine ⟨_, rfl, rfl, _, rfl, strT (fun c => absurd c (by decide)) (fun _ => ?_)⟩
      refine ⟨_, rfl, rfl, _, rfl, strT (fun c => absurd c (by decide)) (fun _ => ?_)⟩
      refine ⟨_, rfl, rfl, _, rfl, strT (fun c => absurd c (by decide)) (fun _ => ?_)⟩
      refine ⟨_, rfl, rfl, _, rfl, strT (fun _ => ?_) (fun c => absurd rfl c)⟩
      refine ⟨_, rfl, a, _, 1, _, rfl, rfl, hS, rfl, _, rfl, a, _, 2, _, rfl, rfl, hS, rfl, ?_⟩
      refine ⟨_, rfl, a, _, 3, _, rfl, rfl, hS, rfl, _, rfl, _, rfl, _, rfl, u, lb, va, time, e, view, rfl, hu, by omega, hva, vok, t0, t20, l1, l1000, eok.2, by rw [hke]; rfl, by omega, fun v2 H2 sm2 hv2 => ?_⟩
      obtain ⟨o1, o2⟩ := ev_ok vok lb time e .vec eok.2 hke (by omega)
      have q : ∀ v H', Same H H' → ValAt K H' v (match ev lb view time e with | .vec v => .vec (agg wd ns v) | .num _ => .num 0) → Q v H' := q
      cases e1 : ev lb view time e with
      | num k => rw [e1] at o2; cases o2
      | vec v =>
        rw [e1] at o1 q hv2
        obtain ⟨b, rfl, hv2⟩ := hv2
        have o1 : VOk (63 * sz e) (81 * sz e) v := o1
        have ln := o1.len
        exact ⟨wd, z, ns, b, v, rfl, hz.same sm2, hv2, by omega, o1.short, eok.1, fun p H3 sm3 np h3 => q _ _ (sm2.trans sm3) ⟨p, rfl, h3⟩⟩
    | bin sg l r =>
      obtain ⟨a, x, y, z, u, rfl, hS, hx, hy, hz, hu⟩ := (show At K H v (.tuple [.str "binary", .str sg, encE l, encE r]) from hv).four
      rw [hx.str_eq, hy.str_eq] at hS
      obtain ⟨ka1, ka2, hk1, hk2, hk3⟩ := kd_bin hka
      rw [sz] at hsz
      have hh : max (ht l) (ht r) + 1 ≤ n + 1 := hh
      have p1 := sz_pos l
      have p2 := sz_pos r
      refine ⟨_, rfl, a, _, 0, _, rfl, rfl, hS, rfl, ?_⟩
      refine ⟨_, rfl, rfl, _, rfl, strT (fun c => absurd c (by decide)) (fun _ => ?_)⟩
      refine ⟨_, rfl, rfl, _, rfl, strT (fun c => absurd c (by decide)) (fun _ => ?_)⟩
      refine ⟨_, rfl, rfl, _, rfl, strT (fun c => absurd c (by decide)) (fun _ => ?_)⟩
      refine ⟨_, rfl, rfl, _, rfl, strT (fun c => absurd c (by decide)) (fun _ => ?_)⟩
      refine ⟨_, rfl, a, _, 2, _, rfl, rfl, hS, rfl, _, rfl, _, rfl, _, rfl, z, lb, va, time, l, view, rfl, hz, by omega, hva, vok, t0, t20, l1, l1000, eok.1, by rw [hk1]; rfl, by omega, fun v2 H2 sm2 hv2 => ?_⟩
      refine ⟨_, rfl, a, _, 1, _, rfl, rfl, Same.seqT sm2 hS, rfl, _, rfl, _, rfl, a, _, 3, _, rfl, rfl, Same.seqT sm2 hS, rfl, _, rfl, _, rfl, _, rfl, u, lb, va, time, r, view, rfl, hu.same sm2, by omega, hva.same sm2, vok, t0, t20, l1, l1000, eok.2, by rw [hk2]; rfl, by omega, fun v3 H3 sm3 hv3 => ?_⟩
      obtain ⟨o1, o2⟩ := ev_ok vok lb time l ka1 eok.1 hk1 (by omega)
      obtain ⟨o3, o4⟩ := ev_ok vok lb time r ka2 eok.2 hk2 (by omega)
      refine ⟨sg, v2, v3, _, _, 63 * (sz l + sz r), 81 * (sz l + sz r), rfl, hv2.same sm3, hv3, o1.mono (by omega) (by omega), o3.mono (by omega) (by omega), by omega, by omega, by omega, ?_, fun v4 H4 sm4 h4 => q _ _ ((sm2.trans sm3).trans sm4) h4⟩
      rw [o2, o4, hk3]
      rfl
end
end L2.Q9


set_option Elab.async false
set_option linter.all false
set_option maxRecDepth 100000
set_option maxHeartbeats 4000000
/-! Q9: the law's evaluator, the kinds. -/
namespace L2.Q9
open PySem PySem.Spec PyProof.Rows

def kdS : Kd → Str
  | .num => "number"
  | .vec => "vector"
theorem ovr_last : ovr "last_over" = lastI := rfl
theorem jn_in2 (s : Str) : inV (.str s) [.str "and", .str "or", .str "unless"] = isJn s := by
  have h := inV_str s ["and", "or", "unless"]
  refine Eq.trans h ?_
  unfold isJn
  refine decide_eq_decide.mpr ?_
  simp only [List.mem_cons, List.not_mem_nil, or_false]
  constructor
  · rintro (h | h | h)
    · exact .inr (.inl h)
    · exact .inl h
    · exact .inr (.inr h)
  · rintro (h | h | h)
    · exact .inr (.inl h)
    · exact .inl h
    · exact .inr (.inr h)
theorem ar_jn {s : Str} (ar : isAr s = true) : isJn s = false := by
  have h := of_decide_eq_true ar
  simp only [List.mem_cons, List.not_mem_nil, or_false] at h
  rcases h with rfl | rfl | rfl <;> decide
theorem strNon {x : Str} {A B : Prop} (h : B) : if decide (V.str x = V.non) = true then A else B := by
  rw [if_neg]
  · exact h
  · intro z
    cases of_decide_eq_true z
/-- an expression's kind -/
def spKind (K : PySem.W.Frag) (n : Nat) : Sp := fun vs H Q _ => ∃ v e k, vs = [v] ∧ At K H v (encE e) ∧ ht e ≤ n ∧ kd e = some k ∧ ∀ H', Same H H' → Q (.str (kdS k)) H'
section
variable {P : Program} {w : World} {K : PySem.W.Frag} {mg : Str → Option Value} {base : Heap}

/-! ### _law_value -/
abbrev s46 : Stmt := topS 46
theorem sc46 : FnScope ["_law_expression_here", "_law_lookback", "_law_view_here", "_law_time", "_law_left"] ["_law_expression_here", "_law_lookback", "_law_view_here", "_law_time"] (defScope s46) := ⟨rfl, rfl, rfl, by decide +kernel, rfl, by decide +kernel, by decide +kernel⟩

theorem ok46 {f : Addr} {fd : FuncData} (Fn : Fun K "_law_value" "_law_value" s46 f fd) (kf : PySem.W.keepIn K (.ref f) = true) (bf : Binds K fd ["_law_expression_here", "_law_lookback", "_law_view_here", "_law_time"] []) (mf : mg "_law_value" = some (.ref f))
    {f41 : Addr} {fd41 : FuncData} (G41 : FnOk P w K mg base CX0 3 f41 fd41 ["_law_view_here", "_law_word", "_law_metric", "_law_matchers", "_law_width", "_law_time"] (spWindow K)) (k41 : PySem.W.keepIn K (.ref f41) = true) (b41 : Binds K fd41 ["_law_view_here", "_law_word", "_law_metric", "_law_matchers", "_law_width", "_law_time"] []) (m41 : mg "_law_window" = some (.ref f41))
    {f45 : Addr} {fd45 : FuncData} (G45 : FnOk P w K mg base CX0 2 f45 fd45 ["_law_word", "_law_names_here", "_law_rows"] (spAgg K)) (k45 : PySem.W.keepIn K (.ref f45) = true) (b45 : Binds K fd45 ["_law_word", "_law_names_here", "_law_rows"] []) (m45 : mg "_law_aggregate" = some (.ref f45))
    {f44 : Addr} {fd44 : FuncData} (G44 : FnOk P w K mg base CX0 2 f44 fd44 ["_law_sign_here", "_law_left", "_law_right"] (spBin K)) (k44 : PySem.W.keepIn K (.ref f44) = true) (b44 : Binds K fd44 ["_law_sign_here", "_law_left", "_law_right"] []) (m44 : mg "_law_binary" = some (.ref f44)) : ∀ n : Nat, FnOk P w K mg base CX0 (4 + n) f fd ["_law_expression_here", "_law_lookback", "_law_view_here", "_law_time"] (spVal K n) := by
  intro n
  have len : ∀ vs H Q E, spVal K n vs H Q E → vs.length = 4 := fun vs H Q E h => by
    obtain ⟨v, lb, va, time, e, view, rfl, _⟩ := h
    rfl
  induction n with
  | zero =>
    refine Fn.ok (k := 3) sc46 len (fun cdv A outer s H vs Q E hr h => ?_)
    obtain ⟨v, lb, va, time, e, view, rfl, hv, hh, _⟩ := h
    have := ht_pos e
    omega
  | succ n ih =>
    have ih := ih fun vs H Q E h => by
      obtain ⟨v, lb, va, time, e, view, rfl, _⟩ := h
      rfl
    refine Fn.ok (k := 4 + n) sc46 len (fun cdv A outer s H vs Q E hr h => ?_)
    obtain ⟨v, lb, va, time, e, view, rfl, hv, hh, hva, vok, t0, t20, l1, l1000, eok, hk, hsz, q⟩ := h
    have hr3 := hr.mono (show 3 ≤ 4 + n by omega)
    have hr2 := hr.mono (show 2 ≤ 4 + n by omega)
    refine ⟨_, pss_cons (ps_if (pt_cmpR op_eq (pe_ix ix_tup (pv 0) pe_int (fun _ _ => rfl)) pe_str (nomark _)) (pss_one (ps_ret (pe_ix ix_tup (pv 0) pe_int (fun _ _ => rfl)))) pss_nil)
      (pss_cons (ps_if (pt_cmpR op_eq (pe_ix ix_tup (pv 0) pe_int (fun _ _ => rfl)) pe_str (nomark _)) (pss_one (ps_ret (pe_call G41 hr3 rfl m41 k41 b41 .nil pass0 (pa_cons (pv 2) (pa_cons pe_str (pa_cons (pe_ix ix_tup (pv 0) pe_int (fun _ _ => rfl)) (pa_cons (pe_ix ix_tup (pv 0) pe_int (fun _ _ => rfl)) (pa_cons (pv 1) (pa_cons (pv 3) pa_nil))))))))) pss_nil)
      (pss_cons (ps_if (pt_cmpR op_eq (pe_ix ix_tup (pv 0) pe_int (fun _ _ => rfl)) pe_str (nomark _)) (pss_one (ps_ret (pe_call G41 hr3 rfl m41 k41 b41 .nil pass0 (pa_cons (pv 2) (pa_cons (pe_ix ix_tup (pv 0) pe_int (fun _ _ => rfl)) (pa_cons (pe_ix ix_tup (pv 0) pe_int (fun _ _ => rfl)) (pa_cons (pe_ix ix_tup (pv 0) pe_int (fun _ _ => rfl)) (pa_cons (pe_ix ix_tup (pv 0) pe_int (fun _ _ => rfl)) (pa_cons (pv 3) pa_nil))))))))) pss_nil)
      (pss_cons (ps_if (pt_cmpR op_eq (pe_ix ix_tup (pv 0) pe_int (fun _ _ => rfl)) pe_str (nomark _)) (pss_one (ps_ret (pe_call G45 hr2 rfl m45 k45 b45 .nil pass0 (pa_cons (pe_ix ix_tup (pv 0) pe_int (fun _ _ => rfl)) (pa_cons (pe_ix ix_tup (pv 0) pe_int (fun _ _ => rfl)) (pa_cons (pe_call ih hr rfl mf kf bf .nil pass0 (pa_cons (pe_ix ix_tup (pv 0) pe_int (fun _ _ => rfl)) (pa_cons (pv 1) (pa_cons (pv 2) (pa_cons (pv 3) pa_nil))))) pa_nil)))))) pss_nil)
      (pss_cons (ps_set (i := 4) sc46.nd rfl (Or.inl rfl) (pe_call ih hr rfl mf kf bf .nil pass0 (pa_cons (pe_ix ix_tup (pv 0) pe_int (fun _ _ => rfl)) (pa_cons (pv 1) (pa_cons (pv 2) (pa_cons (pv 3) pa_nil))))))
      (pss_one (ps_ret (pe_call G44 hr2 rfl m44 k44 b44 .nil pass0 (pa_cons (pe_ix ix_tup (pv 0) pe_int (fun _ _ => rfl)) (pa_cons (pv 4) (pa_cons (pe_call ih hr rfl mf kf bf .nil pass0 (pa_cons (pe_ix ix_tup (pv 0) pe_int (fun _ _ => rfl)) (pa_cons (pv 1) (pa_cons (pv 2) (pa_cons (pv 3) pa_nil))))) pa_nil)))))))))), ?_⟩
    obtain ⟨ka, hka⟩ := Option.isSome_iff_exists.mp hk
    cases e with
    | num m =>
      obtain ⟨a, x, y, rfl, hS, hx, hy⟩ := (show At K H v (.tuple [.str "number", .int m]) from hv).pair
      rw [hx.str_eq, hy.int_eq] at hS
      refine ⟨_, rfl, a, _, 0, _, rfl, rfl, hS, rfl, rfl, _, rfl, strT (fun c => ?_) (fun c => absurd rfl c)⟩
      exact ⟨_, rfl, a, _, 1, _, rfl, rfl, hS, rfl, q _ _ (Same.refl H) rfl⟩
    | latest m ms =>
      obtain ⟨a, x, y, z, rfl, hS, hx, hy, hz⟩ := (show At K H v (.tuple [.str "latest", .str m, .tuple (ms.map encM)]) from hv).three
      rw [hx.str_eq, hy.str_eq] at hS
      refine ⟨_, rfl, a, _, 0, _, rfl, rfl, hS, rfl, rfl, _, rfl, strT (fun c => absurd c (by decide)) (fun _ => ?_)⟩
      refine ⟨_, rfl, a, _, 0, _, rfl, rfl, hS, rfl, rfl, _, rfl, strT (fun _ => ?_) (fun c => absurd rfl c)⟩
      refine ⟨_, rfl, _, rfl, a, _, 1, _, rfl, rfl, hS, rfl, _, rfl, a, _, 2, _, rfl, rfl, hS, rfl, _, rfl, _, rfl, va, view, "last_over", m, z, ms, lb, time, rfl, hva, vok, hz, t0, t20, l1, l1000, fun p H2 sm2 np hw => ?_⟩
      exact q _ _ sm2 ⟨p, rfl, hw⟩
    | over wd m ms sp =>
      obtain ⟨a, x, y, z, u, t, rfl, hS, hx, hy, hz, hu, ht'⟩ := (show At K H v (.tuple [.str "over", .str wd, .str m, .tuple (ms.map encM), .int sp]) from hv).five
      rw [hx.str_eq, hy.str_eq, hz.str_eq, ht'.int_eq] at hS
      refine ⟨_, rfl, a, _, 0, _, rfl, rfl, hS, rfl, rfl, _, rfl, strT (fun c => absurd c (by decide)) (fun _ => ?_)⟩
      refine ⟨_, rfl, a, _, 0, _, rfl, rfl, hS, rfl, rfl, _, rfl, strT (fun c => absurd c (by decide)) (fun _ => ?_)⟩
      refine ⟨_, rfl, a, _, 0, _, rfl, rfl, hS, rfl, rfl, _, rfl, strT (fun _ => ?_) (fun c => absurd rfl c)⟩
      refine ⟨_, rfl, _, rfl, a, _, 1, _, rfl, rfl, hS, rfl, _, rfl, a, _, 2, _, rfl, rfl, hS, rfl, _, rfl, a, _, 3, _, rfl, rfl, hS, rfl, _, rfl, a, _, 4, _, rfl, rfl, hS, rfl, _, rfl, va, view, wd, m, u, ms, sp, time, rfl, hva, vok, hu, t0, t20, eok.1, eok.2, fun p H2 sm2 np hw => ?_⟩
      exact q _ _ sm2 ⟨p, rfl, hw⟩
    | agg wd ns e =>
      obtain ⟨a, x, y, z, u, rfl, hS, hx, hy, hz, hu⟩ := (show At K H v (.tuple [.str "aggregate", .str wd, .tuple (ns.map .str), encE e]) from hv).four
      rw [hx.str_eq, hy.str_eq] at hS
      obtain ⟨hke, rfl⟩ := kd_agg hka
      rw [sz] at hsz
      have hh : ht e + 1 ≤ n + 1 := hh
      refine ⟨_, rfl, a, _, 0, _, rfl, rfl, hS, rfl, rfl, _, rfl, strT (fun c => absurd c (by decide)) (fun _ => ?_)⟩
      refine ⟨_, rfl, a, _, 0, _, rfl, rfl, hS, rfl, rfl, _, rfl, strT (fun c => absurd c (by decide)) (fun _ => ?_)⟩
      refine ⟨_, rfl, a, _, 0, _, rfl, rfl, hS, rfl, rfl, _, rfl, strT (fun c => absurd c (by decide)) (fun _ => ?_)⟩
      refine ⟨_, rfl, a, _, 0, _, rfl, rfl, hS, rfl, rfl, _, rfl, strT (fun _ => ?_) (fun c => absurd rfl c)⟩
      refine ⟨_, rfl, a, _, 1, _, rfl, rfl, hS, rfl, _, rfl, a, _, 2, _, rfl, rfl, hS, rfl, ?_⟩
      refine ⟨_, rfl, a, _, 3, _, rfl, rfl, hS, rfl, _, rfl, _, rfl, _, rfl, u, lb, va, time, e, view, rfl, hu, by omega, hva, vok, t0, t20, l1, l1000, eok.2, by rw [hke]; rfl, by omega, fun v2 H2 sm2 hv2 => ?_⟩
      obtain ⟨o1, o2⟩ := ev_ok vok lb time e .vec eok.2 hke (by omega)
      have q : ∀ v H', Same H H' → ValAt K H' v (match ev lb view time e with | .vec v => .vec (agg wd ns v) | .num _ => .num 0) → Q v H' := q
      cases e1 : ev lb view time e with
      | num k => rw [e1] at o2; cases o2
      | vec v =>
        rw [e1] at o1 q hv2
        obtain ⟨b, rfl, hv2⟩ := hv2
        have o1 : VOk (63 * sz e) (81 * sz e) v := o1
        have ln := o1.len
        exact ⟨wd, z, ns, b, v, rfl, hz.same sm2, hv2, by omega, o1.short, eok.1, fun p H3 sm3 np h3 => q _ _ (sm2.trans sm3) ⟨p, rfl, h3⟩⟩
    | bin sg l r =>
      obtain ⟨a, x, y, z, u, rfl, hS, hx, hy, hz, hu⟩ := (show At K H v (.tuple [.str "binary", .str sg, encE l, encE r]) from hv).four
      rw [hx.str_eq, hy.str_eq] at hS
      obtain ⟨ka1, ka2, hk1, hk2, hk3⟩ := kd_bin hka
      rw [sz] at hsz
      have hh : max (ht l) (ht r) + 1 ≤ n + 1 := hh
      have p1 := sz_pos l
      have p2 := sz_pos r
      refine ⟨_, rfl, a, _, 0, _, rfl, rfl, hS, rfl, rfl, _, rfl, strT (fun c => absurd c (by decide)) (fun _ => ?_)⟩
      refine ⟨_, rfl, a, _, 0, _, rfl, rfl, hS, rfl, rfl, _, rfl, strT (fun c => absurd c (by decide)) (fun _ => ?_)⟩
      refine ⟨_, rfl, a, _, 0, _, rfl, rfl, hS, rfl, rfl, _, rfl, strT (fun c => absurd c (by decide)) (fun _ => ?_)⟩
      refine ⟨_, rfl, a, _, 0, _, rfl, rfl, hS, rfl, rfl, _, rfl, strT (fun c => absurd c (by decide)) (fun _ => ?_)⟩
      refine ⟨_, rfl, a, _, 2, _, rfl, rfl, hS, rfl, _, rfl, _, rfl, _, rfl, z, lb, va, time, l, view, rfl, hz, by omega, hva, vok, t0, t20, l1, l1000, eok.1, by rw [hk1]; rfl, by omega, fun v2 H2 sm2 hv2 => ?_⟩
      refine ⟨_, rfl, a, _, 1, _, rfl, rfl, Same.seqT sm2 hS, rfl, _, rfl, _, rfl, a, _, 3, _, rfl, rfl, Same.seqT sm2 hS, rfl, _, rfl, _, rfl, _, rfl, u, lb, va, time, r, view, rfl, hu.same sm2, by omega, hva.same sm2, vok, t0, t20, l1, l1000, eok.2, by rw [hk2]; rfl, by omega, fun v3 H3 sm3 hv3 => ?_⟩
      obtain ⟨o1, o2⟩ := ev_ok vok lb time l ka1 eok.1 hk1 (by omega)
      obtain ⟨o3, o4⟩ := ev_ok vok lb time r ka2 eok.2 hk2 (by omega)
      refine ⟨sg, v2, v3, _, _, 63 * (sz l + sz r), 81 * (sz l + sz r), rfl, hv2.same sm3, hv3, o1.mono (by omega) (by omega), o3.mono (by omega) (by omega), by omega, by omega, by omega, ?_, fun v4 H4 sm4 h4 => q _ _ ((sm2.trans sm3).trans sm4) h4⟩
      rw [o2, o4, hk3]
      rfl

/-! ### _law_kind -/
abbrev s32 : Stmt := topS 32
theorem sc32 : FnScope ["_law_expression_here", "_law_word", "_law_left", "_law_right"] ["_law_expression_here"] (defScope s32) := ⟨rfl, rfl, rfl, by decide +kernel, rfl, by decide +kernel, by decide +kernel⟩

theorem ok32 {f : Addr} {fd : FuncData} (Fn : Fun K "_law_kind" "_law_kind" s32 f fd) (kf : PySem.W.keepIn K (.ref f) = true) (bf : Binds K fd ["_law_expression_here"] []) (mf : mg "_law_kind" = some (.ref f)) : ∀ n : Nat, FnOk P w K mg base CX0 (1 + n) f fd ["_law_expression_here"] (spKind K n) := by
  intro n
  have len : ∀ vs H Q E, spKind K n vs H Q E → vs.length = 1 := fun vs H Q E h => by
    obtain ⟨v, e, k, rfl, _⟩ := h
    rfl
  induction n with
  | zero =>
    refine Fn.ok (k := 0) sc32 len (fun cdv A outer s H vs Q E hr h => ?_)
    obtain ⟨v, e, k, rfl, hv, hh, _⟩ := h
    have := ht_pos e
    omega
  | succ n ih =>
    have ih := ih fun vs H Q E h => by
      obtain ⟨v, e, k, rfl, _⟩ := h
      rfl
    refine Fn.ok (k := 1 + n) sc32 len (fun cdv A outer s H vs Q E hr h => ?_)
    obtain ⟨v, e, k, rfl, hv, hh, hk, q⟩ := h
    refine ⟨_, pss_cons (ps_set (i := 1) sc32.nd rfl (Or.inl rfl) (pe_ix ix_tup (pv 0) pe_int (fun _ _ => rfl)))
      (pss_cons (ps_if (pt_cmpR op_eq (pv 1) pe_str (nomark _)) (pss_one (ps_ret pe_str)) pss_nil)
      (pss_cons (ps_if (PW.pt (pw_or (pt_cmpR op_eq (pv 1) pe_str (nomark _)) (pw_or1 (pt_cmpR op_eq (pv 1) pe_str (nomark _))))) (pss_one (ps_ret pe_str)) pss_nil)
      (pss_cons (ps_if (pt_cmpR op_eq (pv 1) pe_str (nomark _)) (pss_cons (ps_if (pt_cmpR op_eq (pe_call ih hr rfl mf kf bf .nil pass0 (pa_cons (pe_ix ix_tup (pv 0) pe_int (fun _ _ => rfl)) pa_nil)) pe_str (nomark _)) (pss_one (ps_ret pe_str)) pss_nil) (pss_one (ps_ret pe_non))) pss_nil)
      (pss_cons (ps_set (i := 2) sc32.nd rfl (Or.inl rfl) (pe_call ih hr rfl mf kf bf .nil pass0 (pa_cons (pe_ix ix_tup (pv 0) pe_int (fun _ _ => rfl)) pa_nil)))
      (pss_cons (ps_set (i := 3) sc32.nd rfl (Or.inl rfl) (pe_call ih hr rfl mf kf bf .nil pass0 (pa_cons (pe_ix ix_tup (pv 0) pe_int (fun _ _ => rfl)) pa_nil)))
      (pss_cons (ps_if (PW.pt (pw_or (pt_cmpR op_isN (pv 2) pe_non (nomark _)) (pw_or1 (pt_cmpR op_isN (pv 3) pe_non (nomark _))))) (pss_one (ps_ret pe_non)) pss_nil)
      (pss_cons (ps_if (pt_cmpR op_in_seq (pe_ix ix_tup (pv 0) pe_int (fun _ _ => rfl)) (pe_tup (pa_cons pe_str (pa_cons pe_str (pa_cons pe_str pa_nil)))) (by rfl)) (pss_cons (ps_if (PW.pt (pw_and (pt_cmpR op_eq (pv 2) pe_str (nomark _)) (pw_and1 (pt_cmpR op_eq (pv 3) pe_str (nomark _))))) (pss_one (ps_ret pe_str)) pss_nil) (pss_one (ps_ret pe_non))) pss_nil)
      (pss_cons (ps_if (PW.pt (pw_and (pt_cmpR op_eq (pv 2) pe_str (nomark _)) (pw_and1 (pt_cmpR op_eq (pv 3) pe_str (nomark _))))) (pss_cons (ps_if (pt_cmpR op_in_seq (pe_ix ix_tup (pv 0) pe_int (fun _ _ => rfl)) (pe_tup (pa_cons pe_str (pa_cons pe_str (pa_cons pe_str pa_nil)))) (by rfl)) (pss_one (ps_ret pe_str)) pss_nil) (pss_one (ps_ret pe_non))) pss_nil)
      (pss_one (ps_ret pe_str)))))))))), ?_⟩
    cases e with
    | num m =>
      obtain ⟨a, x, y, rfl, hS, hx, hy⟩ := (show At K H v (.tuple [.str "number", .int m]) from hv).pair
      rw [hx.str_eq, hy.int_eq] at hS
      rw [kd] at hk
      injection hk with hk
      subst hk
      refine ⟨_, rfl, a, _, 0, _, rfl, rfl, hS, rfl, _, rfl, rfl, _, rfl, strT (fun _ => ?_) (fun c => absurd rfl c)⟩
      exact q H (Same.refl H)
    | latest m ms =>
      obtain ⟨a, x, y, z, rfl, hS, hx, hy, hz⟩ := (show At K H v (.tuple [.str "latest", .str m, .tuple (ms.map encM)]) from hv).three
      rw [hx.str_eq, hy.str_eq] at hS
      rw [kd] at hk
      injection hk with hk
      subst hk
      refine ⟨_, rfl, a, _, 0, _, rfl, rfl, hS, rfl, _, rfl, rfl, _, rfl, strT (fun c => absurd c (by decide)) (fun _ => ?_)⟩
      refine ⟨_, rfl, rfl, _, rfl, strT (fun _ => iteT ?_) (fun c => absurd rfl c)⟩
      exact q H (Same.refl H)
    | over wd m ms sp =>
      obtain ⟨a, x, y, z, u, t, rfl, hS, hx, hy, hz, hu, ht'⟩ := (show At K H v (.tuple [.str "over", .str wd, .str m, .tuple (ms.map encM), .int sp]) from hv).five
      rw [hx.str_eq] at hS
      rw [kd] at hk
      injection hk with hk
      subst hk
      refine ⟨_, rfl, a, _, 0, _, rfl, rfl, hS, rfl, _, rfl, rfl, _, rfl, strT (fun c => absurd c (by decide)) (fun _ => ?_)⟩
      refine ⟨_, rfl, rfl, _, rfl, strT (fun c => absurd c (by decide)) (fun _ => ⟨_, rfl, rfl, _, rfl, strT (fun _ => ?_) (fun c => absurd rfl c)⟩)⟩
      exact q H (Same.refl H)
    | agg wd ns e =>
      obtain ⟨a, x, y, z, u, rfl, hS, hx, hy, hz, hu⟩ := (show At K H v (.tuple [.str "aggregate", .str wd, .tuple (ns.map .str), encE e]) from hv).four
      rw [hx.str_eq, hy.str_eq] at hS
      obtain ⟨hke, rfl⟩ := kd_agg hk
      have hh : ht e + 1 ≤ n + 1 := hh
      refine ⟨_, rfl, a, _, 0, _, rfl, rfl, hS, rfl, _, rfl, rfl, _, rfl, strT (fun c => absurd c (by decide)) (fun _ => ?_)⟩
      refine ⟨_, rfl, rfl, _, rfl, strT (fun c => absurd c (by decide)) (fun _ => ⟨_, rfl, rfl, _, rfl, strT (fun c => absurd c (by decide)) (fun _ => ?_)⟩)⟩
      refine ⟨_, rfl, rfl, _, rfl, strT (fun _ => ?_) (fun c => absurd rfl c)⟩
      refine ⟨_, rfl, a, _, 3, _, rfl, rfl, hS, rfl, u, e, .vec, rfl, hu, by omega, hke, fun H2 sm2 => ⟨rfl, _, rfl, strT (fun _ => ?_) (fun c => absurd rfl c)⟩⟩
      exact q H2 sm2
    | bin sg l r =>
      obtain ⟨a, x, y, z, u, rfl, hS, hx, hy, hz, hu⟩ := (show At K H v (.tuple [.str "binary", .str sg, encE l, encE r]) from hv).four
      rw [hx.str_eq, hy.str_eq] at hS
      obtain ⟨k1, k2, hk1, hk2, hk3⟩ := kd_bin hk
      have hh : max (ht l) (ht r) + 1 ≤ n + 1 := hh
      refine ⟨_, rfl, a, _, 0, _, rfl, rfl, hS, rfl, _, rfl, rfl, _, rfl, strT (fun c => absurd c (by decide)) (fun _ => ?_)⟩
      refine ⟨_, rfl, rfl, _, rfl, strT (fun c => absurd c (by decide)) (fun _ => ⟨_, rfl, rfl, _, rfl, strT (fun c => absurd c (by decide)) (fun _ => ?_)⟩)⟩
      refine ⟨_, rfl, rfl, _, rfl, strT (fun c => absurd c (by decide)) (fun _ => ?_)⟩
      refine ⟨_, rfl, a, _, 2, _, rfl, rfl, hS, rfl, z, l, k1, rfl, hz, by omega, hk1, fun H2 sm2 => ?_⟩
      refine ⟨_, rfl, a, _, 3, _, rfl, rfl, Same.seqT sm2 hS, rfl, u, r, k2, rfl, hu.same sm2, by omega, hk2, fun H3 sm3 => ?_⟩
      have sm := sm2.trans sm3
      refine ⟨_, rfl, rfl, _, rfl, strNon ⟨_, rfl, rfl, _, rfl, strNon ?_⟩⟩
      refine ⟨_, rfl, a, _, 1, _, rfl, rfl, Same.seqT sm hS, rfl, (by show 3 ≤ sizeLine; decide), fun jt hjt => ?_⟩
      have smj := sm.trans (same_new hjt (HO.tup [.str "and", .str "or", .str "unless"]))
      refine ⟨jt, _, rfl, .inr (SqT.of upd_same), rfl, rfl, _, rfl, ?_⟩
      show if inV (.str sg) [.str "and", .str "or", .str "unless"] = true then _ else _
      rw [jn_in2]
      cases k1 with
      | num =>
        cases k2 with
        | num =>
          have h1 : (if isAr sg = true then some Kd.num else none) = some k := hk3
          have ar : isAr sg = true := by
            by_cases c : isAr sg = true
            · exact c
            · rw [if_neg c] at h1; cases h1
          rw [if_pos ar] at h1
          injection h1 with h1
          subst h1
          rw [ar_jn ar]
          refine iteF ?_
          refine ⟨_, rfl, rfl, _, rfl, strT (fun _ => ⟨_, rfl, rfl, _, rfl, strT (fun _ => ?_) (fun c => absurd rfl c)⟩) (fun c => absurd rfl c)⟩
          refine ⟨_, rfl, a, _, 1, _, rfl, rfl, Same.seqT smj hS, rfl, (by show 3 ≤ sizeLine; decide), fun jt2 hjt2 => ?_⟩
          have smj2 := smj.trans (same_new hjt2 (HO.tup [.str "+", .str "-", .str "*"]))
          refine ⟨jt2, _, rfl, .inr (SqT.of upd_same), rfl, rfl, _, rfl, ?_⟩
          show if inV (.str sg) [.str "+", .str "-", .str "*"] = true then _ else _
          rw [ar_in, ar]
          exact iteT (q _ smj2)
        | vec =>
          obtain rfl := kdBin_vec hk3 (.inr (by simp))
          have jn : isJn sg = false := by
            have h1 : (if isJn sg = true then none else some Kd.vec) = some .vec := hk3
            cases c : isJn sg with
            | false => rfl
            | true => rw [c] at h1; cases h1
          rw [jn]
          refine iteF ?_
          refine ⟨_, rfl, rfl, _, rfl, strT (fun _ => ⟨_, rfl, rfl, _, rfl, strT (fun c => absurd c (by decide)) (fun _ => ?_)⟩) (fun c => absurd rfl c)⟩
          exact q _ smj
      | vec =>
        obtain rfl := kdBin_vec hk3 (.inl (by simp))
        cases k2 with
        | num =>
          have jn : isJn sg = false := by
            have h1 : (if isJn sg = true then none else some Kd.vec) = some .vec := hk3
            cases c : isJn sg with
            | false => rfl
            | true => rw [c] at h1; cases h1
          rw [jn]
          refine iteF ?_
          refine ⟨_, rfl, rfl, _, rfl, strT (fun c => absurd c (by decide)) (fun _ => iteF ?_)⟩
          exact q _ smj
        | vec =>
          refine iteB (fun _ => ?_) (fun _ => ?_)
          · refine ⟨_, rfl, rfl, _, rfl, strT (fun _ => ⟨_, rfl, rfl, _, rfl, strT (fun _ => ?_) (fun c => absurd rfl c)⟩) (fun c => absurd rfl c)⟩
            exact q _ smj
          · refine ⟨_, rfl, rfl, _, rfl, strT (fun c => absurd c (by decide)) (fun _ => iteF ?_)⟩
            exact q _ smj
end
end L2.Q9


set_option Elab.async false
set_option linter.all false
set_option maxRecDepth 100000
set_option maxHeartbeats 4000000
/-! Q9: what the law draws: numbers, names. -/
namespace L2.Q9
open PySem PySem.Spec PyProof.Rows

theorem at_ex {α : Type} {xs : List α} {i : Int} (h0 : 0 ≤ i) (h1 : i < xs.length) : ∃ x, atI xs i = some x ∧ x ∈ xs := by
  have hj : i.toNat < xs.length := by omega
  refine ⟨xs[i.toNat], ?_, List.getElem_mem hj⟩
  unfold atI ixN
  rw [if_pos h0, if_pos h1]
  exact List.getElem?_eq_getElem hj
theorem ints_ex {ds : List Int} {i : Int} (h0 : 0 ≤ i) (h1 : i < ds.length) : ∃ d, atI (ds.map V.int) i = some (.int d) ∧ d ∈ ds := by
  obtain ⟨x, e, hx⟩ := at_ex (xs := ds.map V.int) h0 (by rw [List.length_map]; exact h1)
  obtain ⟨d, hd, rfl⟩ := List.mem_map.mp hx
  exact ⟨d, e, hd⟩
theorem strs_ex {ds : List Str} {i : Int} (h0 : 0 ≤ i) (h1 : i < ds.length) : ∃ d, atI (ds.map V.str) i = some (.str d) ∧ d ∈ ds := by
  obtain ⟨x, e, hx⟩ := at_ex (xs := ds.map V.str) h0 (by rw [List.length_map]; exact h1)
  obtain ⟨d, hd, rfl⟩ := List.mem_map.mp hx
  exact ⟨d, e, hd⟩
/-- numbers from 0 to 999 -/
def Dr (ds : List Int) : Prop := ∀ d ∈ ds, 0 ≤ d ∧ d ≤ 999
theorem Dr.snoc {ds : List Int} {d : Int} (h : Dr ds) (h0 : 0 ≤ d) (h1 : d ≤ 999) : Dr (ds ++ [d]) := fun e he => by
  rcases List.mem_append.mp he with he | he
  · exact h e he
  · have : e = d := by simpa using he
    subst this
    exact ⟨h0, h1⟩
theorem dr_at {ds : List Int} (h : Dr ds) {i : Int} (h0 : 0 ≤ i) (h1 : i < ds.length) : ∃ d, atI (ds.map V.int) i = some (.int d) ∧ 0 ≤ d ∧ d ≤ 999 := by
  obtain ⟨d, e, hd⟩ := ints_ex h0 h1
  exact ⟨d, e, h d hd⟩
theorem if_mid {c : Bool} {A : Prop} {N : St → Hp → Prop} {σ : St} {H : Hp} (I : St → Hp → Prop) (k : ∀ σ H, I σ H → N σ H) (h0 : c = false → I σ H) (h1 : c = true → (∀ σ H, I σ H → N σ H) → A) : if c = true then A else N σ H := by
  cases c with
  | true => exact h1 rfl k
  | false => exact k _ _ (h0 rfl)
theorem fold_size (a : Array Nat) : ∀ (k : Nat) (b : Array Nat), ((List.replicate k a).foldl (· ++ ·) b).size = b.size + k * a.size
  | 0, b => by simp
  | k + 1, b => by
    rw [List.replicate_succ, List.foldl_cons, fold_size a k, Array.size_append, Nat.succ_mul]
    omega
theorem mul_len (x : Str) (n : Int) (h : 1 ≤ n) : (Txt.mul x n).length ≤ n.toNat * x.length := by
  unfold Txt.mul
  rw [if_neg (by omega)]
  split
  · exact Nat.le_mul_of_pos_left _ (by omega)
  · show ((List.replicate n.toNat x.cps).foldl (· ++ ·) #[]).size ≤ n.toNat * x.cps.size
    rw [fold_size]
    simp
section
variable {P : Program} {w : World} {K : PySem.W.Frag} {mg : Str → Option Value} {base : Heap}

/-! ### _law_cell -/
abbrev s23 : Stmt := topS 23
theorem sc23 : FnScope ["_law_script", "_law_k"] ["_law_script", "_law_k"] (defScope s23) := ⟨rfl, rfl, rfl, by decide +kernel, rfl, by decide +kernel, by decide +kernel⟩

def spCell (K : PySem.W.Frag) : Sp := fun vs H Q _ => ∃ (a : Addr) (ns : List Int) (k : Int), vs = [.ref a, .int k] ∧ SqL K H a (ns.map V.int) ∧ 0 ≤ k ∧ ∀ n : Int, Q (.int n) H
theorem ok23 {f : Addr} {fd : FuncData} (F : Fun K "_law_cell" "_law_cell" s23 f fd) (ml : mg "len" = none) (mint : mg "int" = none) : FnOk P w K mg base CX0 1 f fd ["_law_script", "_law_k"] (spCell K) := by
  refine F.ok sc23 (fun vs H Q E h => ?_) (fun cdv A outer s H vs Q E hr h => ?_)
  · obtain ⟨a, ns, k, rfl, _⟩ := h
    rfl
  obtain ⟨a, ns, k, rfl, hS, h0, q⟩ := h
  refine ⟨_, (pss_cons (ps_if (pt_cmpR op_lt (pv 1) (pe_callB call_len_seq (by rfl) ml boot_len (pa_cons (pv 0) pa_nil)) (nomark _)) (pss_one (ps_ret (pe_callTy call_int1 (by rfl) mint boot_int (pa_cons (pe_ix ix_list (pv 0) (pv 1) (fun _ _ => rfl)) pa_nil)))) pss_nil) (pss_one (ps_ret pe_int))), ?_⟩
  refine ⟨_, rfl, _, rfl, a, _, rfl, .inl hS, _, _, rfl, rfl, _, rfl, iteB (fun c => ?_) (fun c => ?_)⟩
  · have c' := of_decide_eq_true c
    rw [List.length_map] at c'
    obtain ⟨d, e, _⟩ := ints_ex h0 c'
    exact ⟨_, rfl, _, rfl, a, _, _, _, rfl, rfl, hS, e, .inl ⟨_, rfl, q d⟩⟩
  · exact q 0

/-! ### _law_draws -/
abbrev s24 : Stmt := topS 24
theorem sc24 : FnScope ["_law_cell_here", "_law_many", "_law_rows", "_law_rest", "_law_k", "_law_state"] ["_law_cell_here", "_law_many"] (defScope s24) := ⟨rfl, rfl, rfl, by decide +kernel, rfl, by decide +kernel, by decide +kernel⟩

def DrAt (H : Hp) (p : Addr) (ds : List Int) : Prop := H p = some (.lst (ds.map V.int))
theorem DrAt.snoc {H : Hp} {p : Addr} {ds : List Int} {d : Int} : DrAt (upd H p (.lst (ds.map V.int ++ [.int d]))) p (ds ++ [d]) := by
  unfold DrAt
  rw [upd_same, List.map_append]
  rfl
def spDraws : Sp := fun vs H Q _ => ∃ (c m : Int) (n : Nat), vs = [.int c, .int m] ∧ m = n ∧ n ≤ 100 ∧ ∀ p ds H', Same H H' → H p = none → DrAt H' p ds → Dr ds → ds.length = n → Q (.ref p) H'
theorem ok24 {f : Addr} {fd : FuncData} (F : Fun K "_law_draws" "_law_draws" s24 f fd) (ml : mg "len" = none) (mint : mg "int" = none) (mr : mg "range" = none) : FnOk P w K mg base CX0 1 f fd ["_law_cell_here", "_law_many"] spDraws := by
  refine F.ok sc24 (fun vs H Q E h => ?_) (fun cdv A outer s H vs Q E hr h => ?_)
  · obtain ⟨c, m, n, rfl, _⟩ := h
    rfl
  obtain ⟨c, m, n, rfl, rfl, hn, q⟩ := h
  refine ⟨_, (pss_cons (ps_set (i := 2) sc24.nd rfl (Or.inl rfl) (pe_lst pa_nil)) (pss_cons (ps_set (i := 3) sc24.nd rfl (Or.inl rfl) (pe_callTy call_int1 (by rfl) mint boot_int (pa_cons (pv 0) pa_nil))) (pss_cons (ps_if (pt_cmpR op_ge (pv 3) (pe_op op_pow pe_int pe_int) (nomark _)) (pss_one (ps_for PassesOwn.never rfl (pi_range1 (by rfl) mr (pa_cons (pv 1) pa_nil)) (pg_name (i := 4) sc24.nd rfl (Or.inl rfl)) (pss_one (ps_if (pt_cmpR op_gt (pv 3) pe_int (nomark _)) (pss_cons (ps_expr (pe_bm PySem.F.plainAttrs_list PySem.F.slot_list_append PySem.F.type_list_append mt_append (pv 2) (pa_cons (pe_op op_mod (pe_callTy call_int1 (by rfl) mint boot_int (pa_cons (pv 3) pa_nil)) pe_int) pa_nil))) (pss_one (ps_set (i := 3) sc24.nd rfl (Or.inl rfl) (pe_op op_fdiv (pv 3) pe_int)))) pss_nil)))) pss_nil) (pss_cons (ps_set (i := 5) sc24.nd rfl (Or.inl rfl) (pe_op op_mod (pe_callTy call_int1 (by rfl) mint boot_int (pa_cons (pe_op op_add (pe_op op_mul (pe_callTy call_int1 (by rfl) mint boot_int (pa_cons (pv 0) pa_nil)) pe_int) pe_int) pa_nil)) pe_int)) (pss_cons (ps_for PassesOwn.never rfl (pi_range1 (by rfl) mr (pa_cons (pv 1) pa_nil)) (pg_name (i := 4) sc24.nd rfl (Or.inl rfl)) (pss_cons (ps_set (i := 5) sc24.nd rfl (Or.inl rfl) (pe_op op_mod (pe_callTy call_int1 (by rfl) mint boot_int (pa_cons (pe_op op_add (pe_op op_add (pe_op op_mul (pv 5) pe_int) (pe_op op_mul (pv 4) pe_int)) pe_int) pa_nil)) pe_int)) (pss_one (ps_if (pt_cmpR op_lt (pe_callB call_len_seq (by rfl) ml boot_len (pa_cons (pv 2) pa_nil)) (pv 1) (nomark _)) (pss_one (ps_expr (pe_bm PySem.F.plainAttrs_list PySem.F.slot_list_append PySem.F.type_list_append mt_append (pv 2) (pa_cons (pe_op op_mod (pe_callTy call_int1 (by rfl) mint boot_int (pa_cons (pe_op op_mod (pe_callTy call_int1 (by rfl) mint boot_int (pa_cons (pe_op op_add (pe_op op_mul (pv 5) pe_int) pe_int) pa_nil)) pe_int) pa_nil)) pe_int) pa_nil)))) pss_nil)))) (pss_one (ps_ret (pv 2)))))))), ?_⟩
  refine ⟨Nat.zero_le _, fun p hp => ?_⟩
  refine ⟨_, rfl, .inl ⟨_, rfl, ?_⟩⟩
  have sm0 := same_new hp (HO.lst [])
  -- behind the first loop
  refine ⟨_, rfl, _, _, rfl, rfl, ⟨by decide, by decide, by decide⟩, _, _, rfl, rfl, _, rfl, ?_⟩
  refine if_mid (fun σ H' => (∃ r y, σ = [some (.int c), some (.int n), some (.ref p), some (.int r), y, none]) ∧ Same H H' ∧ ∃ ds, DrAt H' p ds ∧ Dr ds ∧ ds.length ≤ n) (fun σ H' hq => ?_) (fun _ => ⟨⟨_, _, rfl⟩, sm0, [], upd_same, fun _ h => absurd h (by simp), Nat.zero_le _⟩) (fun _ hD => ?_)
  rotate_left
  · refine ⟨_, rfl, n, rfl, by omega, by omega, ?_⟩
    rw [Int.toNat_natCast]
    refine for_range (fun i σ H' => (∃ r y, σ = [some (.int c), some (.int n), some (.ref p), some (.int r), y, none]) ∧ Same H H' ∧ ∃ ds, DrAt H' p ds ∧ Dr ds ∧ ds.length ≤ i) ⟨⟨c, none, rfl⟩, sm0, [], upd_same, fun _ h => absurd h (by simp), Nat.le_refl _⟩ (fun i σ H' hi pi => ?_) (fun σ H' pi => hD σ H' pi)
    obtain ⟨⟨r, y, rfl⟩, sm, ds, hds, hd, hl⟩ := pi
    refine ⟨_, rfl, _, _, rfl, rfl, _, rfl, iteB (fun _ => ?_) (fun _ => ?_)⟩
    · refine ⟨_, rfl, .inl ⟨rfl, _, SqL.of hds⟩, _, rfl, .inl ⟨_, rfl, _, _, rfl, rfl, (by show (0 : Int) < _; decide), ?_⟩⟩
      refine ⟨p, _, _, rfl, rfl, hds, by rw [List.length_map]; exact few63 (by omega), ?_⟩
      refine ⟨_, rfl, _, _, rfl, rfl, ⟨by decide, by decide⟩, ⟨_, _, rfl⟩, Same.mut sm hp, ds ++ [r % 1000], ?_, hd.snoc (by omega) (by omega), by rw [List.length_append, List.length_singleton]; omega⟩
      show upd H' p _ p = _
      rw [upd_same, List.map_append]
      rfl
    · exact ⟨⟨_, _, rfl⟩, sm, ds, hds, hd, by omega⟩
  obtain ⟨⟨r, y, rfl⟩, sm1, ds1, hds1, hd1, hl1⟩ := hq
  refine ⟨_, rfl, .inl ⟨_, rfl, _, _, rfl, rfl, .inr ⟨by decide, by decide⟩, _, _, rfl, rfl, .inl ⟨_, rfl, _, _, rfl, rfl, (by show (0 : Int) < _; decide), ?_⟩⟩⟩
  refine ⟨_, rfl, n, rfl, by omega, by omega, ?_⟩
  rw [Int.toNat_natCast]
  refine for_range (fun i σ H' => (∃ y z, σ = [some (.int c), some (.int n), some (.ref p), some (.int r), y, some (.int z)]) ∧ Same H H' ∧ ∃ ds, DrAt H' p ds ∧ Dr ds ∧ i ≤ ds.length ∧ ds.length ≤ n) ⟨⟨_, _, rfl⟩, sm1, ds1, hds1, hd1, Nat.zero_le _, hl1⟩ (fun i σ H' hi pi => ?_) (fun σ H' pi => ?_)
  · obtain ⟨⟨y, z, rfl⟩, sm, ds, hds, hd, hl, hl2⟩ := pi
    refine ⟨_, rfl, _, _, rfl, rfl, .inr ⟨by decide, by decide⟩, _, rfl, _, _, rfl, rfl, .inr ⟨by decide, by decide⟩, _, _, rfl, rfl, _, _, rfl, rfl, .inl ⟨_, rfl, _, _, rfl, rfl, (by show (0 : Int) < _; decide), ?_⟩⟩
    refine ⟨_, rfl, p, _, rfl, .inl (SqL.of hds), _, rfl, _, _, rfl, rfl, _, rfl, iteB (fun cc => ?_) (fun cc => ?_)⟩
    · have cc := of_decide_eq_true cc
      rw [List.length_map] at cc
      refine ⟨_, rfl, .inl ⟨rfl, _, SqL.of hds⟩, _, rfl, _, _, rfl, rfl, .inr ⟨by decide, by decide⟩, _, _, rfl, rfl, .inl ⟨_, rfl, _, _, rfl, rfl, (by show (0 : Int) < _; decide), .inl ⟨_, rfl, _, _, rfl, rfl, (by show (0 : Int) < _; decide), ?_⟩⟩⟩
      refine ⟨p, _, _, rfl, rfl, hds, by rw [List.length_map]; exact few63 (by omega), ⟨_, _, rfl⟩, Same.mut sm hp, ds ++ [_], DrAt.snoc, hd.snoc (Int.emod_nonneg _ (by decide)) (Int.lt_add_one_iff.mp (Int.emod_lt_of_pos _ (by decide))), by rw [List.length_append, List.length_singleton]; omega, by rw [List.length_append, List.length_singleton]; omega⟩
    · have cc := of_decide_eq_false cc
      rw [List.length_map] at cc
      exact ⟨⟨_, _, rfl⟩, sm, ds, hds, hd, by omega, by omega⟩
  · obtain ⟨⟨y, z, rfl⟩, sm, ds, hds, hd, hl, hl2⟩ := pi
    exact ⟨_, rfl, q p ds H' sm hp hds hd (by omega)⟩

/-! ### _law_is_integer -/
abbrev s25 : Stmt := topS 25
theorem sc25 : FnScope ["_law_actual"] ["_law_actual"] (defScope s25) := ⟨rfl, rfl, rfl, by decide +kernel, rfl, by decide +kernel, by decide +kernel⟩

def spIsInt : Sp := fun vs H Q _ => ∃ n : Int, vs = [.int n] ∧ Q (.bl true) H
theorem ok25 {f : Addr} {fd : FuncData} (F : Fun K "_law_is_integer" "_law_is_integer" s25 f fd) (misi : mg "isinstance" = none) (mint : mg "int" = none) (mbool : mg "bool" = none) : FnOk P w K mg base CX0 1 f fd ["_law_actual"] spIsInt := by
  refine F.ok sc25 (fun vs H Q E h => ?_) (fun cdv A outer s H vs Q E hr h => ?_)
  · obtain ⟨n, rfl, _⟩ := h
    rfl
  obtain ⟨n, rfl, q⟩ := h
  refine ⟨_, (pss_one (ps_ret (pe_and (pe_callB call_isi (by rfl) misi boot_isinstance (pa_cons (pv 0) (pa_cons (pe_bltn (v := .ty "int") (by rfl) mint boot_int rfl) pa_nil))) (pe_one (pe_not (pe_callB call_isi (by rfl) misi boot_isinstance (pa_cons (pv 0) (pa_cons (pe_bltn (v := .ty "bool") (by rfl) mbool boot_bool rfl) pa_nil)))))))), ?_⟩
  refine ⟨_, rfl, _, _, _, _, true, rfl, .ty "int", isi_int, kit_ty (by decide +kernel), _, rfl, iteT ?_⟩
  refine ⟨_, rfl, _, _, _, _, false, rfl, .ty "bool", isi_int, kit_ty (by decide +kernel), _, rfl, q⟩

/-! ### _law_name -/
abbrev s26 : Stmt := topS 26
theorem sc26 : FnScope ["_law_first", "_law_second", "_law_letters", "_law_text"] ["_law_first", "_law_second"] (defScope s26) := ⟨rfl, rfl, rfl, by decide +kernel, rfl, by decide +kernel, by decide +kernel⟩

def spText : Sp := fun vs H Q _ => ∃ a b : Int, vs = [.int a, .int b] ∧ 0 ≤ a ∧ 0 ≤ b ∧ ∀ x : Str, Q (.str x) H
theorem ok26 {f : Addr} {fd : FuncData} (F : Fun K "_law_name" "_law_name" s26 f fd) (mint : mg "int" = none) : FnOk P w K mg base CX0 1 f fd ["_law_first", "_law_second"] spText := by
  refine F.ok sc26 (fun vs H Q E h => ?_) (fun cdv A outer s H vs Q E hr h => ?_)
  · obtain ⟨a, b, rfl, _⟩ := h
    rfl
  obtain ⟨a, b, rfl, h0, h1, q⟩ := h
  refine ⟨_, (pss_cons (ps_set (i := 2) sc26.nd rfl (Or.inl rfl) pe_str) (pss_cons (ps_set (i := 3) sc26.nd rfl (Or.inl rfl) (pe_ix ix_str (pv 2) (pe_op op_mod (pe_callTy call_int1 (by rfl) mint boot_int (pa_cons (pv 0) pa_nil)) pe_int) (fun _ _ => rfl))) (pss_cons (ps_if (pt_cmpR op_eq (pe_op op_mod (pe_callTy call_int1 (by rfl) mint boot_int (pa_cons (pv 1) pa_nil)) pe_int) pe_int (nomark _)) (pss_one (ps_ret (pv 3))) pss_nil) (pss_cons (ps_set (i := 3) sc26.nd rfl (Or.inl rfl) (pe_op op_add_str (pv 3) (pe_ix ix_str (pv 2) (pe_op op_mod (pe_op op_fdiv (pe_callTy call_int1 (by rfl) mint boot_int (pa_cons (pv 1) pa_nil)) pe_int) pe_int) (fun _ _ => rfl)))) (pss_cons (ps_if (pt_cmpR op_eq (pe_op op_mod (pe_callTy call_int1 (by rfl) mint boot_int (pa_cons (pv 1) pa_nil)) pe_int) pe_int (nomark _)) (pss_one (ps_ret (pv 3))) pss_nil) (pss_cons (ps_if (pt_cmpR op_eq (pe_op op_mod (pe_callTy call_int1 (by rfl) mint boot_int (pa_cons (pv 1) pa_nil)) pe_int) pe_int (nomark _)) (pss_one (ps_ret (pe_op op_add_str (pe_op op_add_str (pv 3) (pe_op op_mul_str pe_str pe_int)) (pe_ix ix_str (pv 2) (pe_op op_mod (pe_op op_fdiv (pe_callTy call_int1 (by rfl) mint boot_int (pa_cons (pv 0) pa_nil)) pe_int) pe_int) (fun _ _ => rfl))))) pss_nil) (pss_one (ps_ret (pe_op op_add_str (pv 3) (pe_ix ix_str (pv 2) (pe_op op_mod (pe_op op_fdiv (pe_callTy call_int1 (by rfl) mint boot_int (pa_cons (pv 0) pa_nil)) pe_int) pe_int) (fun _ _ => rfl))))))))))), ?_⟩
  have hl : ("abcdefghijklmnopqrstuvwxyz0123456789_" : Str).cps.toList.length = 37 := by decide +kernel
  have ix : ∀ i : Int, 0 ≤ i → i < 37 → ∃ c, atI ("abcdefghijklmnopqrstuvwxyz0123456789_" : Str).cps.toList i = some c := fun i i0 i1 => by
    obtain ⟨c, h, _⟩ := at_ex (xs := ("abcdefghijklmnopqrstuvwxyz0123456789_" : Str).cps.toList) i0 (by rw [hl]; exact i1)
    exact ⟨c, h⟩
  obtain ⟨c1, hc1⟩ := ix (a % 26) (by omega) (by omega)
  obtain ⟨c2, hc2⟩ := ix (b / 5 % 37) (by omega) (by omega)
  obtain ⟨c3, hc3⟩ := ix (a / 26 % 37) (by omega) (by omega)
  refine ⟨_, rfl, _, rfl, .inl ⟨_, rfl, _, _, rfl, rfl, (by show (0 : Int) < _; decide), _, _, c1, rfl, rfl, (by decide), hc1, ?_⟩⟩
  refine ⟨_, rfl, .inl ⟨_, rfl, _, _, rfl, rfl, (by show (0 : Int) < _; decide), rfl, _, rfl, iteB (fun _ => ?_) (fun _ => ?_)⟩⟩
  · exact ⟨_, rfl, q _⟩
  refine ⟨_, rfl, _, rfl, _, rfl, .inl ⟨_, rfl, _, _, rfl, rfl, ⟨by decide, by decide⟩, _, _, rfl, rfl, (by show (0 : Int) < _; decide), _, _, c2, rfl, rfl, (by decide), hc2, _, _, rfl, rfl, (by show 2 ≤ sizeLine; decide), ?_⟩⟩
  refine ⟨_, rfl, .inl ⟨_, rfl, _, _, rfl, rfl, (by show (0 : Int) < _; decide), rfl, _, rfl, iteB (fun _ => ?_) (fun _ => ?_)⟩⟩
  · exact ⟨_, rfl, q _⟩
  refine ⟨_, rfl, .inl ⟨_, rfl, _, _, rfl, rfl, (by show (0 : Int) < _; decide), rfl, _, rfl, iteB (fun _ => ?_) (fun _ => ?_)⟩⟩
  · refine ⟨_, rfl, _, _, rfl, rfl, (by decide), (by decide), (by decide), _, _, rfl, rfl, ?_, ?_⟩
    · rw [PySem.Str.length_append]
      have h17 : (Txt.mul "_" 17).length ≤ 17 := mul_len "_" 17 (by decide)
      exact Nat.le_trans (Nat.add_le_add_left h17 (1 + 1)) (by decide)
    refine ⟨_, rfl, _, rfl, .inl ⟨_, rfl, _, _, rfl, rfl, ⟨by decide, by decide⟩, _, _, rfl, rfl, (by show (0 : Int) < _; decide), _, _, c3, rfl, rfl, (by decide), hc3, _, _, rfl, rfl, ?_, q _⟩⟩
    rw [PySem.Str.length_append, PySem.Str.length_append]
    have h17 : (Txt.mul "_" 17).length ≤ 17 := mul_len "_" 17 (by decide)
    exact Nat.le_trans (Nat.add_le_add_right (Nat.add_le_add_left h17 (1 + 1)) 1) (by decide)
  refine ⟨_, rfl, _, rfl, _, rfl, .inl ⟨_, rfl, _, _, rfl, rfl, ⟨by decide, by decide⟩, _, _, rfl, rfl, (by show (0 : Int) < _; decide), _, _, c3, rfl, rfl, (by decide), hc3, _, _, rfl, rfl, ?_, q _⟩⟩
  rw [PySem.Str.length_append]
  exact (by decide : 1 + 1 + 1 ≤ sizeLine)

/-! ### _law_worth -/
abbrev s27 : Stmt := topS 27
theorem sc27 : FnScope ["_law_first", "_law_second", "_law_letters", "_law_text"] ["_law_first", "_law_second"] (defScope s27) := ⟨rfl, rfl, rfl, by decide +kernel, rfl, by decide +kernel, by decide +kernel⟩

theorem ok27 {f : Addr} {fd : FuncData} (F : Fun K "_law_worth" "_law_worth" s27 f fd) (mint : mg "int" = none) : FnOk P w K mg base CX0 1 f fd ["_law_first", "_law_second"] spText := by
  refine F.ok sc27 (fun vs H Q E h => ?_) (fun cdv A outer s H vs Q E hr h => ?_)
  · obtain ⟨a, b, rfl, _⟩ := h
    rfl
  obtain ⟨a, b, rfl, h0, h1, q⟩ := h
  refine ⟨_, (pss_cons (ps_set (i := 2) sc27.nd rfl (Or.inl rfl) pe_str) (pss_cons (ps_set (i := 3) sc27.nd rfl (Or.inl rfl) (pe_ix ix_str (pv 2) (pe_op op_mod (pe_callTy call_int1 (by rfl) mint boot_int (pa_cons (pv 0) pa_nil)) pe_int) (fun _ _ => rfl))) (pss_cons (ps_if (pt_cmpR op_eq (pe_op op_mod (pe_callTy call_int1 (by rfl) mint boot_int (pa_cons (pv 1) pa_nil)) pe_int) pe_int (nomark _)) (pss_one (ps_ret (pv 3))) pss_nil) (pss_cons (ps_if (pt_cmpR op_eq (pe_op op_mod (pe_callTy call_int1 (by rfl) mint boot_int (pa_cons (pv 1) pa_nil)) pe_int) pe_int (nomark _)) (pss_one (ps_ret (pe_op op_add_str (pe_op op_mul_str (pv 3) pe_int) (pe_ix ix_str (pv 2) (pe_op op_mod (pe_op op_fdiv (pe_callTy call_int1 (by rfl) mint boot_int (pa_cons (pv 1) pa_nil)) pe_int) pe_int) (fun _ _ => rfl))))) pss_nil) (pss_one (ps_ret (pe_op op_add_str (pv 3) (pe_ix ix_str (pv 2) (pe_op op_mod (pe_op op_fdiv (pe_callTy call_int1 (by rfl) mint boot_int (pa_cons (pv 1) pa_nil)) pe_int) pe_int) (fun _ _ => rfl))))))))), ?_⟩
  have hl : ("0123456789_abcdefghijklmnopqrstuvwxyz" : Str).cps.toList.length = 37 := by decide +kernel
  have ix : ∀ i : Int, 0 ≤ i → i < 37 → ∃ c, atI ("0123456789_abcdefghijklmnopqrstuvwxyz" : Str).cps.toList i = some c := fun i i0 i1 => by
    obtain ⟨c, h, _⟩ := at_ex (xs := ("0123456789_abcdefghijklmnopqrstuvwxyz" : Str).cps.toList) i0 (by rw [hl]; exact i1)
    exact ⟨c, h⟩
  obtain ⟨c1, hc1⟩ := ix (a % 37) (by omega) (by omega)
  obtain ⟨c2, hc2⟩ := ix (b / 4 % 37) (by omega) (by omega)
  refine ⟨_, rfl, _, rfl, .inl ⟨_, rfl, _, _, rfl, rfl, (by show (0 : Int) < _; decide), _, _, c1, rfl, rfl, (by decide), hc1, ?_⟩⟩
  refine ⟨_, rfl, .inl ⟨_, rfl, _, _, rfl, rfl, (by show (0 : Int) < _; decide), rfl, _, rfl, iteB (fun _ => ?_) (fun _ => ?_)⟩⟩
  · exact ⟨_, rfl, q _⟩
  refine ⟨_, rfl, .inl ⟨_, rfl, _, _, rfl, rfl, (by show (0 : Int) < _; decide), rfl, _, rfl, iteB (fun _ => ?_) (fun _ => ?_)⟩⟩
  · refine ⟨_, rfl, _, _, rfl, rfl, (by show 1 ≤ 16; decide), (by decide), (by decide), ?_⟩
    refine ⟨_, rfl, _, rfl, .inl ⟨_, rfl, _, _, rfl, rfl, ⟨by decide, by decide⟩, _, _, rfl, rfl, (by show (0 : Int) < _; decide), _, _, c2, rfl, rfl, (by decide), hc2, _, _, rfl, rfl, ?_, q _⟩⟩
    have h19 : (Txt.mul ⟨#[c1]⟩ 19).length ≤ 19 := mul_len ⟨#[c1]⟩ 19 (by decide)
    exact Nat.le_trans (Nat.add_le_add_right h19 1) (by decide)
  refine ⟨_, rfl, _, rfl, _, rfl, .inl ⟨_, rfl, _, _, rfl, rfl, ⟨by decide, by decide⟩, _, _, rfl, rfl, (by show (0 : Int) < _; decide), _, _, c2, rfl, rfl, (by decide), hc2, _, _, rfl, rfl, ?_, q _⟩⟩
  exact (by decide : 1 + 1 ≤ sizeLine)

/-! ### _law_names -/
abbrev s28 : Stmt := topS 28
theorem sc28 : FnScope ["_law_cell_here", "_law_many", "_law_draws_here", "_law_k"] ["_law_cell_here", "_law_many"] (defScope s28) := ⟨rfl, rfl, rfl, by decide +kernel, rfl, by decide +kernel, by decide +kernel⟩

def StrsAt (H : Hp) (p : Addr) (xs : List Str) : Prop := H p = some (.lst (xs.map V.str))
def spStrs : Sp := fun vs H Q _ => ∃ (c m : Int) (n : Nat), vs = [.int c, .int m] ∧ m = n ∧ n ≤ 40 ∧ ∀ p xs H', Same H H' → H p = none → StrsAt H' p xs → xs.length = n → Q (.ref p) H'

theorem ok28 {f : Addr} {fd : FuncData} (F : Fun K "_law_names" "_law_names" s28 f fd) {f24 : Addr} {fd24 : FuncData} (G24 : FnOk P w K mg base CX0 1 f24 fd24 ["_law_cell_here", "_law_many"] spDraws) (k24 : PySem.W.keepIn K (.ref f24) = true) (b24 : Binds K fd24 ["_law_cell_here", "_law_many"] []) (m24 : mg "_law_draws" = some (.ref f24))
    {f26 : Addr} {fd26 : FuncData} (G26 : FnOk P w K mg base CX0 1 f26 fd26 ["_law_first", "_law_second"] spText) (k26 : PySem.W.keepIn K (.ref f26) = true) (b26 : Binds K fd26 ["_law_first", "_law_second"] []) (m26 : mg "_law_name" = some (.ref f26)) (mr : mg "range" = none) : FnOk P w K mg base CX0 2 f fd ["_law_cell_here", "_law_many"] spStrs := by
  refine F.ok sc28 (fun vs H Q E h => ?_) (fun cdv A outer s H vs Q E hr h => ?_)
  · obtain ⟨c, m, n, rfl, _⟩ := h
    rfl
  obtain ⟨c, m, n, rfl, rfl, hn, q⟩ := h
  refine ⟨_, (pss_cons (ps_set (i := 2) sc28.nd rfl (Or.inr rfl) (pe_call G24 hr rfl m24 k24 b24 .nil pass0 (pa_cons (pv 0) (pa_cons (pe_op op_mul pe_int (pv 1)) pa_nil)))) (pss_one (ps_ret (pe_lc (own := [("_law_k", 3)]) (g := gName 3) (by rfl) sc28.nd (pi_range1 (by rfl) mr (pa_cons (pv 1) pa_nil)) (blkOk_by (own := [("_law_k", 3)]) (N := ["_law_cell_here", "_law_many", "_law_draws_here", "_law_k"]) (sc := defScope s28) (by decide +kernel)) (fun _ _ _ _ _ => pg_name (i := 3) sc28.nd rfl (Or.inl rfl)) (fun _ _ _ _ _ => pts_nil) (fun _ _ _ _ _ => pe_call (sp := spText) G26 hr rfl m26 k26 b26 .nil pass0 (pa_cons (pe_ix (r := rIxL K) ix_list (pv 2) (pe_op (r := rI CMul fun i j => .int (i * j)) op_mul pe_int (pv 3)) (fun _ _ => rfl)) (pa_cons (pe_ix (r := rIxL K) ix_list (pv 2) (pe_op (r := rI0 fun i j => .int (i + j)) op_add (pe_op (r := rI CMul fun i j => .int (i * j)) op_mul pe_int (pv 3)) pe_int) (fun _ _ => rfl)) pa_nil))))))), ?_⟩
  refine ⟨_, rfl, _, rfl, _, _, rfl, rfl, .inl ⟨by decide, by decide⟩, c, _, 2 * n, rfl, by omega, by omega, fun dp ds H1 sm1 ndp hds hd hdl => ?_⟩
  refine ⟨_, rfl, n, rfl, by omega, by omega, ?_⟩
  rw [Int.toNat_natCast]
  refine fun D hD => ?_
  refine lc_range (fun i H' => Same H1 H' ∧ ∃ acc : List Str, H' D = some (.lst (acc.map V.str)) ∧ acc.length = i) ⟨same_new hD _, [], upd_same, rfl⟩ (fun i H' hi pi => ?_) (fun H' pi => ?_)
  · obtain ⟨sm, acc, hacc, hl⟩ := pi
    obtain ⟨d1, e1, a0, a1⟩ := dr_at hd (i := 2 * (0 + (i : Int))) (by omega) (by omega)
    obtain ⟨d2, e2, b0, b1⟩ := dr_at hd (i := 2 * (0 + (i : Int)) + 1) (by omega) (by omega)
    have hds2 : SqL K H' dp (ds.map V.int) := SqL.of (sm _ _ hds)
    refine ⟨rfl, _, rfl, _, rfl, _, _, rfl, rfl, .inl ⟨by decide, by decide⟩, dp, _, _, _, rfl, rfl, hds2, e1, _, rfl, _, rfl, _, _, rfl, rfl, .inl ⟨by decide, by decide⟩, _, _, rfl, rfl, dp, _, _, _, rfl, rfl, hds2, e2, d1, d2, rfl, a0, b0, fun x => ?_⟩
    refine ⟨_, hacc, by rw [List.length_map]; exact few63 (by omega), Same.mut sm hD, acc ++ [x], ?_, by rw [List.length_append, hl]; rfl⟩
    rw [upd_same, List.map_append]
    rfl
  · obtain ⟨sm, acc, hacc, hl⟩ := pi
    exact q D acc H' (sm1.trans sm) (sm1.free hD) hacc hl

/-! ### _law_worths -/
abbrev s29 : Stmt := topS 29
theorem sc29 : FnScope ["_law_cell_here", "_law_many", "_law_draws_here", "_law_k"] ["_law_cell_here", "_law_many"] (defScope s29) := ⟨rfl, rfl, rfl, by decide +kernel, rfl, by decide +kernel, by decide +kernel⟩

theorem ok29 {f : Addr} {fd : FuncData} (F : Fun K "_law_worths" "_law_worths" s29 f fd) {f24 : Addr} {fd24 : FuncData} (G24 : FnOk P w K mg base CX0 1 f24 fd24 ["_law_cell_here", "_law_many"] spDraws) (k24 : PySem.W.keepIn K (.ref f24) = true) (b24 : Binds K fd24 ["_law_cell_here", "_law_many"] []) (m24 : mg "_law_draws" = some (.ref f24))
    {f27 : Addr} {fd27 : FuncData} (G27 : FnOk P w K mg base CX0 1 f27 fd27 ["_law_first", "_law_second"] spText) (k27 : PySem.W.keepIn K (.ref f27) = true) (b27 : Binds K fd27 ["_law_first", "_law_second"] []) (m27 : mg "_law_worth" = some (.ref f27)) (mr : mg "range" = none) : FnOk P w K mg base CX0 2 f fd ["_law_cell_here", "_law_many"] spStrs := by
  refine F.ok sc29 (fun vs H Q E h => ?_) (fun cdv A outer s H vs Q E hr h => ?_)
  · obtain ⟨c, m, n, rfl, _⟩ := h
    rfl
  obtain ⟨c, m, n, rfl, rfl, hn, q⟩ := h
  refine ⟨_, (pss_cons (ps_set (i := 2) sc29.nd rfl (Or.inr rfl) (pe_call G24 hr rfl m24 k24 b24 .nil pass0 (pa_cons (pv 0) (pa_cons (pe_op op_mul pe_int (pv 1)) pa_nil)))) (pss_one (ps_ret (pe_lc (own := [("_law_k", 3)]) (g := gName 3) (by rfl) sc29.nd (pi_range1 (by rfl) mr (pa_cons (pv 1) pa_nil)) (blkOk_by (own := [("_law_k", 3)]) (N := ["_law_cell_here", "_law_many", "_law_draws_here", "_law_k"]) (sc := defScope s29) (by decide +kernel)) (fun _ _ _ _ _ => pg_name (i := 3) sc29.nd rfl (Or.inl rfl)) (fun _ _ _ _ _ => pts_nil) (fun _ _ _ _ _ => pe_call (sp := spText) G27 hr rfl m27 k27 b27 .nil pass0 (pa_cons (pe_ix (r := rIxL K) ix_list (pv 2) (pe_op (r := rI CMul fun i j => .int (i * j)) op_mul pe_int (pv 3)) (fun _ _ => rfl)) (pa_cons (pe_ix (r := rIxL K) ix_list (pv 2) (pe_op (r := rI0 fun i j => .int (i + j)) op_add (pe_op (r := rI CMul fun i j => .int (i * j)) op_mul pe_int (pv 3)) pe_int) (fun _ _ => rfl)) pa_nil))))))), ?_⟩
  refine ⟨_, rfl, _, rfl, _, _, rfl, rfl, .inl ⟨by decide, by decide⟩, c, _, 2 * n, rfl, by omega, by omega, fun dp ds H1 sm1 ndp hds hd hdl => ?_⟩
  refine ⟨_, rfl, n, rfl, by omega, by omega, ?_⟩
  rw [Int.toNat_natCast]
  refine fun D hD => ?_
  refine lc_range (fun i H' => Same H1 H' ∧ ∃ acc : List Str, H' D = some (.lst (acc.map V.str)) ∧ acc.length = i) ⟨same_new hD _, [], upd_same, rfl⟩ (fun i H' hi pi => ?_) (fun H' pi => ?_)
  · obtain ⟨sm, acc, hacc, hl⟩ := pi
    obtain ⟨d1, e1, a0, a1⟩ := dr_at hd (i := 2 * (0 + (i : Int))) (by omega) (by omega)
    obtain ⟨d2, e2, b0, b1⟩ := dr_at hd (i := 2 * (0 + (i : Int)) + 1) (by omega) (by omega)
    have hds2 : SqL K H' dp (ds.map V.int) := SqL.of (sm _ _ hds)
    refine ⟨rfl, _, rfl, _, rfl, _, _, rfl, rfl, .inl ⟨by decide, by decide⟩, dp, _, _, _, rfl, rfl, hds2, e1, _, rfl, _, rfl, _, _, rfl, rfl, .inl ⟨by decide, by decide⟩, _, _, rfl, rfl, dp, _, _, _, rfl, rfl, hds2, e2, d1, d2, rfl, a0, b0, fun x => ?_⟩
    refine ⟨_, hacc, by rw [List.length_map]; exact few63 (by omega), Same.mut sm hD, acc ++ [x], ?_, by rw [List.length_append, hl]; rfl⟩
    rw [upd_same, List.map_append]
    rfl
  · obtain ⟨sm, acc, hacc, hl⟩ := pi
    exact q D acc H' (sm1.trans sm) (sm1.free hD) hacc hl

/-! ### _law_number -/
abbrev s31 : Stmt := topS 31
theorem sc31 : FnScope ["_law_first", "_law_second", "_law_small"] ["_law_first", "_law_second"] (defScope s31) := ⟨rfl, rfl, rfl, by decide +kernel, rfl, by decide +kernel, by decide +kernel⟩

def spNumber : Sp := fun vs H Q _ => ∃ a b : Int, vs = [.int a, .int b] ∧ 0 ≤ a ∧ a ≤ 999 ∧ 0 ≤ b ∧ b ≤ 999 ∧ ∀ n : Int, n.natAbs < 2 ^ 60 → Q (.int n) H
theorem ok31 {f : Addr} {fd : FuncData} (F : Fun K "_law_number" "_law_number" s31 f fd) (mint : mg "int" = none) : FnOk P w K mg base CX0 1 f fd ["_law_first", "_law_second"] spNumber := by
  refine F.ok sc31 (fun vs H Q E h => ?_) (fun cdv A outer s H vs Q E hr h => ?_)
  · obtain ⟨a, b, rfl, _⟩ := h
    rfl
  obtain ⟨a, b, rfl, a0, a1, b0, b1, q⟩ := h
  refine ⟨_, (pss_cons (ps_set (i := 2) sc31.nd rfl (Or.inl rfl) (pe_op op_mod (pe_callTy call_int1 (by rfl) mint boot_int (pa_cons (pv 0) pa_nil)) pe_int)) (pss_cons (ps_if (pt_cmpR op_eq (pe_op op_mod (pe_callTy call_int1 (by rfl) mint boot_int (pa_cons (pv 1) pa_nil)) pe_int) pe_int (nomark _)) (pss_one (ps_ret (pv 2))) pss_nil) (pss_cons (ps_if (pt_cmpR op_eq (pe_op op_mod (pe_callTy call_int1 (by rfl) mint boot_int (pa_cons (pv 1) pa_nil)) pe_int) pe_int (nomark _)) (pss_one (ps_ret (pe_op op_sub (pe_op op_sub pe_int (pv 2)) (pe_op op_mod (pe_op op_fdiv (pe_callTy call_int1 (by rfl) mint boot_int (pa_cons (pv 1) pa_nil)) pe_int) pe_int)))) pss_nil) (pss_cons (ps_if (pt_cmpR op_eq (pe_op op_mod (pe_callTy call_int1 (by rfl) mint boot_int (pa_cons (pv 1) pa_nil)) pe_int) pe_int (nomark _)) (pss_one (ps_ret (pe_op op_sub pe_int (pv 2)))) pss_nil) (pss_one (ps_ret (pe_op op_add (pe_op op_mul (pe_callTy call_int1 (by rfl) mint boot_int (pa_cons (pv 0) pa_nil)) pe_int) (pe_callTy call_int1 (by rfl) mint boot_int (pa_cons (pv 1) pa_nil))))))))), ?_⟩
  refine ⟨_, rfl, .inl ⟨_, rfl, _, _, rfl, rfl, (by show (0 : Int) < _; decide), ?_⟩⟩
  refine ⟨_, rfl, .inl ⟨_, rfl, _, _, rfl, rfl, (by show (0 : Int) < _; decide), rfl, _, rfl, iteB (fun _ => ?_) (fun _ => ?_)⟩⟩
  · exact ⟨_, rfl, q _ (by omega)⟩
  refine ⟨_, rfl, .inl ⟨_, rfl, _, _, rfl, rfl, (by show (0 : Int) < _; decide), rfl, _, rfl, iteB (fun _ => ?_) (fun _ => ?_)⟩⟩
  · exact ⟨_, rfl, _, _, rfl, rfl, _, rfl, .inl ⟨_, rfl, _, _, rfl, rfl, ⟨by decide, by decide⟩, _, _, rfl, rfl, (by show (0 : Int) < _; decide), _, _, rfl, rfl, q _ (by omega)⟩⟩
  refine ⟨_, rfl, .inl ⟨_, rfl, _, _, rfl, rfl, (by show (0 : Int) < _; decide), rfl, _, rfl, iteB (fun _ => ?_) (fun _ => ?_)⟩⟩
  · exact ⟨_, rfl, _, _, rfl, rfl, q _ (by omega)⟩
  exact ⟨_, rfl, .inl ⟨_, rfl, _, _, rfl, rfl, .inr ⟨by decide, by decide⟩, _, rfl, .inl ⟨_, rfl, _, _, rfl, rfl, q _ (by omega)⟩⟩⟩
end
end L2.Q9


set_option Elab.async false
set_option linter.all false
set_option maxRecDepth 100000
set_option maxHeartbeats 4000000
/-! Q9: labels, leaves, signs. -/
namespace L2.Q9
open PySem PySem.Spec PyProof.Rows


theorem rg2 : ∀ m : Fin 10, (2 : Int) ≠ 0 ∧ (2 : Int).natAbs < 1073741824 ∧ Builtin.Range.small 0 ((m.val : Int) - 1) 2 = true ∧ Builtin.Range.rangeSize 0 ((m.val : Int) - 1) 2 = ((m.val / 2 : Nat) : Int) := by decide
theorem rg2' {m : Nat} (h : m ≤ 9) : RgC 0 ((m : Int) - 1) 2 (m / 2) := rg2 ⟨m, by omega⟩
theorem AtAll.of_strs {K : PySem.W.Frag} {H : Hp} : ∀ xs : List Str, AtAll K H (xs.map V.str) (xs.map .str)
  | [] => .nil
  | x :: xs => .cons At.str (AtAll.of_strs xs)
theorem cutV_map (f : Str → V) (xs : List Str) (lo hi : Option Int) : ∃ ys : List Str, cutV (xs.map f) lo hi = ys.map f := by
  unfold cutV
  rw [← List.map_drop, ← List.map_take]
  exact ⟨_, rfl⟩
theorem cutV_strs (xs : List Str) (lo hi : Option Int) : ∃ ys : List Str, cutV (xs.map V.str) lo hi = ys.map V.str := cutV_map V.str xs lo hi
theorem strs_take {ds : List Str} {i : Int} {n : Nat} (h0 : 0 ≤ i) (h1 : i < n) (h2 : n ≤ ds.length) : ∃ d, atI (ds.map V.str) i = some (.str d) ∧ d ∈ ds.take n := by
  have hj : i.toNat < ds.length := by omega
  refine ⟨ds[i.toNat], at_of (j := i.toNat) (by omega) ?_, ?_⟩
  · rw [List.getElem?_map, List.getElem?_eq_getElem hj]
    rfl
  · rw [List.mem_take_iff_getElem]
    exact ⟨i.toNat, by omega, rfl⟩
theorem posl {ns : List Str} (h : 0 < ns.length) : (0 : Int) < ((ns.map V.str).length : Int) := by
  rw [List.length_map]
  omega
theorem strs_mod {ns : List Str} (h : 0 < ns.length) (c : Int) : ∃ x, atI (ns.map V.str) (c % ((ns.map V.str).length : Int)) = some (.str x) := by
  rw [List.length_map]
  obtain ⟨x, e, _⟩ := strs_ex (ds := ns) (i := c % (ns.length : Int)) (Int.emod_nonneg _ (by omega)) (Int.emod_lt_of_pos _ (by omega))
  exact ⟨x, e⟩
theorem strs_mod1 (ns : List Str) (z : Str) (c : Int) : ∃ x, atI (ns.map V.str ++ [V.str z]) (c % (((ns.map V.str).length : Int) + 1)) = some (.str x) := by
  have e1 : ns.map V.str ++ [V.str z] = (ns ++ [z]).map V.str := by
    rw [List.map_append]
    rfl
  have e2 : ((ns.map V.str).length : Int) + 1 = (((ns ++ [z]).map V.str).length : Int) := by
    rw [List.length_map, List.length_map, List.length_append, List.length_singleton]
    rfl
  rw [e1, e2]
  exact strs_mod (by rw [List.length_append, List.length_singleton]; omega) c
theorem pos1 (n : Nat) : (0 : Int) < (n : Int) + 1 := by omega
theorem atAll_snoc {K : PySem.W.Frag} {H : Hp} {a : Addr} {acc : List V} {ds : List PyData} {v : V} {d : PyData} (h : AtAll K H acc ds) (hv : At K H v d) (ha : H a = some (.lst acc)) : AtAll K (upd H a (.lst (acc ++ [v]))) (acc ++ [v]) (ds ++ [d]) := (h.snoc hv).keep (Kt.lst ha)
/-- sorted(..) of pairs of texts -/
theorem sort_labs {K : PySem.W.Frag} {H : Hp} {a : Addr} {l : Lab} {vs : List V} (hS : H a = some (.lst vs)) (hA : AtAll K H vs (l.map encQ)) (hl : l.length ≤ 60000) : ∃ bs : List (V × PyData), SqL K H a (bs.map (·.1)) ∧ Sorts K H bs ∧ AtAll K H ((bs.mergeSort leD).map (·.1)) ((l.mergeSort (leF encQ)).map encQ) := by
  obtain ⟨e1, e2, e3⟩ := zip_at hA
  exact ⟨vs.zip (l.map encQ), by rw [e1]; exact SqL.of hS, sorts_mk e3 e2 alike_Q (fun a => ⟨_, rfl⟩) (fun a => Nat.le_trans (depth_Q a) (by decide)) hl, sort_at e3 e2⟩
section
variable {P : Program} {w : World} {K : PySem.W.Frag} {mg : Str → Option Value} {base : Heap}

/-! ### _law_labels -/
abbrev s30 : Stmt := topS 30
theorem sc30 : FnScope ["_law_draws_here", "_law_names_here", "_law_worths_here", "_law_pairs", "_law_used", "_law_k", "_law_name_here"] ["_law_draws_here", "_law_names_here", "_law_worths_here"] (defScope s30) := ⟨rfl, rfl, rfl, by decide +kernel, rfl, by decide +kernel, by decide +kernel⟩

def spLabels (K : PySem.W.Frag) : Sp := fun vs H Q _ => ∃ (d n u : Addr) (ds : List Int) (ns ws : List Str), vs = [.ref d, .ref n, .ref u] ∧ SqL K H d (ds.map V.int) ∧ Dr ds ∧ ds.length ≤ 9 ∧ SqL K H n (ns.map V.str) ∧ ns ≠ [] ∧ SqL K H u (ws.map V.str) ∧ ws ≠ [] ∧ ∀ p l H', Same H H' → H p = none → At K H' (.ref p) (encL l) → l.length ≤ 10 → Q (.ref p) H'
theorem ok30 {f : Addr} {fd : FuncData} (F : Fun K "_law_labels" "_law_labels" s30 f fd) (ml : mg "len" = none) (mint : mg "int" = none) (mr : mg "range" = none) (mt : mg "tuple" = none) (msrt : mg "sorted" = none) : FnOk P w K mg base CX0 1 f fd ["_law_draws_here", "_law_names_here", "_law_worths_here"] (spLabels K) := by
  refine F.ok sc30 (fun vs H Q E h => ?_) (fun cdv A outer s H vs Q E hr h => ?_)
  · obtain ⟨d, n, u, ds, ns, ws, rfl, _⟩ := h
    rfl
  obtain ⟨d, n, u, ds, ns, ws, rfl, hds, hd, hdl, hns, hn0, hws, hw0, q⟩ := h
  have hu := hr.units
  refine ⟨_, (pss_cons (ps_set (i := 3) sc30.nd rfl (Or.inl rfl) (pe_lst pa_nil)) (pss_cons (ps_set (i := 4) sc30.nd rfl (Or.inl rfl) (pe_lst pa_nil)) (pss_cons (ps_for PassesOwn.never rfl (pi_range3 (by rfl) mr (pa_cons pe_int (pa_cons (pe_op op_sub (pe_callB call_len_seq (by rfl) ml boot_len (pa_cons (pv 0) pa_nil)) pe_int) (pa_cons pe_int pa_nil)))) (pg_name (i := 5) sc30.nd rfl (Or.inl rfl)) (pss_cons (ps_set (i := 6) sc30.nd rfl (Or.inl rfl) (pe_ix ix_list (pv 1) (pe_op op_mod (pe_callTy call_int1 (by rfl) mint boot_int (pa_cons (pe_ix ix_list (pv 0) (pv 5) (fun _ _ => rfl)) pa_nil)) (pe_callB call_len_seq (by rfl) ml boot_len (pa_cons (pv 1) pa_nil))) (fun _ _ => rfl))) (pss_one (ps_if (pt_cmpR op_notIn_seq (pv 6) (pv 4) (by rfl)) (pss_cons (ps_expr (pe_bm PySem.F.plainAttrs_list PySem.F.slot_list_append PySem.F.type_list_append mt_append (pv 4) (pa_cons (pv 6) pa_nil))) (pss_one (ps_expr (pe_bm PySem.F.plainAttrs_list PySem.F.slot_list_append PySem.F.type_list_append mt_append (pv 3) (pa_cons (pe_tup (pa_cons (pv 6) (pa_cons (pe_ix ix_list (pv 2) (pe_op op_mod (pe_callTy call_int1 (by rfl) mint boot_int (pa_cons (pe_ix ix_list (pv 0) (pe_op op_add (pv 5) pe_int) (fun _ _ => rfl)) pa_nil)) (pe_callB call_len_seq (by rfl) ml boot_len (pa_cons (pv 2) pa_nil))) (fun _ _ => rfl)) pa_nil))) pa_nil))))) pss_nil)))) (pss_one (ps_ret (pe_callTy call_tuple_of (by rfl) mt boot_tuple (pa_cons (pe_callB (x_sortL (K := K) rfl hu) (by rfl) msrt boot_sorted (pa_cons (pv 3) pa_nil)) pa_nil))))))), ?_⟩
  have np : 0 < ns.length := List.length_pos_iff.mpr hn0
  have wp : 0 < ws.length := List.length_pos_iff.mpr hw0
  refine ⟨Nat.zero_le _, fun pa hpa => ?_⟩
  refine ⟨Nat.zero_le _, fun ua hua => ?_⟩
  have hua0 : H ua = none := (same_new hpa _).free hua
  have ne : pa ≠ ua := fun e => by
    rw [← e, upd_same] at hua
    cases hua
  have sm0 : Same H (upd (upd H pa (.lst [])) ua (.lst [])) := (same_new hpa _).trans (same_new hua _)
  refine ⟨_, rfl, d, _, rfl, .inl (sm0.seq hds), _, _, rfl, rfl, 0, _, 2, ds.length / 2, rfl, ?_, ?_⟩
  · rw [List.length_map]
    exact rg2' hdl
  refine for_rangeC (fun i σ H' => (∃ y z, σ = [some (.ref d), some (.ref n), some (.ref u), some (.ref pa), some (.ref ua), y, z]) ∧ Same H H' ∧ (∃ us : List Str, H' ua = some (.lst (us.map V.str)) ∧ us.length ≤ i) ∧ ∃ acc l, H' pa = some (.lst acc) ∧ AtAll K H' acc (l.map encQ) ∧ l.length ≤ i) ⟨⟨none, none, rfl⟩, sm0, ⟨[], upd_same, Nat.le_refl _⟩, [], [], by rw [upd_ne ne]; exact upd_same, .nil, Nat.le_refl _⟩ (fun i σ H' hi p => ?_) (fun σ H' p => ?_)
  · obtain ⟨⟨y, z, rfl⟩, sm, ⟨us, hus, hul⟩, acc, l, hacc, hA, hll⟩ := p
    obtain ⟨d1, e1, a0, a1⟩ := dr_at hd (i := 0 + (i : Nat) * 2) (by omega) (by omega)
    obtain ⟨d2, e2, b0, b1⟩ := dr_at hd (i := 0 + (i : Nat) * 2 + 1) (by omega) (by omega)
    obtain ⟨nm, en⟩ := strs_mod np d1
    obtain ⟨wo, ew⟩ := strs_mod wp d2
    have hds1 := sm.seq hds
    have hns1 := sm.seq hns
    refine ⟨_, rfl, _, rfl, _, rfl, d, _, _, _, rfl, rfl, hds1, e1, .inl ⟨_, rfl, ?_⟩⟩
    refine ⟨_, rfl, n, _, rfl, .inl hns1, _, _, rfl, rfl, posl np, n, _, _, .str nm, rfl, rfl, hns1, en, ?_⟩
    refine ⟨_, rfl, _, rfl, ua, _, rfl, .inl (SqL.of hus), rfl, flat_strs _, _, rfl, iteB (fun _ => ?_) (fun _ => ?_)⟩
    · refine ⟨_, rfl, .inl ⟨rfl, _, SqL.of hus⟩, _, rfl, ua, _, _, rfl, rfl, hus, by rw [List.length_map]; exact few63 (by omega), ?_⟩
      have sm1 : Same H (upd H' ua (.lst (us.map V.str ++ [.str nm]))) := Same.mut sm hua0
      have hacc1 : upd H' ua (.lst (us.map V.str ++ [.str nm])) pa = some (.lst acc) := by rw [upd_ne ne]; exact hacc
      have hus1 : upd H' ua (.lst (us.map V.str ++ [.str nm])) ua = some (.lst ((us ++ [nm]).map V.str)) := by rw [upd_same, List.map_append]; rfl
      have hA1 : AtAll K (upd H' ua (.lst (us.map V.str ++ [.str nm]))) acc (l.map encQ) := hA.keep (Kt.lst hus)
      generalize upd H' ua (.lst (us.map V.str ++ [.str nm])) = H1 at sm1 hacc1 hus1 hA1
      have hws1 := sm1.seq hws
      have hds2 := sm1.seq hds
      refine ⟨_, rfl, .inl ⟨rfl, _, SqL.of hacc1⟩, _, rfl, _, rfl, _, rfl, _, rfl, _, _, rfl, rfl, d, _, _, _, rfl, rfl, hds2, e2, .inl ⟨_, rfl, ?_⟩⟩
      refine ⟨_, rfl, u, _, rfl, .inl hws1, _, _, rfl, rfl, posl wp, u, _, _, .str wo, rfl, rfl, hws1, ew, ?_⟩
      refine ⟨(by show 2 ≤ sizeLine; decide), fun t ht => ?_⟩
      have smt := same_new ht (HO.tup [.str nm, .str wo])
      have hacc2 := smt _ _ hacc1
      have hq : At K (upd H1 t (.tup [.str nm, .str wo])) (.ref t) (encQ (nm, wo)) := At.tup_mk (SqT.of upd_same) (.cons At.str (.cons At.str .nil))
      refine ⟨pa, acc, _, rfl, rfl, hacc2, ?_, ⟨_, _, rfl⟩, Same.mut (sm1.trans smt) hpa, ⟨us ++ [nm], ?_, by rw [List.length_append, List.length_singleton]; omega⟩, acc ++ [.ref t], l ++ [(nm, wo)], upd_same, ?_, by rw [List.length_append, List.length_singleton]; omega⟩
      · rw [hA.mlen]
        exact few63 (by omega)
      · rw [upd_ne (Ne.symm ne)]
        exact smt _ _ hus1
      · rw [List.map_append]
        exact atAll_snoc (hA1.same smt) hq hacc2
    · exact ⟨⟨_, _, rfl⟩, sm, ⟨us, hus, by omega⟩, acc, l, hacc, hA, by omega⟩
  · obtain ⟨⟨y, z, rfl⟩, sm, ⟨us, hus, hul⟩, acc, l, hacc, hA, hll⟩ := p
    obtain ⟨bs, b1, b2, b3⟩ := sort_labs hacc hA (by omega)
    refine ⟨_, rfl, pa, bs, rfl, b1, b2, fun t ht => ?_⟩
    have smt := same_new ht (HO.lst ((bs.mergeSort leD).map (·.1)))
    refine ⟨t, _, rfl, .inl ⟨SqL.of upd_same, fun g hg => ?_⟩⟩
    have smg := smt.trans (same_new hg (HO.tup ((bs.mergeSort leD).map (·.1))))
    exact q g (l.mergeSort (leF encQ)) _ (sm.trans smg) (sm.free (smt.free hg)) (At.tup_mk (SqT.of upd_same) (b3.same smg)) (by rw [List.length_mergeSort]; omega)

/-! ### _law_leaf -/
abbrev s33 : Stmt := topS 33
theorem sc33 : FnScope ["_law_draws_here", "_law_names_here", "_law_worths_here", "_law_matchers", "_law_k", "_law_values", "_law_metric", "_law_words"] ["_law_draws_here", "_law_names_here", "_law_worths_here"] (defScope s33) := ⟨rfl, rfl, rfl, by decide +kernel, rfl, by decide +kernel, by decide +kernel⟩

/-- well made, of a kind -/
structure Gd (e : Ex) : Prop where
  ok : ExOk e
  kd : ∃ k, kd e = some k
def spLeaf (K : PySem.W.Frag) : Sp := fun vs H Q _ => ∃ (d n u : Addr) (ds : List Int) (ns ws : List Str), vs = [.ref d, .ref n, .ref u] ∧ SqL K H d (ds.map V.int) ∧ Dr ds ∧ ds.length = 5 ∧ SqL K H n (ns.map V.str) ∧ ns ≠ [] ∧ StrsAt H u ws ∧ ws ≠ [] ∧ ws.length ≤ 100 ∧ ∀ p e H', Same H H' → At K H' (.ref p) (encE e) → Gd e → sz e = 1 → Q (.ref p) H'
theorem ok33 {f : Addr} {fd : FuncData} (F : Fun K "_law_leaf" "_law_leaf" s33 f fd) {f31 : Addr} {fd31 : FuncData} (G31 : FnOk P w K mg base CX0 1 f31 fd31 ["_law_first", "_law_second"] spNumber) (k31 : PySem.W.keepIn K (.ref f31) = true) (b31 : Binds K fd31 ["_law_first", "_law_second"] []) (m31 : mg "_law_number" = some (.ref f31)) (ml : mg "len" = none) (mint : mg "int" = none) (mr : mg "range" = none) (mt : mg "tuple" = none) : FnOk P w K mg base CX0 2 f fd ["_law_draws_here", "_law_names_here", "_law_worths_here"] (spLeaf K) := by
  refine F.ok sc33 (fun vs H Q E h => ?_) (fun cdv A outer s H vs Q E hr h => ?_)
  · obtain ⟨d, n, u, ds, ns, ws, rfl, _⟩ := h
    rfl
  obtain ⟨d, n, u, ds, ns, ws, rfl, hds, hd, hdl, hns, hn0, hws, hw0, hwl, q⟩ := h
  have hu := hr.units
  refine ⟨_, (pss_cons (ps_if (pt_cmpR op_eq (pe_op op_mod (pe_ix ix_list (pv 0) pe_int (fun _ _ => rfl)) pe_int) pe_int (nomark _)) (pss_one (ps_ret (pe_tup (pa_cons pe_str (pa_cons (pe_call G31 hr rfl m31 k31 b31 .nil pass0 (pa_cons (pe_ix ix_list (pv 0) pe_int (fun _ _ => rfl)) (pa_cons (pe_ix ix_list (pv 0) pe_int (fun _ _ => rfl)) pa_nil))) pa_nil))))) pss_nil) (pss_cons (ps_set (i := 3) sc33.nd rfl (Or.inl rfl) (pe_lst pa_nil)) (pss_cons (ps_for PassesOwn.never rfl (pi_range1 (by rfl) mr (pa_cons (pe_op op_mod (pe_ix ix_list (pv 0) pe_int (fun _ _ => rfl)) pe_int) pa_nil)) (pg_name (i := 4) sc33.nd rfl (Or.inl rfl)) (pss_cons (ps_set (i := 5) sc33.nd rfl (Or.inl rfl) (pe_lst (pa_cons (pe_ix ix_list (pe_op op_cat (pv 2) (pe_lst (pa_cons pe_str pa_nil))) (pe_op op_mod (pe_callTy call_int1 (by rfl) mint boot_int (pa_cons (pe_op op_add (pe_op op_fdiv (pe_ix ix_list (pv 0) pe_int (fun _ _ => rfl)) pe_int) (pe_op op_mul (pv 4) pe_int)) pa_nil)) (pe_op op_add (pe_callB call_len_seq (by rfl) ml boot_len (pa_cons (pv 2) pa_nil)) pe_int)) (fun _ _ => rfl)) (pa_cons (pe_ix ix_list (pv 2) (pe_op op_mod (pe_op op_fdiv (pe_ix ix_list (pv 0) pe_int (fun _ _ => rfl)) pe_int) (pe_callB call_len_seq (by rfl) ml boot_len (pa_cons (pv 2) pa_nil))) (fun _ _ => rfl)) pa_nil)))) (pss_one (ps_expr (pe_bm PySem.F.plainAttrs_list PySem.F.slot_list_append PySem.F.type_list_append mt_append (pv 3) (pa_cons (pe_tup (pa_cons (pe_ix ix_list (pv 1) (pe_op op_mod (pe_op op_add (pe_ix ix_list (pv 0) pe_int (fun _ _ => rfl)) (pv 4)) (pe_callB call_len_seq (by rfl) ml boot_len (pa_cons (pv 1) pa_nil))) (fun _ _ => rfl)) (pa_cons (pe_callTy call_tuple_of (by rfl) mt boot_tuple (pa_cons (pe_slice sl_list (pv 5) po_none (po_some (pe_op op_add pe_int (pe_op op_mod (pe_op op_add (pe_op op_fdiv (pe_ix ix_list (pv 0) pe_int (fun _ _ => rfl)) pe_int) (pv 4)) pe_int)))) pa_nil)) (pa_cons (pe_cmpR op_eq (pe_op op_mod (pe_ix ix_list (pv 0) pe_int (fun _ _ => rfl)) pe_int) pe_int (nomark _)) pa_nil)))) pa_nil)))))) (pss_cons (ps_set (i := 6) sc33.nd rfl (Or.inl rfl) (pe_ix ix_list (pv 1) (pe_op op_mod (pe_op op_fdiv (pe_ix ix_list (pv 0) pe_int (fun _ _ => rfl)) pe_int) (pe_callB call_len_seq (by rfl) ml boot_len (pa_cons (pv 1) pa_nil))) (fun _ _ => rfl))) (pss_cons (ps_if (pt_cmpR op_eq (pe_op op_mod (pe_ix ix_list (pv 0) pe_int (fun _ _ => rfl)) pe_int) pe_int (nomark _)) (pss_cons (ps_set (i := 7) sc33.nd rfl (Or.inl rfl) (pe_lst (pa_cons pe_str (pa_cons pe_str (pa_cons pe_str (pa_cons pe_str (pa_cons pe_str (pa_cons pe_str pa_nil)))))))) (pss_one (ps_ret (pe_tup (pa_cons pe_str (pa_cons (pe_ix ix_list (pv 7) (pe_op op_mod (pe_ix ix_list (pv 0) pe_int (fun _ _ => rfl)) pe_int) (fun _ _ => rfl)) (pa_cons (pv 6) (pa_cons (pe_callTy call_tuple_of (by rfl) mt boot_tuple (pa_cons (pv 3) pa_nil)) (pa_cons (pe_op op_add pe_int (pe_op op_mod (pe_op op_fdiv (pe_ix ix_list (pv 0) pe_int (fun _ _ => rfl)) pe_int) pe_int)) pa_nil))))))))) pss_nil) (pss_one (ps_ret (pe_tup (pa_cons pe_str (pa_cons (pv 6) (pa_cons (pe_callTy call_tuple_of (by rfl) mt boot_tuple (pa_cons (pv 3) pa_nil)) pa_nil))))))))))), ?_⟩
  obtain ⟨d0, d1, d2, d3, d4, rfl⟩ : ∃ d0 d1 d2 d3 d4, ds = [d0, d1, d2, d3, d4] := match ds, hdl with | [a, b, c, d, e], _ => ⟨a, b, c, d, e, rfl⟩
  have b0 := hd d0 (by simp)
  have b1 := hd d1 (by simp)
  have b2 := hd d2 (by simp)
  have b3 := hd d3 (by simp)
  have np : 0 < ns.length := List.length_pos_iff.mpr hn0
  have wp : 0 < ws.length := List.length_pos_iff.mpr hw0
  have hds : SqL K H d [.int d0, .int d1, .int d2, .int d3, .int d4] := hds
  refine ⟨_, rfl, d, _, _, _, rfl, rfl, hds, rfl, _, _, rfl, rfl, (by show (0 : Int) < _; decide), rfl, _, rfl, iteB (fun _ => ?_) (fun _ => ?_)⟩
  · refine ⟨_, rfl, d, _, _, _, rfl, rfl, hds, rfl, _, rfl, d, _, _, _, rfl, rfl, hds, rfl, d1, d2, rfl, b1.1, b1.2, b2.1, b2.2, fun k hk => ⟨(by show 2 ≤ sizeLine; decide), fun t ht => ?_⟩⟩
    exact q t (.num k) _ (same_new ht _) (At.tup_mk (SqT.of upd_same) (.cons At.str (.cons At.int .nil))) ⟨hk, _, rfl⟩ rfl
  refine ⟨Nat.zero_le _, fun M hM => ?_⟩
  have sm0 := same_new hM (HO.lst [])
  refine ⟨_, rfl, d, _, _, _, rfl, rfl, sm0.seq hds, rfl, _, _, rfl, rfl, (by show (0 : Int) < _; decide), d2 % 3, rfl, by omega, by omega, ?_⟩
  have c3 : (d2 % 3).toNat ≤ 3 := by omega
  refine for_range (fun i σ H' => (∃ y4 y5, σ = [some (.ref d), some (.ref n), some (.ref u), some (.ref M), y4, y5, none, none]) ∧ Same H H' ∧ ∃ acc ms, H' M = some (.lst acc) ∧ AtAll K H' acc (List.map encM ms) ∧ acc.length ≤ i) ⟨⟨none, none, rfl⟩, sm0, [], [], upd_same, .nil, Nat.le_refl _⟩ (fun i σ H' hi p => ?_) (fun σ H' p => ?_)
  · obtain ⟨⟨y4, y5, rfl⟩, sm, acc, ms, hacc, hA, hl⟩ := p
    -- worths + [""]
    refine ⟨_, rfl, (by show 1 ≤ sizeLine; decide), fun e1 he1 => ?_⟩
    have s1 := same_new he1 (HO.lst [.str ""])
    have hws1 := s1 _ _ (sm _ _ hws)
    refine ⟨u, e1, _, _, rfl, rfl, hws1, upd_same, by rw [List.length_map]; exact Nat.le_trans (show ws.length + 1 ≤ 101 by omega) (by decide), fun c hc => ?_⟩
    have s2 := s1.trans (same_new hc (HO.lst (ws.map V.str ++ [V.str ""])))
    have hc2 : SqL K (upd (upd H' e1 (HO.lst [.str ""])) c (HO.lst (ws.map V.str ++ [V.str ""]))) c (ws.map V.str ++ [V.str ""]) := SqL.of upd_same
    generalize upd (upd H' e1 (HO.lst [.str ""])) c (HO.lst (ws.map V.str ++ [V.str ""])) = H2 at s2 hc2
    have hds2 := (sm.trans s2).seq hds
    have hws2 : SqL K H2 u (ws.map V.str) := SqL.of ((sm.trans s2) _ _ hws)
    obtain ⟨x1, ex1⟩ := strs_mod1 ws "" (d1 / 3 + (0 + (i : Int)) * 5)
    obtain ⟨x2, ex2⟩ := strs_mod wp (d3 / 2)
    refine ⟨_, rfl, d, _, _, _, rfl, rfl, hds2, rfl, _, _, rfl, rfl, ⟨by decide, by decide⟩, _, rfl, _, _, rfl, rfl, .inr ⟨by decide, by decide⟩, _, _, rfl, rfl, .inl ⟨_, rfl, ?_⟩⟩
    refine ⟨_, rfl, u, _, rfl, .inl hws2, _, _, rfl, rfl, _, _, rfl, rfl, pos1 _, c, _, _, .str x1, rfl, rfl, hc2, ex1, ?_⟩
    refine ⟨_, rfl, _, rfl, d, _, _, _, rfl, rfl, hds2, rfl, _, _, rfl, rfl, ⟨by decide, by decide⟩, _, rfl, u, _, rfl, .inl hws2, _, _, rfl, rfl, posl wp, u, _, _, .str x2, rfl, rfl, hws2, ex2, ?_⟩
    refine ⟨(by show 2 ≤ sizeLine; decide), fun vl hvl => ?_⟩
    have s3 := s2.trans (same_new hvl (HO.lst [.str x1, .str x2]))
    have hvl3 : SqL K (upd H2 vl (HO.lst [.str x1, .str x2])) vl (List.map V.str [x1, x2]) := SqL.of upd_same
    generalize upd H2 vl (HO.lst [.str x1, .str x2]) = H3 at s3 hvl3
    have sm3 := sm.trans s3
    have hds3 := sm3.seq hds
    have hns3 := sm3.seq hns
    obtain ⟨nm, en⟩ := strs_mod np (d3 + (0 + (i : Int)))
    -- the matcher
    refine ⟨_, rfl, .inl ⟨rfl, _, SqL.of (s3 _ _ hacc)⟩, ?_⟩
    refine ⟨_, rfl, _, rfl, d, _, _, _, rfl, rfl, hds3, rfl, _, rfl, _, _, rfl, rfl, _, rfl, n, _, rfl, .inl hns3, _, _, rfl, rfl, posl np, n, _, _, .str nm, rfl, rfl, hns3, en, ?_⟩
    refine ⟨_, rfl, _, rfl, d, _, _, _, rfl, rfl, hds3, rfl, _, _, rfl, rfl, ⟨by decide, by decide⟩, _, rfl, _, _, rfl, rfl, _, _, rfl, rfl, (by show (0 : Int) < _; decide), _, _, rfl, rfl, _, rfl, vl, _, rfl, hvl3, fun sl hsl => ?_⟩
    obtain ⟨ys, ey⟩ := cutV_strs [x1, x2] none (some (1 + (d2 / 3 + (0 + (i : Int))) % 2))
    rw [ey]
    have s4 := same_new hsl (HO.lst (ys.map V.str))
    refine ⟨sl, _, rfl, .inl ⟨SqL.of upd_same, fun tp htp => ?_⟩⟩
    have s5 := s4.trans (same_new htp (HO.tup (ys.map V.str)))
    have htp5 : At K (upd (upd H3 sl (HO.lst (ys.map V.str))) tp (HO.tup (ys.map V.str))) (.ref tp) (.tuple (ys.map .str)) := At.tup_mk (SqT.of upd_same) (AtAll.of_strs ys)
    generalize upd (upd H3 sl (HO.lst (ys.map V.str))) tp (HO.tup (ys.map V.str)) = H5 at s5 htp5
    refine ⟨_, rfl, d, _, _, _, rfl, rfl, s5.seq hds3, rfl, _, _, rfl, rfl, (by show (0 : Int) < _; decide), rfl, (by show 3 ≤ sizeLine; decide), fun tt htt => ?_⟩
    have s6 := s5.trans (same_new htt (HO.tup [.str nm, .ref tp, .bl (decide (V.int (d1 % 2) = V.int 0))]))
    have hacc6 := (s3.trans s6) _ _ hacc
    have hm : At K (upd H5 tt (HO.tup [.str nm, .ref tp, .bl (decide (V.int (d1 % 2) = V.int 0))])) (.ref tt) (encM ⟨nm, ys, decide (V.int (d1 % 2) = V.int 0)⟩) := At.tup_mk (SqT.of upd_same) (.cons At.str (.cons (htp5.same (same_new htt _)) (.cons At.bl .nil)))
    refine ⟨M, acc, _, rfl, rfl, hacc6, few63 (by omega), ⟨_, _, rfl⟩, Same.mut (sm3.trans s6) hM, acc ++ [.ref tt], ms ++ [⟨nm, ys, decide (V.int (d1 % 2) = V.int 0)⟩], upd_same, ?_, by rw [List.length_append, List.length_singleton]; omega⟩
    rw [List.map_append]
    exact atAll_snoc (hA.same (s3.trans s6)) hm hacc6
  · obtain ⟨⟨y4, y5, rfl⟩, sm, acc, ms, hacc, hA, hl⟩ := p
    have hds1 := sm.seq hds
    have hns1 := sm.seq hns
    obtain ⟨nm, en⟩ := strs_mod np (d3 / 3)
    refine ⟨_, rfl, _, rfl, d, _, _, _, rfl, rfl, hds1, rfl, _, _, rfl, rfl, ⟨by decide, by decide⟩, _, rfl, n, _, rfl, .inl hns1, _, _, rfl, rfl, posl np, n, _, _, .str nm, rfl, rfl, hns1, en, ?_⟩
    refine ⟨_, rfl, d, _, _, _, rfl, rfl, hds1, rfl, _, _, rfl, rfl, (by show (0 : Int) < _; decide), rfl, _, rfl, iteB (fun _ => ?_) (fun _ => ?_)⟩
    · refine ⟨(by show 6 ≤ sizeLine; decide), fun wl hwl2 => ?_⟩
      have s1 := same_new hwl2 (HO.lst (List.map V.str ["sum_over", "min_over", "max_over", "count_over", "last_over", "increase"]))
      have hw1 : SqL K (upd H' wl (HO.lst (List.map V.str ["sum_over", "min_over", "max_over", "count_over", "last_over", "increase"]))) wl (List.map V.str ["sum_over", "min_over", "max_over", "count_over", "last_over", "increase"]) := SqL.of upd_same
      obtain ⟨wd, ew⟩ := strs_mod (ns := ["sum_over", "min_over", "max_over", "count_over", "last_over", "increase"]) (by decide) d1
      refine ⟨_, rfl, _, rfl, d, _, _, _, rfl, rfl, s1.seq hds1, rfl, _, _, rfl, rfl, (by show (0 : Int) < _; decide), wl, _, _, .str wd, rfl, rfl, hw1, ew, _, rfl, ?_⟩
      refine ⟨_, rfl, M, _, rfl, .inl ⟨SqL.of (s1 _ _ hacc), fun tp htp => ?_⟩⟩
      have s2 := s1.trans (same_new htp (HO.tup acc))
      refine ⟨_, rfl, d, _, _, _, rfl, rfl, s2.seq hds1, rfl, _, _, rfl, rfl, ⟨by decide, by decide⟩, _, _, rfl, rfl, (by show (0 : Int) < _; decide), _, _, rfl, rfl, (by show 5 ≤ sizeLine; decide), fun t ht => ?_⟩
      refine q t (.over wd nm ms (1 + d2 / 6 % 9)) _ ((sm.trans s2).trans (same_new ht _)) (At.tup_mk (SqT.of upd_same) (.cons At.str (.cons At.str (.cons At.str (.cons ?_ (.cons At.int .nil)))))) ⟨⟨by omega, by omega⟩, _, rfl⟩ rfl
      exact (At.tup_mk (SqT.of upd_same) (hA.same s2)).same (same_new ht _)
    · refine ⟨_, rfl, _, rfl, M, _, rfl, .inl ⟨SqL.of hacc, fun tp htp => ?_⟩⟩
      have s2 := same_new htp (HO.tup acc)
      refine ⟨(by show 3 ≤ sizeLine; decide), fun t ht => ?_⟩
      refine q t (.latest nm ms) _ ((sm.trans s2).trans (same_new ht _)) (At.tup_mk (SqT.of upd_same) (.cons At.str (.cons At.str (.cons ?_ .nil)))) ⟨trivial, _, rfl⟩ rfl
      exact (At.tup_mk (SqT.of upd_same) (hA.same s2)).same (same_new ht _)

/-! ### _law_sign -/
abbrev s34 : Stmt := topS 34
theorem sc34 : FnScope ["_law_draw", "_law_left", "_law_right", "_law_sound", "_law_signs"] ["_law_draw", "_law_left", "_law_right", "_law_sound"] (defScope s34) := ⟨rfl, rfl, rfl, by decide +kernel, rfl, by decide +kernel, by decide +kernel⟩

def signL : List Str := ["+", "-", "*", "<", "<=", ">", ">=", "==", "!=", "and", "or", "unless"]
def spSign (K : PySem.W.Frag) (n : Nat) : Sp := fun vs H Q _ => ∃ (d : Int) (l r : V) (el er : Ex) (k1 k2 : Kd), vs = [.int d, l, r, .bl true] ∧ 0 ≤ d ∧ At K H l (encE el) ∧ At K H r (encE er) ∧ ht el ≤ n ∧ ht er ≤ n ∧ kd el = some k1 ∧ kd er = some k2 ∧ ∀ s H', Same H H' → (kdBin s k1 k2).isSome = true → Q (.str s) H'
theorem ok34 {f : Addr} {fd : FuncData} (F : Fun K "_law_sign" "_law_sign" s34 f fd) {n : Nat} {f32 : Addr} {fd32 : FuncData} (G32 : FnOk P w K mg base CX0 (1 + n) f32 fd32 ["_law_expression_here"] (spKind K n)) (k32 : PySem.W.keepIn K (.ref f32) = true) (b32 : Binds K fd32 ["_law_expression_here"] []) (m32 : mg "_law_kind" = some (.ref f32)) (mint : mg "int" = none) : FnOk P w K mg base CX0 (2 + n) f fd ["_law_draw", "_law_left", "_law_right", "_law_sound"] (spSign K n) := by
  rw [show 2 + n = (1 + n) + 1 by omega]
  refine F.ok (k := 1 + n) sc34 (fun vs H Q E h => ?_) (fun cdv A outer s H vs Q E hr h => ?_)
  · obtain ⟨d, l, r, el, er, k1, k2, rfl, _⟩ := h
    rfl
  obtain ⟨d, l, r, el, er, k1, k2, rfl, h0, hl, hr2, t1, t2, e1, e2, q⟩ := h
  refine ⟨_, (pss_cons (ps_set (i := 4) sc34.nd rfl (Or.inl rfl) (pe_lst (pa_cons pe_str (pa_cons pe_str (pa_cons pe_str (pa_cons pe_str (pa_cons pe_str (pa_cons pe_str (pa_cons pe_str (pa_cons pe_str (pa_cons pe_str (pa_cons pe_str (pa_cons pe_str (pa_cons pe_str pa_nil)))))))))))))) (pss_cons (ps_if (pt_not (pt_val (pv 3))) (pss_one (ps_ret (pe_ix ix_list (pv 4) (pe_op op_mod (pe_callTy call_int1 (by rfl) mint boot_int (pa_cons (pv 0) pa_nil)) pe_int) (fun _ _ => rfl)))) pss_nil) (pss_cons (ps_if (PW.pt (pw_and (pt_cmpR op_eq (pe_call G32 hr rfl m32 k32 b32 .nil pass0 (pa_cons (pv 1) pa_nil)) pe_str (nomark _)) (pw_and1 (pt_cmpR op_eq (pe_call G32 hr rfl m32 k32 b32 .nil pass0 (pa_cons (pv 2) pa_nil)) pe_str (nomark _))))) (pss_one (ps_ret (pe_ix ix_list (pv 4) (pe_op op_mod (pe_callTy call_int1 (by rfl) mint boot_int (pa_cons (pv 0) pa_nil)) pe_int) (fun _ _ => rfl)))) pss_nil) (pss_cons (ps_if (PW.pt (pw_or (pt_cmpR op_eq (pe_call G32 hr rfl m32 k32 b32 .nil pass0 (pa_cons (pv 1) pa_nil)) pe_str (nomark _)) (pw_or1 (pt_cmpR op_eq (pe_call G32 hr rfl m32 k32 b32 .nil pass0 (pa_cons (pv 2) pa_nil)) pe_str (nomark _))))) (pss_one (ps_ret (pe_ix ix_list (pv 4) (pe_op op_mod (pe_callTy call_int1 (by rfl) mint boot_int (pa_cons (pv 0) pa_nil)) pe_int) (fun _ _ => rfl)))) pss_nil) (pss_one (ps_ret (pe_ix ix_list (pv 4) (pe_op op_mod (pe_callTy call_int1 (by rfl) mint boot_int (pa_cons (pv 0) pa_nil)) pe_int) (fun _ _ => rfl)))))))), ?_⟩
  refine ⟨(by show 12 ≤ sizeLine; decide), fun p hp => ?_⟩
  have sm := same_new hp (HO.lst (signL.map V.str))
  have hl := hl.same sm
  have hr2 := hr2.same sm
  have hS : SqL K (upd H p (HO.lst (signL.map V.str))) p (signL.map V.str) := SqL.of upd_same
  refine ⟨_, rfl, _, rfl, iteF ?_⟩
  have fin : ∀ (n : Nat) (c : Int) (H2 : Hp), Same (upd H p (HO.lst (signL.map V.str))) H2 → c = (n : Int) → 0 < n → n ≤ 12 → (∀ s ∈ signL.take n, (kdBin s k1 k2).isSome = true) → rIxL K (.ref p) (.int (d % c)) H2 Q := by
    intro n c H2 sm2 hc hn hn2 hk
    subst hc
    obtain ⟨s, es, hs⟩ := strs_take (ds := signL) (i := d % (n : Int)) (n := n) (Int.emod_nonneg _ (by omega)) (Int.emod_lt_of_pos _ (by omega)) hn2
    exact ⟨p, _, _, _, rfl, rfl, sm2.seq hS, es, q s H2 (sm.trans sm2) (hk s hs)⟩
  refine ⟨_, rfl, l, el, k1, rfl, hl, t1, e1, fun H2 sm2 => ⟨rfl, _, rfl, ?_⟩⟩
  have all12 : ∀ {k1 k2 : Kd}, k1 = .vec → k2 = .vec → ∀ s ∈ signL.take 12, (kdBin s k1 k2).isSome = true := by
    rintro k1 k2 rfl rfl s _
    rfl
  have all9 : ∀ {k1 k2 : Kd}, (k1 ≠ .num ∨ k2 ≠ .num) → ∀ s ∈ signL.take 9, (kdBin s k1 k2).isSome = true := by
    intro k1 k2 ne s hs
    have jn : isJn s = false := (by decide +kernel : ∀ s ∈ signL.take 9, isJn s = false) s hs
    unfold kdBin
    cases k1 with
    | num =>
      cases k2 with
      | num => rcases ne with z | z <;> exact absurd rfl z
      | vec => simp [jn]
    | vec =>
      cases k2 with
      | num => simp [jn]
      | vec => rfl
  have all3 : ∀ {k1 k2 : Kd}, k1 = .num → k2 = .num → ∀ s ∈ signL.take 3, (kdBin s k1 k2).isSome = true := by
    rintro k1 k2 rfl rfl s hs
    have ar : isAr s = true := (by decide +kernel : ∀ s ∈ signL.take 3, isAr s = true) s hs
    unfold kdBin
    simp [ar]
  have or2 : ∀ {H2 : Hp} {A : Prop}, True := fun {_ _} => trivial
  cases k1 with
  | num =>
    refine strT (fun _ => ?_) (fun c => absurd rfl c)
    refine ⟨_, rfl, r, er, k2, rfl, hr2.same sm2, t2, e2, fun H3 sm3 => ⟨rfl, _, rfl, ?_⟩⟩
    have sm23 := sm2.trans sm3
    cases k2 with
    | num =>
      refine strT (fun _ => ?_) (fun c => absurd rfl c)
      exact ⟨_, rfl, _, rfl, .inl ⟨_, rfl, _, _, rfl, rfl, (by show (0 : Int) < _; decide), fin 3 3 H3 sm23 rfl (by decide) (by decide) (all3 rfl rfl)⟩⟩
    | vec =>
      refine strT (fun c => absurd c (by decide)) (fun _ => ?_)
      refine ⟨_, rfl, l, el, .num, rfl, hl.same sm23, t1, e1, fun H4 sm4 => ⟨rfl, _, rfl, strT (fun _ => iteT ?_) (fun c => absurd rfl c)⟩⟩
      exact ⟨_, rfl, _, rfl, .inl ⟨_, rfl, _, _, rfl, rfl, (by show (0 : Int) < _; decide), fin 9 9 H4 (sm23.trans sm4) rfl (by decide) (by decide) (all9 (.inr (by simp)))⟩⟩
  | vec =>
    refine strT (fun c => absurd c (by decide)) (fun _ => iteF ?_)
    refine ⟨_, rfl, l, el, .vec, rfl, hl.same sm2, t1, e1, fun H3 sm3 => ⟨rfl, _, rfl, strT (fun c => absurd c (by decide)) (fun _ => ?_)⟩⟩
    have sm23 := sm2.trans sm3
    refine ⟨_, rfl, r, er, k2, rfl, hr2.same sm23, t2, e2, fun H4 sm4 => ⟨rfl, _, rfl, ?_⟩⟩
    have sm24 := sm23.trans sm4
    cases k2 with
    | num =>
      refine strT (fun _ => ?_) (fun c => absurd rfl c)
      exact ⟨_, rfl, _, rfl, .inl ⟨_, rfl, _, _, rfl, rfl, (by show (0 : Int) < _; decide), fin 9 9 H4 sm24 rfl (by decide) (by decide) (all9 (.inl (by simp)))⟩⟩
    | vec =>
      refine strT (fun c => absurd c (by decide)) (fun _ => ?_)
      exact ⟨_, rfl, _, rfl, .inl ⟨_, rfl, _, _, rfl, rfl, (by show (0 : Int) < _; decide), fin 12 12 H4 sm24 rfl (by decide) (by decide) (all12 rfl rfl)⟩⟩
end
end L2.Q9


set_option Elab.async false
set_option linter.all false
set_option maxRecDepth 100000
set_option maxHeartbeats 4000000
/-! Q9: expressions. -/
namespace L2.Q9
open PySem PySem.Spec PyProof.Rows


theorem rg5 : ∀ m : Fin 11, (5 : Int) ≠ 0 ∧ (5 : Int).natAbs < 1073741824 ∧ Builtin.Range.small 0 (((5 * m.val : Nat) : Int) - 4) 5 = true ∧ Builtin.Range.rangeSize 0 (((5 * m.val : Nat) : Int) - 4) 5 = (m.val : Int) := by decide
theorem rg5' {m : Nat} (h : m ≤ 10) : RgC 0 (((5 * m : Nat) : Int) - 4) 5 m := rg5 ⟨m, by omega⟩
def tot (es : List Ex) : Nat := (es.map sz).sum
theorem tot_snoc (es : List Ex) (e : Ex) : tot (es ++ [e]) = tot es + sz e := by
  unfold tot
  rw [List.map_append, List.sum_append]
  simp
def Gds (es : List Ex) : Prop := ∀ e ∈ es, Gd e
theorem Gds.snoc {es : List Ex} {e : Ex} (h : Gds es) (he : Gd e) : Gds (es ++ [e]) := fun x hx => by
  rcases List.mem_append.mp hx with hx | hx
  · exact h x hx
  · have : x = e := by simpa using hx
    subst this
    exact he
theorem Gds.pop {es : List Ex} {e : Ex} (h : Gds (es ++ [e])) : Gds es ∧ Gd e := ⟨fun x hx => h x (List.mem_append_left _ hx), h e (by simp)⟩
/-- the rows: expressions -/
def RowsAt (K : PySem.W.Frag) (H : Hp) (r : Addr) (es : List Ex) : Prop := ∃ vs, H r = some (.lst vs) ∧ AtAll K H vs (es.map encE)
theorem RowsAt.same {K : PySem.W.Frag} {H H' : Hp} {r : Addr} {es : List Ex} (h : RowsAt K H r es) (s : Same H H') : RowsAt K H' r es := by
  obtain ⟨vs, h1, h2⟩ := h
  exact ⟨vs, s _ _ h1, h2.same s⟩
theorem AtAll.split {K : PySem.W.Frag} {H : Hp} : ∀ {es : List PyData} {d : PyData} {vs : List V}, AtAll K H vs (es ++ [d]) → ∃ us y, vs = us ++ [y] ∧ AtAll K H us es ∧ At K H y d
  | [], d, vs, h => by
    cases h with
    | cons h t =>
      cases t
      exact ⟨[], _, rfl, .nil, h⟩
  | e :: es, d, vs, h => by
    cases h with
    | cons h t =>
      obtain ⟨us, y, rfl, h1, h2⟩ := AtAll.split (es := es) t
      exact ⟨_ :: us, y, rfl, .cons h h1, h2⟩
/-- the last row -/
theorem RowsAt.last {K : PySem.W.Frag} {H : Hp} {r : Addr} {es : List Ex} {e : Ex} (h : RowsAt K H r (es ++ [e])) : ∃ us y, H r = some (.lst (us ++ [y])) ∧ At K H y (encE e) ∧ (us ++ [y])[(us ++ [y]).length - 1]? = some y ∧ RowsAt K (upd H r (.lst (us ++ [y]).dropLast)) r es ∧ Kt H (upd H r (.lst (us ++ [y]).dropLast)) := by
  obtain ⟨vs, h1, h2⟩ := h
  rw [List.map_append] at h2
  obtain ⟨us, y, rfl, h3, h4⟩ := AtAll.split h2
  refine ⟨us, y, h1, h4, by simp, ⟨us, ?_, h3.keep ?_⟩, Kt.lst h1⟩
  · rw [upd_same, List.dropLast_concat]
  · exact Kt.lst h1
theorem RowsAt.push {K : PySem.W.Frag} {H : Hp} {r : Addr} {es : List Ex} {e : Ex} {y : V} {vs : List V} (h1 : H r = some (.lst vs)) (h2 : AtAll K H vs (es.map encE)) (hy : At K H y (encE e)) : RowsAt K (upd H r (.lst (vs ++ [y]))) r (es ++ [e]) := by
  refine ⟨vs ++ [y], upd_same, ?_⟩
  rw [List.map_append]
  exact atAll_snoc h2 hy h1
theorem last_at {us : List V} {y : V} : atI (us ++ [y]) (-1) = some y := by
  unfold atI ixN
  rw [if_neg (by decide), if_pos (by rw [List.length_append, List.length_singleton]; omega)]
  show (us ++ [y])[((-1 : Int) + ((us ++ [y]).length : Int)).toNat]? = some y
  rw [show ((-1 : Int) + ((us ++ [y]).length : Int)).toNat = us.length by rw [List.length_append, List.length_singleton]; omega]
  simp
theorem snoc_of {α : Type} {l : List α} (h : 0 < l.length) : ∃ i x, l = i ++ [x] := ⟨l.dropLast, l.getLast (List.ne_nil_of_length_pos h), (List.dropLast_concat_getLast _).symm⟩
theorem Gd.bin {s : Str} {l r : Ex} {k1 k2 : Kd} (h1 : Gd l) (h2 : Gd r) (e1 : Q9.kd l = some k1) (e2 : Q9.kd r = some k2) (h : (kdBin s k1 k2).isSome = true) : Gd (.bin s l r) := by
  refine ⟨⟨h1.ok, h2.ok⟩, ?_⟩
  rw [Q9.kd, e1, e2]
  exact Option.isSome_iff_exists.mp h
theorem Gd.agg {wd : Str} {ns : List Str} {e : Ex} (h : Gd e) (hk : Q9.kd e = some .vec) (hw : wd ∈ (["sum", "min", "max", "count"] : List Str)) : Gd (.agg wd ns e) := by
  refine ⟨⟨hw, h.ok⟩, .vec, ?_⟩
  rw [Q9.kd, hk]
theorem Gd.num {n : Int} (h : n.natAbs < 2 ^ 60) : Gd (.num n) := ⟨h, _, rfl⟩
def isNum : Ex → Bool
  | .num _ => true
  | _ => false
def headS : Ex → Str
  | .num _ => "number"
  | .latest _ _ => "latest"
  | .over _ _ _ _ => "over"
  | .agg _ _ _ => "aggregate"
  | .bin _ _ _ => "binary"
theorem At.headE {K : PySem.W.Frag} {H : Hp} {v : V} : ∀ {e : Ex}, At K H v (encE e) → ∃ a x, v = .ref a ∧ SqT K H a (.str (headS e) :: x)
  | .num m, h => by
    obtain ⟨a, x, y, rfl, hS, hx, hy⟩ := (show At K H v (.tuple [.str "number", .int m]) from h).pair
    rw [hx.str_eq] at hS
    exact ⟨a, _, rfl, hS⟩
  | .latest m ms, h => by
    obtain ⟨a, x, y, z, rfl, hS, hx, hy, hz⟩ := (show At K H v (.tuple [.str "latest", .str m, .tuple (ms.map encM)]) from h).three
    rw [hx.str_eq] at hS
    exact ⟨a, _, rfl, hS⟩
  | .over wd m ms sp, h => by
    obtain ⟨a, x, y, z, u, t, rfl, hS, hx, _⟩ := (show At K H v (.tuple [.str "over", .str wd, .str m, .tuple (ms.map encM), .int sp]) from h).five
    rw [hx.str_eq] at hS
    exact ⟨a, _, rfl, hS⟩
  | .agg wd ns e, h => by
    obtain ⟨a, x, y, z, u, rfl, hS, hx, _⟩ := (show At K H v (.tuple [.str "aggregate", .str wd, .tuple (ns.map .str), encE e]) from h).four
    rw [hx.str_eq] at hS
    exact ⟨a, _, rfl, hS⟩
  | .bin s l r, h => by
    obtain ⟨a, x, y, z, u, rfl, hS, hx, _⟩ := (show At K H v (.tuple [.str "binary", .str s, encE l, encE r]) from h).four
    rw [hx.str_eq] at hS
    exact ⟨a, _, rfl, hS⟩
theorem cut5 {ds : List Int} {i m : Nat} (hi : i < m) (hl : ds.length = 5 * m) : ∃ c0 c1 c2 c3 c4, cutV (ds.map V.int) (some (0 + (i : Nat) * 5)) (some (0 + (i : Nat) * 5 + 5)) = [c0, c1, c2, c3, c4].map V.int ∧ ∀ d ∈ [c0, c1, c2, c3, c4], d ∈ ds := by
  have e : cutV (ds.map V.int) (some (0 + (i : Nat) * 5)) (some (0 + (i : Nat) * 5 + 5)) = ((ds.drop (5 * i)).take 5).map V.int := by
    unfold cutV HT.sIx
    simp only [List.length_map, hl]
    rw [if_neg (by omega), if_neg (by omega)]
    rw [show min ((0 : Int) + (i : Nat) * 5).toNat (5 * m) = 5 * i by omega, show min ((0 : Int) + (i : Nat) * 5 + 5).toNat (5 * m) - 5 * i = 5 by omega]
    rw [← List.map_drop, ← List.map_take]
  have len : ((ds.drop (5 * i)).take 5).length = 5 := by
    rw [List.length_take, List.length_drop]
    omega
  have mem : ∀ d ∈ (ds.drop (5 * i)).take 5, d ∈ ds := fun d hd => List.mem_of_mem_drop (List.mem_of_mem_take hd)
  rw [e]
  generalize (ds.drop (5 * i)).take 5 = l at len mem
  match l, len with
  | [a, b, c, d, e], _ => exact ⟨a, b, c, d, e, rfl, mem⟩
theorem iteAndS {c : Bool} {A : Prop} {X : Hp → Prop} {H1 : Hp} (h : ∀ H2, Same H1 H2 → X H2) (k : c = true → (∀ H2, Same H1 H2 → X H2) → A) : if c = true then A else X H1 := by
  cases c with
  | true => exact k rfl h
  | false => exact h _ (Same.refl H1)
theorem unF {A B : Prop} (h : if false = true then A else B) : B := by
  rwa [if_neg Bool.false_ne_true] at h
theorem seq_mid {a b : TS} {D : Ends} {σ : St} {H : Hp} (I : St → Hp → Prop) (ha : ∀ D' : Ends, (∀ σ H, I σ H → D'.nx σ H) → a D' σ H) (hb : ∀ σ H, I σ H → b D σ H) : tSeq a b D σ H := ha { D with nx := b D } hb
theorem tot_len (es : List Ex) : es.length ≤ tot es := by
  induction es using snoc_ind with
  | h0 => exact Nat.zero_le _
  | hs es e ih =>
    rw [tot_snoc, List.length_append, List.length_singleton]
    have := sz_pos e
    omega
/-- a leaf was drawn -/
def LfInv (K : PySem.W.Frag) (d n u r pt : Addr) (H3 : Hp) (σ : St) (H4 : Hp) : Prop := ∃ (v : V) (e : Ex), (∃ (sel ops : Int) (y7 y9 y10 y11 y12 y14 : Option V), σ = [some (.ref d), some (.ref n), some (.ref u), some (.bl true), some (.ref r), some (.int sel), some (.int ops), y7, some (.ref pt), y9, y10, y11, y12, some v, y14] ∧ 0 ≤ ops) ∧ Same H3 H4 ∧ At K H4 v (encE e) ∧ Gd e ∧ sz e = 1
/-- the builder's state -/
def ExInv (K : PySem.W.Frag) (H : Hp) (d n u r : Addr) (σ : St) (H' : Hp) (es : List Ex) : Prop := (∃ (sel ops : Int) (y7 y8 y9 y10 y11 y12 y13 y14 : Option V), σ = [some (.ref d), some (.ref n), some (.ref u), some (.bl true), some (.ref r), some (.int sel), some (.int ops), y7, y8, y9, y10, y11, y12, y13, y14] ∧ 0 ≤ ops) ∧ Same H H' ∧ H r = none ∧ RowsAt K H' r es ∧ Gds es
section
variable {P : Program} {w : World} {K : PySem.W.Frag} {mg : Str → Option Value} {base : Heap}

/-! ### _law_expression -/
abbrev s35 : Stmt := topS 35
theorem sc35 : FnScope ["_law_draws_here", "_law_names_here", "_law_worths_here", "_law_sound", "_law_rows", "_law_selectors", "_law_operators", "_law_k", "_law_part", "_law_right", "_law_left", "_law_inner", "_law_some", "_law_leaf_here", "_law_j"] ["_law_draws_here", "_law_names_here", "_law_worths_here", "_law_sound"] (defScope s35) := ⟨rfl, rfl, rfl, by decide +kernel, rfl, by decide +kernel, by decide +kernel⟩

def spExpr (K : PySem.W.Frag) : Sp := fun vs H Q _ => ∃ (d n u : Addr) (ds : List Int) (ns ws : List Str) (m : Nat), vs = [.ref d, .ref n, .ref u, .bl true] ∧ SqL K H d (ds.map V.int) ∧ Dr ds ∧ ds.length = 5 * m ∧ m ≤ 10 ∧ SqL K H n (ns.map V.str) ∧ ns ≠ [] ∧ StrsAt H u ws ∧ ws ≠ [] ∧ ws.length ≤ 100 ∧ ∀ v e H', Same H H' → At K H' v (encE e) → Gd e → sz e ≤ 20 → Q v H'
theorem ok35 {f : Addr} {fd : FuncData} (F : Fun K "_law_expression" "_law_expression" s35 f fd) {f34 : Addr} {fd34 : FuncData} (G34 : FnOk P w K mg base CX0 22 f34 fd34 ["_law_draw", "_law_left", "_law_right", "_law_sound"] (spSign K 20)) (k34 : PySem.W.keepIn K (.ref f34) = true) (b34 : Binds K fd34 ["_law_draw", "_law_left", "_law_right", "_law_sound"] []) (m34 : mg "_law_sign" = some (.ref f34))
    {f32 : Addr} {fd32 : FuncData} (G32 : FnOk P w K mg base CX0 21 f32 fd32 ["_law_expression_here"] (spKind K 20)) (k32 : PySem.W.keepIn K (.ref f32) = true) (b32 : Binds K fd32 ["_law_expression_here"] []) (m32 : mg "_law_kind" = some (.ref f32)) {f33 : Addr} {fd33 : FuncData} (G33 : FnOk P w K mg base CX0 2 f33 fd33 ["_law_draws_here", "_law_names_here", "_law_worths_here"] (spLeaf K)) (k33 : PySem.W.keepIn K (.ref f33) = true) (b33 : Binds K fd33 ["_law_draws_here", "_law_names_here", "_law_worths_here"] []) (m33 : mg "_law_leaf" = some (.ref f33)) (ml : mg "len" = none) (mr : mg "range" = none) (mt : mg "tuple" = none) : FnOk P w K mg base CX0 23 f fd ["_law_draws_here", "_law_names_here", "_law_worths_here", "_law_sound"] (spExpr K) := by
  refine F.ok sc35 (fun vs H Q E h => ?_) (fun cdv A outer s H vs Q E hr h => ?_)
  · obtain ⟨d, n, u, ds, ns, ws, m, rfl, _⟩ := h
    rfl
  obtain ⟨d, n, u, ds, ns, ws, m, rfl, hds, hd, hdl, hm, hns, hn0, hws, hw0, hwl, q⟩ := h
  have hrK := hr.mono (show 21 ≤ 22 by decide)
  have hrL := hr.mono (show 2 ≤ 22 by decide)
  refine ⟨_, (pss_cons (ps_set (i := 4) sc35.nd rfl (Or.inl rfl) (pe_lst pa_nil)) (pss_cons (ps_set (i := 5) sc35.nd rfl (Or.inl rfl) pe_int) (pss_cons (ps_set (i := 6) sc35.nd rfl (Or.inl rfl) pe_int) (pss_cons (ps_for PassesOwn.never rfl (pi_range3 (by rfl) mr (pa_cons pe_int (pa_cons (pe_op op_sub (pe_callB call_len_seq (by rfl) ml boot_len (pa_cons (pv 0) pa_nil)) pe_int) (pa_cons pe_int pa_nil)))) (pg_name (i := 7) sc35.nd rfl (Or.inl rfl)) (pss_cons (ps_set (i := 8) sc35.nd rfl (Or.inr rfl) (pe_slice sl_list (pv 0) (po_some (pv 7)) (po_some (pe_op op_add (pv 7) pe_int)))) (pss_one (ps_if (PW.pt (pw_and (pt_cmpR op_eq (pe_op op_mod (pe_ix ix_list (pv 8) pe_int (fun _ _ => rfl)) pe_int) pe_int (nomark _)) (pw_and (pt_cmpR op_gt (pe_callB call_len_seq (by rfl) ml boot_len (pa_cons (pv 4) pa_nil)) pe_int (nomark _)) (pw_and1 (pt_cmpR op_lt (pv 6) pe_int (nomark _)))))) (pss_cons (ps_set (i := 9) sc35.nd rfl (Or.inl rfl) (pe_bm0 PySem.F.plainAttrs_list PySem.F.slot_list_pop PySem.F.type_list_pop mt_pop (pv 4))) (pss_cons (ps_set (i := 10) sc35.nd rfl (Or.inl rfl) (pe_bm0 PySem.F.plainAttrs_list PySem.F.slot_list_pop PySem.F.type_list_pop mt_pop (pv 4))) (pss_cons (ps_expr (pe_bm PySem.F.plainAttrs_list PySem.F.slot_list_append PySem.F.type_list_append mt_append (pv 4) (pa_cons (pe_tup (pa_cons pe_str (pa_cons (pe_call G34 hr rfl m34 k34 b34 .nil pass0 (pa_cons (pe_ix ix_list (pv 8) pe_int (fun _ _ => rfl)) (pa_cons (pv 10) (pa_cons (pv 9) (pa_cons (pv 3) pa_nil))))) (pa_cons (pv 10) (pa_cons (pv 9) pa_nil))))) pa_nil))) (pss_one (ps_set (i := 6) sc35.nd rfl (Or.inl rfl) (pe_op op_add (pv 6) pe_int)))))) (pss_one (ps_if (PW.pt (pw_and (pt_cmpR op_eq (pe_op op_mod (pe_ix ix_list (pv 8) pe_int (fun _ _ => rfl)) pe_int) pe_int (nomark _)) (pw_and (pt_truth (pv 4) (fun _ => rfl)) (pw_and (pt_cmpR op_lt (pv 6) pe_int (nomark _)) (pw_and1 (PW.pt (pw_or (pt_cmpR op_eq (pe_call G32 hrK rfl m32 k32 b32 .nil pass0 (pa_cons (pe_ix ix_list (pv 4) (pe_un un_neg pe_int) (fun _ _ => rfl)) pa_nil)) pe_str (nomark _)) (pw_or1 (pt_not (pt_val (pv 3))))))))))) (pss_cons (ps_set (i := 11) sc35.nd rfl (Or.inl rfl) (pe_bm0 PySem.F.plainAttrs_list PySem.F.slot_list_pop PySem.F.type_list_pop mt_pop (pv 4))) (pss_cons (ps_setLc (i := 12) (own := [("_law_j", 14)]) (g := gName 14) (by rfl) sc35.nd rfl rfl (sw_true rfl rfl rfl (by decide +kernel)) (pi_range1 (by rfl) mr (pa_cons (pe_op op_mod (pe_ix ix_list (pv 8) pe_int (fun _ _ => rfl)) pe_int) pa_nil)) (blkOk_by (own := [("_law_j", 14)]) (N := ["_law_draws_here", "_law_names_here", "_law_worths_here", "_law_sound", "_law_rows", "_law_selectors", "_law_operators", "_law_k", "_law_part", "_law_right", "_law_left", "_law_inner", "_law_some", "_law_leaf_here", "_law_j"]) (sc := defScope s35) (by decide +kernel)) (fun _ _ _ _ _ => pg_name (i := 14) sc35.nd rfl (Or.inl rfl)) (fun _ _ _ _ _ => pts_nil) (fun _ _ _ _ _ => (pe_ix (r := rIxL K) ix_list (pv 1) (pe_op (r := rI (fun _ j => 0 < j) fun i j => .int (i % j)) op_mod (pe_op (r := rI0 fun i j => .int (i + j)) op_add (pe_ix (r := rIxL K) ix_list (pv 8) pe_int (fun _ _ => rfl)) (pv 14)) (pe_callB (r := fun xs H Q => ∃ p ys, xs = [.ref p] ∧ (SqL K H p ys ∨ SqT K H p ys) ∧ Q (.int ys.length) H) call_len_seq (by rfl) ml boot_len (pa_cons (pv 1) pa_nil))) (fun _ _ => rfl)))) (pss_cons (ps_expr (pe_bm PySem.F.plainAttrs_list PySem.F.slot_list_append PySem.F.type_list_append mt_append (pv 4) (pa_cons (pe_tup (pa_cons pe_str (pa_cons (pe_ix ix_list (pe_lst (pa_cons pe_str (pa_cons pe_str (pa_cons pe_str (pa_cons pe_str pa_nil))))) (pe_op op_mod (pe_ix ix_list (pv 8) pe_int (fun _ _ => rfl)) pe_int) (fun _ _ => rfl)) (pa_cons (pe_callTy call_tuple_of (by rfl) mt boot_tuple (pa_cons (pv 12) pa_nil)) (pa_cons (pv 11) pa_nil))))) pa_nil))) (pss_one (ps_set (i := 6) sc35.nd rfl (Or.inl rfl) (pe_op op_add (pv 6) pe_int)))))) (pss_one (ps_if (pt_cmpR op_lt (pe_callB call_len_seq (by rfl) ml boot_len (pa_cons (pv 4) pa_nil)) pe_int (nomark _)) (pss_cons (ps_set (i := 13) sc35.nd rfl (Or.inl rfl) (pe_call G33 hrL rfl m33 k33 b33 .nil pass0 (pa_cons (pv 8) (pa_cons (pv 1) (pa_cons (pv 2) pa_nil))))) (pss_cons (ps_if (PW.pt (pw_and (pt_cmpR op_ne (pe_ix ix_tup (pv 13) pe_int (fun _ _ => rfl)) pe_str (nomark _)) (pw_and1 (pt_cmpR op_eq (pv 5) pe_int (nomark _))))) (pss_one (ps_set (i := 13) sc35.nd rfl (Or.inl rfl) (pe_tup (pa_cons pe_str (pa_cons (pe_ix ix_list (pv 8) pe_int (fun _ _ => rfl)) pa_nil))))) pss_nil) (pss_cons (ps_if (pt_cmpR op_ne (pe_ix ix_tup (pv 13) pe_int (fun _ _ => rfl)) pe_str (nomark _)) (pss_one (ps_set (i := 5) sc35.nd rfl (Or.inl rfl) (pe_op op_add (pv 5) pe_int))) pss_nil) (pss_one (ps_expr (pe_bm PySem.F.plainAttrs_list PySem.F.slot_list_append PySem.F.type_list_append mt_append (pv 4) (pa_cons (pv 13) pa_nil))))))) pss_nil)))))))) (pss_cons (ps_while PassesOwn.never (PW.pt (pw_and (pt_cmpR op_gt (pe_callB call_len_seq (by rfl) ml boot_len (pa_cons (pv 4) pa_nil)) pe_int (nomark _)) (pw_and1 (pt_cmpR op_lt (pv 6) pe_int (nomark _))))) (pss_cons (ps_set (i := 9) sc35.nd rfl (Or.inl rfl) (pe_bm0 PySem.F.plainAttrs_list PySem.F.slot_list_pop PySem.F.type_list_pop mt_pop (pv 4))) (pss_cons (ps_set (i := 10) sc35.nd rfl (Or.inl rfl) (pe_bm0 PySem.F.plainAttrs_list PySem.F.slot_list_pop PySem.F.type_list_pop mt_pop (pv 4))) (pss_cons (ps_expr (pe_bm PySem.F.plainAttrs_list PySem.F.slot_list_append PySem.F.type_list_append mt_append (pv 4) (pa_cons (pe_tup (pa_cons pe_str (pa_cons (pe_call G34 hr rfl m34 k34 b34 .nil pass0 (pa_cons (pe_op op_add (pv 6) (pe_callB call_len_seq (by rfl) ml boot_len (pa_cons (pv 0) pa_nil))) (pa_cons (pv 10) (pa_cons (pv 9) (pa_cons (pv 3) pa_nil))))) (pa_cons (pv 10) (pa_cons (pv 9) pa_nil))))) pa_nil))) (pss_one (ps_set (i := 6) sc35.nd rfl (Or.inl rfl) (pe_op op_add (pv 6) pe_int))))))) (pss_cons (ps_if (pt_not (pt_truth (pv 4) (fun _ => rfl))) (pss_one (ps_ret (pe_tup (pa_cons pe_str (pa_cons pe_int pa_nil))))) pss_nil) (pss_one (ps_ret (pe_ix ix_list (pv 4) (pe_un un_neg pe_int) (fun _ _ => rfl)))))))))), ?_⟩
  have np : 0 < ns.length := List.length_pos_iff.mpr hn0
  refine ⟨Nat.zero_le _, fun r hrn => ?_⟩
  have sm0 := same_new hrn (HO.lst [])
  refine ⟨_, rfl, d, _, rfl, .inl (sm0.seq hds), _, _, rfl, rfl, 0, _, 5, m, rfl, ?_, ?_⟩
  · rw [List.length_map, hdl]
    exact rg5' hm
  refine for_rangeC (fun i σ H' => (0 ≤ (0 : Int)) ∧ ∃ es, ExInv K H d n u r σ H' es ∧ tot es ≤ i) ⟨Int.le_refl _, [], ⟨⟨0, 0, none, none, none, none, none, none, none, none, rfl, Int.le_refl _⟩, sm0, hrn, ⟨[], upd_same, .nil⟩, fun _ h => absurd h (by simp)⟩, Nat.le_refl _⟩ (fun i σ H' hi p => ?_) (fun σ H' p => ?_)
  · obtain ⟨_, es, ⟨⟨sel, ops, y7, y8, y9, y10, y11, y12, y13, y14, rfl, hops⟩, sm, _, hrow, hg⟩, htot⟩ := p
    have htl := tot_len es
    -- the part
    refine ⟨_, rfl, _, rfl, _, rfl, _, rfl, _, _, rfl, rfl, _, rfl, d, _, rfl, sm.seq hds, fun pt hpt => ?_⟩
    obtain ⟨c0, c1, c2, c3, c4, ec, mem⟩ := cut5 hi hdl
    rw [ec]
    have smp := same_new hpt (HO.lst ([c0, c1, c2, c3, c4].map V.int))
    have smb := sm.trans smp
    have hrow := hrow.same smp
    have npr : pt ≠ r := fun e => by
      obtain ⟨vs, h1, _⟩ := hrow
      rw [e] at hpt
      obtain ⟨vs0, h0, _⟩ := id (‹RowsAt K H' r es›)
      rw [hpt] at h0
      cases h0
    have hp : upd H' pt (HO.lst ([c0, c1, c2, c3, c4].map V.int)) pt = some (.lst ([c0, c1, c2, c3, c4].map V.int)) := upd_same
    clear smp
    generalize upd H' pt (HO.lst ([c0, c1, c2, c3, c4].map V.int)) = Hb at smb hrow hp
    have hpq : SqL K Hb pt [.int c0, .int c1, .int c2, .int c3, .int c4] := SqL.of hp
    obtain ⟨rvs, hrv, hrA⟩ := id hrow
    have rl := hrA.mlen
    refine ⟨_, rfl, pt, _, _, .int c4, rfl, rfl, hpq, rfl, _, _, rfl, rfl, (by show (0 : Int) < _; decide), rfl, _, rfl, iteAnd (iteF ?_) (fun _ rest => ?_)⟩
    rotate_left
    · refine ⟨_, rfl, r, _, rfl, .inl (SqL.of hrv), _, _, rfl, rfl, _, rfl, iteAnd rest (fun cl rest => ?_)⟩
      refine ⟨_, rfl, _, _, rfl, rfl, _, rfl, iteB (fun _ => ?_) (fun _ => unF rest)⟩
      clear rest
      have len1 : 1 < es.length := by
        have := of_decide_eq_true cl
        omega
      obtain ⟨es1, er, rfl⟩ := snoc_of (l := es) (by omega)
      obtain ⟨es2, el, rfl⟩ := snoc_of (l := es1) (by rw [List.length_append, List.length_singleton] at len1; omega)
      obtain ⟨hg1, gr⟩ := hg.pop
      obtain ⟨hg2, gl⟩ := hg1.pop
      obtain ⟨k2, ek2⟩ := gr.kd
      obtain ⟨k1, ek1⟩ := gl.kd
      rw [tot_snoc, tot_snoc] at htot
      have t1 := ht_sz el
      have t2 := ht_sz er
      obtain ⟨us1, y, hr1, hy, hy2, hrow1, kt1⟩ := hrow.last
      refine ⟨_, rfl, .inl ⟨rfl, _, SqL.of hr1⟩, r, _, y, rfl, rfl, hr1, hy2, ?_⟩
      have sm1 : Same H (upd Hb r (.lst (us1 ++ [y]).dropLast)) := Same.mut smb hrn
      have hy1 := hy.keep kt1
      have hp1 : upd Hb r (.lst (us1 ++ [y]).dropLast) pt = some (.lst ([c0, c1, c2, c3, c4].map V.int)) := by rw [upd_ne npr]; exact hp
      generalize upd Hb r (.lst (us1 ++ [y]).dropLast) = Hc at sm1 hy1 hrow1 hp1
      obtain ⟨us2, x, hr2, hx, hx2, hrow2, kt2⟩ := hrow1.last
      refine ⟨_, rfl, .inl ⟨rfl, _, SqL.of hr2⟩, r, _, x, rfl, rfl, hr2, hx2, ?_⟩
      have sm2 : Same H (upd Hc r (.lst (us2 ++ [x]).dropLast)) := Same.mut sm1 hrn
      have hx1 := hx.keep kt2
      have hy2 := hy1.keep kt2
      have hp2 : upd Hc r (.lst (us2 ++ [x]).dropLast) pt = some (.lst ([c0, c1, c2, c3, c4].map V.int)) := by rw [upd_ne npr]; exact hp1
      generalize upd Hc r (.lst (us2 ++ [x]).dropLast) = Hd at sm2 hx1 hy2 hrow2 hp2
      obtain ⟨vs2, hr3, hA3⟩ := hrow2
      refine ⟨_, rfl, .inl ⟨rfl, _, SqL.of hr3⟩, ?_⟩
      refine ⟨_, rfl, pt, _, _, .int c0, rfl, rfl, SqL.of hp2, rfl, _, rfl, _, rfl, _, rfl, c0, x, y, el, er, k1, k2, rfl, (hd c0 (mem c0 (by simp))).1, hx1, hy2, by omega, by omega, ek1, ek2, fun sg He sm4 hk => ?_⟩
      refine ⟨_, rfl, _, rfl, (by show 4 ≤ sizeLine; decide), fun t ht => ?_⟩
      have sm5 := sm4.trans (same_new ht (HO.tup [.str "binary", .str sg, x, y]))
      have hb : At K (upd He t (HO.tup [.str "binary", .str sg, x, y])) (.ref t) (encE (.bin sg el er)) := At.tup_mk (SqT.of upd_same) (.cons At.str (.cons At.str (.cons (hx1.same sm5) (.cons (hy2.same sm5) .nil))))
      refine ⟨r, vs2, _, rfl, rfl, sm5 _ _ hr3, ?_, ?_⟩
      · rw [hA3.mlen]
        have := tot_len es2
        exact few63 (by omega)
      refine ⟨_, rfl, _, _, rfl, rfl, ?_⟩
      refine ⟨Int.le_refl _, es2 ++ [.bin sg el er], ⟨⟨_, _, _, _, _, _, _, _, _, _, rfl, by omega⟩, Same.mut (sm2.trans sm5) hrn, hrn, RowsAt.push (sm5 _ _ hr3) (hA3.same sm5) hb, hg2.snoc (Gd.bin gl gr ek1 ek2 hk)⟩, ?_⟩
      rw [tot_snoc, sz]
      omega
    -- aggregate?
    refine ⟨_, rfl, pt, _, _, .int c4, rfl, rfl, hpq, rfl, _, _, rfl, rfl, (by show (0 : Int) < _; decide), rfl, _, rfl, iteAndS (fun H2 sm2 => iteF ?_) (fun _ rest => ?_)⟩
    rotate_left
    · refine ⟨_, rfl, _, .inl ⟨_, SqL.of hrv, rfl⟩, iteAndS rest (fun cl rest => ?_)⟩
      refine ⟨_, rfl, _, _, rfl, rfl, _, rfl, iteAndS rest (fun _ rest => ?_)⟩
      have len1 : 0 < es.length := by
        cases rvs with
        | nil => cases cl
        | cons _ _ => rw [← rl]; simp
      obtain ⟨es1, er, rfl⟩ := snoc_of (l := es) len1
      obtain ⟨hg1, gr⟩ := hg.pop
      obtain ⟨k, ek⟩ := gr.kd
      rw [tot_snoc] at htot
      have t2 := ht_sz er
      obtain ⟨us1, y, hr1, hy, hy2, hrow1, kt1⟩ := hrow.last
      refine ⟨_, rfl, 1, rfl, r, _, _, _, rfl, rfl, SqL.of hr1, last_at, y, er, k, rfl, hy, by omega, ek, fun H2 sm2 => ⟨rfl, _, rfl, ?_⟩⟩
      cases k with
      | num =>
        refine strT (fun c => absurd c (by decide)) (fun _ => ?_)
        exact ⟨_, rfl, _, rfl, rest H2 sm2⟩
      | vec =>
        refine strT (fun _ => iteT ?_) (fun c => absurd rfl c)
        clear rest
        have smb := smb.trans sm2
        have hp := sm2 _ _ hp
        have hrow := hrow.same sm2
        obtain ⟨us1, y, hr1, hy, hy2, hrow1, kt1⟩ := hrow.last
        refine ⟨_, rfl, .inl ⟨rfl, _, SqL.of hr1⟩, r, _, y, rfl, rfl, hr1, hy2, ?_⟩
        have sm1 : Same H (upd H2 r (.lst (us1 ++ [y]).dropLast)) := Same.mut smb hrn
        have hy1 := hy.keep kt1
        have hp1 : upd H2 r (.lst (us1 ++ [y]).dropLast) pt = some (.lst ([c0, c1, c2, c3, c4].map V.int)) := by rw [upd_ne npr]; exact hp
        generalize upd H2 r (.lst (us1 ++ [y]).dropLast) = Hc at sm1 hy1 hrow1 hp1
        have hp1q : SqL K Hc pt [.int c0, .int c1, .int c2, .int c3, .int c4] := SqL.of hp1
        have b2 := hd c2 (mem c2 (by simp))
        refine ⟨_, rfl, pt, _, _, .int c2, rfl, rfl, hp1q, rfl, _, _, rfl, rfl, (by show (0 : Int) < _; decide), c2 % 3, rfl, by omega, by omega, fun D hD => ?_⟩
        refine lc_range (fun j H' => Same Hc H' ∧ ∃ acc : List Str, H' D = some (.lst (acc.map V.str)) ∧ acc.length = j) ⟨same_new hD _, [], upd_same, rfl⟩ (fun j H' hj pj => ?_) (fun H' pj => ?_)
        · obtain ⟨smj, acc, hacc, hl⟩ := pj
          obtain ⟨nm, en⟩ := strs_mod np (c1 + (0 + (j : Int)))
          have hnsj := (sm1.trans smj).seq hns
          refine ⟨rfl, _, rfl, _, rfl, pt, _, _, .int c1, rfl, rfl, smj.seq hp1q, rfl, _, rfl, _, _, rfl, rfl, _, rfl, n, _, rfl, .inl hnsj, _, _, rfl, rfl, posl np, n, _, _, .str nm, rfl, rfl, hnsj, en, ?_⟩
          refine ⟨_, hacc, by rw [List.length_map]; exact few63 (by omega), Same.mut smj hD, acc ++ [nm], ?_, by rw [List.length_append, hl]; rfl⟩
          rw [upd_same, List.map_append]
          rfl
        · obtain ⟨smj, acc, hacc, _⟩ := pj
          have hrow2 := hrow1.same smj
          obtain ⟨vs2, hr3, hA3⟩ := hrow2
          have hpj := smj.seq hp1q
          have hyj := hy1.same smj
          refine ⟨_, rfl, .inl ⟨rfl, _, SqL.of hr3⟩, (by show 4 ≤ sizeLine; decide), fun wl hwl2 => ?_⟩
          have s1 := same_new hwl2 (HO.lst (List.map V.str ["sum", "min", "max", "count"]))
          have hw1 : SqL K (upd H' wl (HO.lst (List.map V.str ["sum", "min", "max", "count"]))) wl (List.map V.str ["sum", "min", "max", "count"]) := SqL.of upd_same
          obtain ⟨wd, ew, hwd⟩ := strs_ex (ds := ["sum", "min", "max", "count"]) (i := c0 % 4) (by omega) (by show c0 % 4 < 4; omega)
          refine ⟨_, rfl, pt, _, _, .int c0, rfl, rfl, s1.seq hpj, rfl, _, _, rfl, rfl, (by show (0 : Int) < _; decide), wl, _, _, .str wd, rfl, rfl, hw1, ew, ?_⟩
          refine ⟨_, rfl, D, _, rfl, .inl ⟨SqL.of (s1 _ _ hacc), fun tp htp => ?_⟩⟩
          have s2 := s1.trans (same_new htp (HO.tup (acc.map V.str)))
          refine ⟨_, rfl, (by show 4 ≤ sizeLine; decide), fun t ht => ?_⟩
          have s3 := s2.trans (same_new ht (HO.tup [.str "aggregate", .str wd, .ref tp, y]))
          have hb : At K (upd (upd (upd H' wl (HO.lst (List.map V.str ["sum", "min", "max", "count"]))) tp (HO.tup (acc.map V.str))) t (HO.tup [.str "aggregate", .str wd, .ref tp, y])) (.ref t) (encE (.agg wd acc er)) :=
            At.tup_mk (SqT.of upd_same) (.cons At.str (.cons At.str (.cons ((At.tup_mk (SqT.of upd_same) (AtAll.of_strs acc)).same (same_new ht _)) (.cons (hyj.same s3) .nil))))
          refine ⟨r, vs2, _, rfl, rfl, s3 _ _ hr3, ?_, ?_⟩
          · rw [hA3.mlen]
            have := tot_len es1
            exact few63 (by omega)
          refine ⟨_, rfl, _, _, rfl, rfl, Int.le_refl _, es1 ++ [.agg wd acc er], ⟨⟨_, _, _, _, _, _, _, _, _, _, rfl, by omega⟩, Same.mut ((sm1.trans smj).trans s3) hrn, hrn, RowsAt.push (e := .agg wd acc er) (s3 _ _ hr3) (hA3.same s3) hb, hg1.snoc (gr.agg ek hwd)⟩, ?_⟩
          rw [tot_snoc, sz]
          omega
    -- a leaf?
    have smb := smb.trans sm2
    have hrow := hrow.same sm2
    have hp := sm2 _ _ hp
    have hpq := sm2.seq hpq
    clear hrv hrA rl rvs
    obtain ⟨rvs, hrv, hrA⟩ := id hrow
    refine ⟨_, rfl, r, _, rfl, .inl (SqL.of hrv), _, _, rfl, rfl, _, rfl, iteB (fun cl => ?_) (fun _ => ?_)⟩
    rotate_left
    · exact ⟨Int.le_refl _, es, ⟨⟨_, _, _, _, _, _, _, _, _, _, rfl, by omega⟩, smb, hrn, hrow, hg⟩, by omega⟩
    refine ⟨_, rfl, _, rfl, _, rfl, pt, n, u, [c0, c1, c2, c3, c4], ns, ws, rfl, hpq, fun x hx => hd x (mem x hx), rfl, smb.seq hns, hn0, smb _ _ hws, hw0, hwl, fun lp e H3 sm3 he hge hse => ?_⟩
    have b0 := hd c0 (mem c0 (by simp))
    refine seq_mid (LfInv K d n u r pt H3) (fun D' hD => hD _ _ ⟨.ref lp, e, ⟨_, _, _, _, _, _, _, _, rfl, by omega⟩, Same.refl H3, he, hge, hse⟩) (fun σ H4 hq => ?_)
    obtain ⟨v, e, ⟨sel, ops, y7, y9, y10, y11, y12, y14, rfl, hops⟩, sm4, he, hge, hse⟩ := hq
    refine seq_mid (LfInv K d n u r pt H3) (fun D' hD => ?_) (fun σ H4 hq => ?_)
    · obtain ⟨a, xs, ea, hS⟩ := he.headE
      subst ea
      refine ⟨_, rfl, a, _, _, .str (headS e), rfl, rfl, hS, at_of (j := 0) rfl rfl, rfl, _, rfl, iteAnd (iteF ?_) (fun _ rest => ?_)⟩
      · exact hD _ _ ⟨_, e, ⟨_, _, _, _, _, _, _, _, rfl, by omega⟩, sm4, he, hge, hse⟩
      refine ⟨_, rfl, rfl, _, rfl, iteB (fun _ => ?_) (fun _ => unF rest)⟩
      refine ⟨_, rfl, pt, _, _, .int c0, rfl, rfl, (sm3.trans sm4).seq hpq, rfl, (by show 2 ≤ sizeLine; decide), fun t ht => ?_⟩
      exact hD _ _ ⟨.ref t, .num c0, ⟨_, _, _, _, _, _, _, _, rfl, by omega⟩, sm4.trans (same_new ht _), At.tup_mk (SqT.of upd_same) (.cons At.str (.cons At.int .nil)), Gd.num (by omega), rfl⟩
    obtain ⟨v, e, ⟨sel, ops, y7, y9, y10, y11, y12, y14, rfl, hops⟩, sm4, he, hge, hse⟩ := hq
    have smz := smb.trans (sm3.trans sm4)
    have hrvz := (sm3.trans sm4) _ _ hrv
    have hrAz := hrA.same (sm3.trans sm4)
    have few : rvs.length < sizeLine := by
      rw [hrA.mlen]
      exact few63 (by omega)
    have fin : tot (es ++ [e]) ≤ i + 1 := by
      rw [tot_snoc]
      omega
    obtain ⟨a, xs, ea, hS⟩ := he.headE
    subst ea
    refine ⟨_, rfl, a, _, _, .str (headS e), rfl, rfl, hS, at_of (j := 0) rfl rfl, rfl, _, rfl, iteB (fun _ => ?_) (fun _ => ?_)⟩
    · refine ⟨_, rfl, _, _, rfl, rfl, ?_⟩
      refine ⟨_, rfl, .inl ⟨rfl, _, SqL.of hrvz⟩, _, rfl, r, rvs, _, rfl, rfl, hrvz, few, ?_⟩
      exact ⟨Int.le_refl _, es ++ [e], ⟨⟨_, _, _, _, _, _, _, _, _, _, rfl, by omega⟩, Same.mut smz hrn, hrn, RowsAt.push hrvz hrAz he, hg.snoc hge⟩, fin⟩
    · refine ⟨_, rfl, .inl ⟨rfl, _, SqL.of hrvz⟩, _, rfl, r, rvs, _, rfl, rfl, hrvz, few, ?_⟩
      exact ⟨Int.le_refl _, es ++ [e], ⟨⟨_, _, _, _, _, _, _, _, _, _, rfl, by omega⟩, Same.mut smz hrn, hrn, RowsAt.push hrvz hrAz he, hg.snoc hge⟩, fin⟩
  obtain ⟨_, es, hinv, htot⟩ := p
  -- the rest of the rows
  refine ⟨fun k σ H' => ∃ es, ExInv K H d n u r σ H' es ∧ tot es + es.length ≤ 20 ∧ es.length = k ∧ 0 ≤ σ.length, ⟨_, es, hinv, ?_, rfl, Nat.zero_le _⟩, fun k σ H' hw => ?_⟩
  · have := tot_len es
    omega
  obtain ⟨es, ⟨⟨sel, ops, y7, y8, y9, y10, y11, y12, y13, y14, rfl, hops⟩, smb, _, hrow, hg⟩, htot, hlen, _⟩ := hw
  have htl := tot_len es
  obtain ⟨rvs, hrv, hrA⟩ := id hrow
  have rl := hrA.mlen
  refine ⟨_, rfl, r, _, rfl, .inl (SqL.of hrv), _, _, rfl, rfl, _, rfl, iteAnd (iteF ?_) (fun cl rest => ?_)⟩
  · -- done
    cases hes : es.reverse with
    | nil =>
      have e0 : es = [] := by simpa using hes
      subst e0
      cases hrA
      refine ⟨_, rfl, _, .inl ⟨_, SqL.of hrv, rfl⟩, iteT ?_⟩
      exact ⟨(by show 2 ≤ sizeLine; decide), fun t ht => q _ (.num 7) _ (smb.trans (same_new ht _)) (At.tup_mk (SqT.of upd_same) (.cons At.str (.cons At.int .nil))) (Gd.num (by decide)) (by decide)⟩
    | cons e er =>
      have e0 : es = er.reverse ++ [e] := by
        have := congrArg List.reverse hes
        rwa [List.reverse_reverse, List.reverse_cons] at this
      subst e0
      obtain ⟨us, y, hr1, hy, _, _, _⟩ := hrow.last
      refine ⟨_, rfl, _, .inl ⟨_, SqL.of hr1, rfl⟩, ?_⟩
      have ne : (us ++ [y]).isEmpty = false := by
        cases us <;> rfl
      rw [ne]
      refine iteF ?_
      rw [tot_snoc] at htot
      exact ⟨_, rfl, 1, rfl, r, _, _, _, rfl, rfl, SqL.of hr1, last_at, q y e H' smb hy hg.pop.2 (by omega)⟩
  · refine ⟨_, rfl, _, _, rfl, rfl, _, rfl, iteB (fun _ => ?_) (fun _ => unF rest)⟩
    clear rest
    have len1 : 1 < es.length := by
      have := of_decide_eq_true cl
      omega
    refine ⟨fun σ' H'' => ∃ m', m' < k ∧ ∃ es, ExInv K H d n u r σ' H'' es ∧ tot es + es.length ≤ 20 ∧ es.length = m' ∧ 0 ≤ σ'.length, fun _ _ h => h, ?_⟩
    obtain ⟨es1, er, rfl⟩ := snoc_of (l := es) (by omega)
    obtain ⟨es2, el, rfl⟩ := snoc_of (l := es1) (by rw [List.length_append, List.length_singleton] at len1; omega)
    obtain ⟨hg1, gr⟩ := hg.pop
    obtain ⟨hg2, gl⟩ := hg1.pop
    obtain ⟨k2, ek2⟩ := gr.kd
    obtain ⟨k1, ek1⟩ := gl.kd
    rw [tot_snoc, tot_snoc] at htot
    have t1 := ht_sz el
    have t2 := ht_sz er
    obtain ⟨us1, y, hr1, hy, hy2, hrow1, kt1⟩ := hrow.last
    refine ⟨_, rfl, .inl ⟨rfl, _, SqL.of hr1⟩, r, _, y, rfl, rfl, hr1, hy2, ?_⟩
    have sm1 : Same H (upd H' r (.lst (us1 ++ [y]).dropLast)) := Same.mut smb hrn
    have hy1 := hy.keep kt1
    skip
    generalize upd H' r (.lst (us1 ++ [y]).dropLast) = Hc at sm1 hy1 hrow1
    obtain ⟨us2, x, hr2, hx, hx2, hrow2, kt2⟩ := hrow1.last
    refine ⟨_, rfl, .inl ⟨rfl, _, SqL.of hr2⟩, r, _, x, rfl, rfl, hr2, hx2, ?_⟩
    have sm2 : Same H (upd Hc r (.lst (us2 ++ [x]).dropLast)) := Same.mut sm1 hrn
    have hx1 := hx.keep kt2
    have hy2 := hy1.keep kt2
    skip
    generalize upd Hc r (.lst (us2 ++ [x]).dropLast) = Hd at sm2 hx1 hy2 hrow2
    obtain ⟨vs2, hr3, hA3⟩ := hrow2
    refine ⟨_, rfl, .inl ⟨rfl, _, SqL.of hr3⟩, ?_⟩
    refine ⟨_, rfl, _, rfl, d, _, rfl, .inl (sm2.seq hds), _, _, rfl, rfl, _, rfl, _, rfl, _, rfl, ops + ((ds.map V.int).length : Int), x, y, el, er, k1, k2, rfl, (by omega), hx1, hy2, by omega, by omega, ek1, ek2, fun sg He sm4 hk => ?_⟩
    refine ⟨_, rfl, _, rfl, (by show 4 ≤ sizeLine; decide), fun t ht => ?_⟩
    have sm5 := sm4.trans (same_new ht (HO.tup [.str "binary", .str sg, x, y]))
    have hb : At K (upd He t (HO.tup [.str "binary", .str sg, x, y])) (.ref t) (encE (.bin sg el er)) := At.tup_mk (SqT.of upd_same) (.cons At.str (.cons At.str (.cons (hx1.same sm5) (.cons (hy2.same sm5) .nil))))
    refine ⟨r, vs2, _, rfl, rfl, sm5 _ _ hr3, ?_, ?_⟩
    · rw [hA3.mlen]
      have := tot_len es2
      exact few63 (by omega)
    refine ⟨_, rfl, _, _, rfl, rfl, ?_⟩
    rw [List.length_append, List.length_append, List.length_singleton, List.length_singleton] at hlen htot
    refine ⟨es2.length + 1, by omega, es2 ++ [.bin sg el er], ⟨⟨_, _, _, _, _, _, _, _, _, _, rfl, by omega⟩, Same.mut (sm2.trans sm5) hrn, hrn, RowsAt.push (e := .bin sg el er) (sm5 _ _ hr3) (hA3.same sm5) hb, hg2.snoc (Gd.bin gl gr ek1 ek2 hk)⟩, ?_, by rw [List.length_append]; rfl, Nat.zero_le _⟩
    rw [tot_snoc, sz, List.length_append, List.length_singleton]
    omega
end
end L2.Q9


set_option Elab.async false
set_option linter.all false
set_option maxRecDepth 100000
set_option maxHeartbeats 4000000
/-! Q9: views that the law lays are views. -/
namespace L2.Q9
open PySem PySem.Spec PyProof.Rows

/-! ### the order of pairs of texts -/
theorem tkQ_inj {p q : Str × Str} (h : tk encQ p = tk encQ q) : p = q := by
  rw [tk, tk, tkQ, tkQ] at h
  simp only [List.cons.injEq, true_and, Sum.inr.injEq, and_true] at h
  have e1 := PySem.W.str_of_cps h.1
  have e2 := PySem.W.str_of_cps h.2
  obtain ⟨p1, p2⟩ := p
  obtain ⟨q1, q2⟩ := q
  simp only at e1 e2
  rw [e1, e2]
theorem leQ_antisymm {a b : Str × Str} (h1 : leF encQ a b = true) (h2 : leF encQ b a = true) : a = b := by
  rw [leF_eq] at h1 h2
  have e1 : PySem.W.dataLt (encQ b) (encQ a) = false := by simpa using h1
  have e2 : PySem.W.dataLt (encQ a) (encQ b) = false := by simpa using h2
  exact tkQ_inj (OL.total _ _ e2 e1)
abbrev sortQ (l : Lab) : Lab := l.mergeSort (leF encQ)
theorem sortQ_perm {l m : Lab} (h : l.Perm m) : sortQ l = sortQ m := by
  have p : (sortQ l).Perm (sortQ m) := (List.mergeSort_perm _ _).trans (h.trans (List.mergeSort_perm _ _).symm)
  exact p.eq_of_pairwise (le := fun a b => leF encQ a b = true) (fun a b _ _ h1 h2 => leQ_antisymm h1 h2) (PySem.W.sort_pairwise (leF_total encQ) l) (PySem.W.sort_pairwise (leF_total encQ) m)

/-! ### the labels of a sample -/
def LabOk (l : Lab) : Prop := ∃ L m, l = sortQ (L ++ [(sMetric, m)]) ∧ (∀ p ∈ L, p.1 ≠ sMetric) ∧ L.length ≤ 10
theorem LabOk.short {l : Lab} (h : LabOk l) : l.length ≤ 20 := by
  obtain ⟨L, m, rfl, _, hl⟩ := h
  rw [List.length_mergeSort, List.length_append, List.length_singleton]
  omega
theorem bare_of {L : Lab} {m : Str} (h : ∀ p ∈ L, p.1 ≠ sMetric) : (bare (sortQ (L ++ [(sMetric, m)]))).Perm L := by
  have e : bare (L ++ [(sMetric, m)]) = L := by
    rw [bare_snoc, if_pos rfl]
    exact filter_all fun p hp => by simpa using h p hp
  have := (List.mergeSort_perm (L ++ [(sMetric, m)]) (leF encQ)).filter fun p => !decide (p.1 = sMetric)
  have e2 : (L ++ [(sMetric, m)]).filter (fun p => !decide (p.1 = sMetric)) = L := e
  rw [e2] at this
  exact this
theorem valOf_eq {l : Lab} {n v : Str} (h : ∀ p ∈ l, p.1 = n → p.2 = v) (he : ∃ p ∈ l, p.1 = n) : valOf l n = v := by
  induction l with
  | nil =>
    obtain ⟨p, hp, _⟩ := he
    exact absurd hp (by simp)
  | cons p l ih =>
    rw [valOf]
    by_cases c : p.1 = n
    · rw [if_pos c]
      exact h p (List.mem_cons_self ..) c
    · rw [if_neg c]
      refine ih (fun q hq => h q (List.mem_cons_of_mem _ hq)) ?_
      obtain ⟨q, hq, e⟩ := he
      rcases List.mem_cons.mp hq with rfl | hq
      · exact absurd e c
      · exact ⟨q, hq, e⟩
theorem metric_of {L : Lab} {m : Str} (h : ∀ p ∈ L, p.1 ≠ sMetric) : valOf (sortQ (L ++ [(sMetric, m)])) sMetric = m := by
  have pm := List.mergeSort_perm (L ++ [(sMetric, m)]) (leF encQ)
  refine valOf_eq (fun p hp e => ?_) ⟨(sMetric, m), pm.mem_iff.mpr (by simp), rfl⟩
  rcases List.mem_append.mp (pm.mem_iff.mp hp) with hp | hp
  · exact absurd e (h p hp)
  · have : p = (sMetric, m) := by simpa using hp
    rw [this]
theorem LabOk.one {a b : Lab} (ha : LabOk a) (hb : LabOk b) (h1 : bare a = bare b) (h2 : valOf a sMetric = valOf b sMetric) : a = b := by
  obtain ⟨L, m, rfl, hL, _⟩ := ha
  obtain ⟨M, k, rfl, hM, _⟩ := hb
  rw [metric_of hL, metric_of hM] at h2
  subst h2
  have p : L.Perm M := (bare_of hL).symm.trans (h1 ▸ bare_of hM)
  exact sortQ_perm (p.append_right _)

/-! ### sorted keys: labels and times -/
theorem alike_T (p q : Lab × Int) : PySem.W.alike (encT p) (encT q) = true := by simp [encT, PySem.W.alike, PySem.W.alikeAll, alike_L]
theorem depth_T (p : Lab × Int) : (encT p).depth ≤ 3 := by
  have := depth_L p.1
  simp only [encT, PyData.depth, PyData.depthAll]
  omega
theorem ltT {p q : Lab × Int} (h : leF encT p q = true) (hne : p ≠ q) (e : p.1 = q.1) : p.2 < q.2 := by
  rw [leF_eq] at h
  have h' : PySem.W.dataLt (encT q) (encT p) = false := by simpa using h
  unfold encT at h'
  rw [PySem.W.dataLt_pair (alike_L _ _) (by simp [PySem.W.alike]), eqvL, if_pos (decide_eq_true e.symm), PySem.W.dataLt_int] at h'
  by_cases c : p.2 = q.2
  · exact absurd (Prod.ext e c) hne
  · have hf : PyData.eqv (.int q.2) (.int p.2) = false := by
      simp only [PyData.eqv, beq_eq_false_iff_ne]
      exact fun z => c z.symm
    rw [if_neg (by rw [hf]; simp)] at h'
    have := of_decide_eq_false h'
    omega
abbrev sortT (ks : List (Lab × Int)) : List (Lab × Int) := ks.mergeSort (leF encT)
theorem sortT_asc {ks : List (Lab × Int)} (hn : ks.Nodup) : (sortT ks).Pairwise fun a b => a.1 = b.1 → a.2 < b.2 := by
  have hn' : (sortT ks).Nodup := (List.mergeSort_perm _ _).nodup_iff.mpr hn
  exact (PySem.W.sort_pairwise (leF_total encT) ks).imp₂ (fun {a b} h1 h2 => ltT h1 h2) hn'
/-- what the law kept -/
structure KeptOk (gs : List ((Lab × Int) × Addr × V)) : Prop where
  nd : (gs.map (·.1)).Nodup
  lab : ∀ g ∈ gs, LabOk g.1.1
  time : ∀ g ∈ gs, 0 ≤ g.1.2 ∧ g.1.2 ≤ 14
  val : ∀ g ∈ gs, ∃ n : Int, g.2.2 = .int n ∧ n.natAbs < 2 ^ 60
def vInt : Option V → Int
  | some (.int n) => n
  | _ => 0
def viewOf (gs : List ((Lab × Int) × Addr × V)) : List Smp := (sortT (gs.map (·.1))).map fun k => (k.1, k.2, vInt (getG gs k))
theorem KeptOk.at_ {gs : List ((Lab × Int) × Addr × V)} (h : KeptOk gs) {k : Lab × Int} (hk : k ∈ gs.map (·.1)) : LabOk k.1 ∧ 0 ≤ k.2 ∧ k.2 ≤ 14 ∧ getG gs k = some (.int (vInt (getG gs k))) ∧ (vInt (getG gs k)).natAbs < 2 ^ 60 := by
  obtain ⟨g, hg, rfl⟩ := List.mem_map.mp hk
  obtain ⟨n, e, hn⟩ := h.val g hg
  have q := getG_some h.nd hg
  rw [e] at q
  refine ⟨h.lab g hg, (h.time g hg).1, (h.time g hg).2, ?_, ?_⟩
  · rw [q]
    rfl
  · rw [q]
    exact hn
theorem KeptOk.snoc {gs : List ((Lab × Int) × Addr × V)} (h : KeptOk gs) {k : Lab × Int} {b : Addr} {n : Int} (hk : k ∉ gs.map (·.1)) (hl : LabOk k.1) (ht : 0 ≤ k.2 ∧ k.2 ≤ 14) (hn : n.natAbs < 2 ^ 60) : KeptOk (gs ++ [(k, b, .int n)]) := by
  have mem : ∀ {g : (Lab × Int) × Addr × V}, g ∈ gs ++ [(k, b, .int n)] → g ∈ gs ∨ g = (k, b, .int n) := fun hg => by
    rcases List.mem_append.mp hg with hg | hg
    · exact .inl hg
    · exact .inr (by simpa using hg)
  refine ⟨?_, fun g hg => ?_, fun g hg => ?_, fun g hg => ?_⟩
  · rw [List.map_append, List.nodup_append]
    refine ⟨h.nd, by simp, fun a ha c hc e => ?_⟩
    simp at hc
    subst hc
    subst e
    exact hk ha
  · rcases mem hg with hg | rfl
    · exact h.lab g hg
    · exact hl
  · rcases mem hg with hg | rfl
    · exact h.time g hg
    · exact ht
  · rcases mem hg with hg | rfl
    · exact h.val g hg
    · exact ⟨n, rfl, hn⟩
theorem view_ok {gs : List ((Lab × Int) × Addr × V)} (h : KeptOk gs) (hl : gs.length ≤ 63) : ViewOk (viewOf gs) := by
  have all : ∀ s ∈ viewOf gs, ∃ k ∈ gs.map (·.1), s = (k.1, k.2, vInt (getG gs k)) := fun s hs => by
    obtain ⟨k, hk, rfl⟩ := List.mem_map.mp hs
    exact ⟨k, (List.mergeSort_perm _ _).mem_iff.mp hk, rfl⟩
  refine ⟨?_, fun s hs => ?_, fun s hs => ?_, fun s hs => ?_, fun a ha b hb h1 h2 => ?_, ?_⟩
  · unfold viewOf
    rw [List.length_map, List.length_mergeSort, List.length_map]
    exact hl
  · obtain ⟨k, hk, rfl⟩ := all s hs
    exact ⟨(h.at_ hk).2.1, (h.at_ hk).2.2.1⟩
  · obtain ⟨k, hk, rfl⟩ := all s hs
    exact (h.at_ hk).2.2.2.2
  · obtain ⟨k, hk, rfl⟩ := all s hs
    exact (h.at_ hk).1.short
  · obtain ⟨k, hk, rfl⟩ := all a ha
    obtain ⟨j, hj, rfl⟩ := all b hb
    exact (h.at_ hk).1.one (h.at_ hj).1 h1 h2
  · unfold viewOf
    rw [List.pairwise_map]
    exact sortT_asc h.nd
end L2.Q9


set_option Elab.async false
set_option linter.all false
set_option maxRecDepth 100000
set_option maxHeartbeats 4000000
/-! Q9: scripts, views, cases. -/
namespace L2.Q9
open PySem PySem.Spec PyProof.Rows


theorem cutV_ints (ds : List Int) (lo hi : Option Int) : ∃ ys : List Int, cutV (ds.map V.int) lo hi = ys.map V.int ∧ ys.length ≤ ds.length ∧ ∀ y ∈ ys, y ∈ ds := by
  unfold cutV
  rw [← List.map_drop, ← List.map_take]
  refine ⟨_, rfl, ?_, fun y hy => List.mem_of_mem_drop (List.mem_of_mem_take hy)⟩
  rw [List.length_take, List.length_drop]
  omega
theorem cut10 (zs : List Int) : ∃ ys : List Int, cutV (zs.map V.int) (some 3) (some 13) = ys.map V.int ∧ ys.length ≤ 10 := by
  have e3 : HT.sIx (zs.map V.int).length 0 (some 3) = min 3 (zs.map V.int).length := HT.sIx_nat _ _ 3
  have e13 : HT.sIx (zs.map V.int).length (zs.map V.int).length (some 13) = min 13 (zs.map V.int).length := HT.sIx_nat _ _ 13
  unfold cutV
  rw [e3, e13, ← List.map_drop, ← List.map_take]
  refine ⟨_, rfl, ?_⟩
  rw [List.length_take, List.length_drop, List.length_map]
  omega
theorem dr7 {ds : List Int} (h : ds.length = 9) : ∃ a0 a1 a2 a3 a4 a5 a6 a7 a8, ds = [a0, a1, a2, a3, a4, a5, a6, a7, a8] := match ds, h with
  | [a0, a1, a2, a3, a4, a5, a6, a7, a8], _ => ⟨a0, a1, a2, a3, a4, a5, a6, a7, a8, rfl⟩
theorem three_of {α : Type} {l : List α} (h : l.length = 3) : ∃ a b c, l = [a, b, c] := match l, h with
  | [a, b, c], _ => ⟨a, b, c, rfl⟩
theorem bare_LabOk {l : Lab} {m : Str} (hl : l.length ≤ 10) : LabOk (sortQ (l.filter (fun p => !decide (p.1 = sMetric)) ++ [(sMetric, m)])) := by
  refine ⟨_, m, rfl, fun p hp => ?_, Nat.le_trans (List.length_filter_le _ _) hl⟩
  have := (List.mem_filter.mp hp).2
  simpa using this
theorem DAt.sortsT {P : Program} {w : World} {K : PySem.W.Frag} {H : Hp} {d : Addr} {gs : List ((Lab × Int) × Addr × V)} (g : DAt P w K encT H d gs) (hl : gs.length ≤ 63) :
    ∃ bs : List (V × PyData), ((enG encT gs).map fun p => V.ref p.2.1) = bs.map (·.1) ∧ Sorts K H bs ∧ AtAll K H ((bs.mergeSort leD).map (·.1)) ((sortT (gs.map (·.1))).map encT) := by
  have at_ : ∀ b ∈ gs.map (fun x => (V.ref x.2.1, encT x.1)), At K H b.1 b.2 := fun b hb => by
    obtain ⟨x, hx, rfl⟩ := List.mem_map.mp hb
    exact g.keys x hx
  have e2 : (gs.map fun x => (V.ref x.2.1, encT x.1)).map (·.2) = (gs.map (·.1)).map encT := by
    rw [List.map_map, List.map_map]
    rfl
  refine ⟨gs.map fun x => (V.ref x.2.1, encT x.1), ?_, ?_, ?_⟩
  · unfold enG
    rw [List.map_map, List.map_map]
    rfl
  · exact sorts_mk (f := encT) (xs := gs.map (·.1)) at_ e2 alike_T (fun a => ⟨_, rfl⟩) (fun a => Nat.le_trans (depth_T a) (by decide)) (by rw [List.length_map]; omega)
  · exact sort_at at_ e2
section
variable {P : Program} {w : World} {K : PySem.W.Frag} {mg : Str → Option Value} {base : Heap}

/-! ### _law_of_script -/
abbrev s36 : Stmt := topS 36
theorem sc36 : FnScope ["_law_script", "_law_begin", "_law_end", "_law_names_here", "_law_worths_here", "_law_sound", "_law_draws_here", "_law_cell_here"] ["_law_script", "_law_begin", "_law_end", "_law_names_here", "_law_worths_here", "_law_sound"] (defScope s36) := ⟨rfl, rfl, rfl, by decide +kernel, rfl, by decide +kernel, by decide +kernel⟩

def spOfS (K : PySem.W.Frag) : Sp := fun vs H Q _ => ∃ (a n u : Addr) (zs : List Int) (ns ws : List Str), vs = [.ref a, .int 3, .int 13, .ref n, .ref u, .bl true] ∧ SqL K H a (zs.map V.int) ∧ SqL K H n (ns.map V.str) ∧ ns ≠ [] ∧ StrsAt H u ws ∧ ws ≠ [] ∧ ws.length ≤ 100 ∧ ∀ v e H', Same H H' → At K H' v (encE e) → Gd e → sz e ≤ 20 → Q v H'
theorem ok36 {f : Addr} {fd : FuncData} (F : Fun K "_law_of_script" "_law_of_script" s36 f fd) {f24 : Addr} {fd24 : FuncData} (G24 : FnOk P w K mg base CX0 1 f24 fd24 ["_law_cell_here", "_law_many"] spDraws) (k24 : PySem.W.keepIn K (.ref f24) = true) (b24 : Binds K fd24 ["_law_cell_here", "_law_many"] []) (m24 : mg "_law_draws" = some (.ref f24)) {f35 : Addr} {fd35 : FuncData} (G35 : FnOk P w K mg base CX0 23 f35 fd35 ["_law_draws_here", "_law_names_here", "_law_worths_here", "_law_sound"] (spExpr K)) (k35 : PySem.W.keepIn K (.ref f35) = true) (b35 : Binds K fd35 ["_law_draws_here", "_law_names_here", "_law_worths_here", "_law_sound"] []) (m35 : mg "_law_expression" = some (.ref f35)) : FnOk P w K mg base CX0 24 f fd ["_law_script", "_law_begin", "_law_end", "_law_names_here", "_law_worths_here", "_law_sound"] (spOfS K) := by
  refine F.ok sc36 (fun vs H Q E h => ?_) (fun cdv A outer s H vs Q E hr h => ?_)
  · obtain ⟨a, n, u, zs, ns, ws, rfl, _⟩ := h
    rfl
  obtain ⟨a, n, u, zs, ns, ws, rfl, hzs, hns, hn0, hws, hw0, hwl, q⟩ := h
  have hr1 := hr.mono (show 1 ≤ 23 by decide)
  refine ⟨_, (pss_cons (ps_set (i := 6) sc36.nd rfl (Or.inl rfl) (pe_lst pa_nil)) (pss_cons (ps_for PassesOwn.never rfl (pi_list (pe_slice sl_list (pv 0) (po_some (pv 1)) (po_some (pv 2)))) (pg_name (i := 7) sc36.nd rfl (Or.inl rfl)) (pss_one (ps_set (i := 6) sc36.nd rfl (Or.inl rfl) (pe_op op_cat (pv 6) (pe_call G24 hr1 rfl m24 k24 b24 .nil pass0 (pa_cons (pv 7) (pa_cons pe_int pa_nil))))))) (pss_one (ps_ret (pe_call G35 hr rfl m35 k35 b35 .nil pass0 (pa_cons (pv 6) (pa_cons (pv 3) (pa_cons (pv 4) (pa_cons (pv 5) pa_nil))))))))), ?_⟩
  refine ⟨Nat.zero_le _, fun d0 hd0 => ?_⟩
  have sm0 := same_new hd0 (HO.lst [])
  refine ⟨_, rfl, _, rfl, _, rfl, _, rfl, _, rfl, a, _, rfl, sm0.seq hzs, fun p hp => ?_⟩
  obtain ⟨ys, ey, hyl⟩ := cut10 zs
  rw [ey]
  have sm1 := same_new hp (HO.lst (ys.map V.int))
  have hd1 : DrAt (upd (upd H d0 (HO.lst [])) p (HO.lst (ys.map V.int))) d0 [] := sm1 _ _ upd_same
  have hp1 : upd (upd H d0 (HO.lst [])) p (HO.lst (ys.map V.int)) p = some (.lst (ys.map V.int)) := upd_same
  have smb := sm0.trans sm1
  clear sm1
  generalize upd (upd H d0 (HO.lst [])) p (HO.lst (ys.map V.int)) = Hb at hd1 hp1 smb
  refine ⟨p, rfl, ⟨_, SqL.of hp1⟩, for_list (xs := ys.map V.int) (fun i σ H' => ∃ (dr : Addr) (ds : List Int), (∃ y, σ = [some (.ref a), some (.int 3), some (.int 13), some (.ref n), some (.ref u), some (.bl true), some (.ref dr), y]) ∧ Same Hb H' ∧ DrAt H' dr ds ∧ Dr ds ∧ ds.length = 5 * i) ⟨d0, [], ⟨none, rfl⟩, Same.refl Hb, hd1, fun _ h => absurd h (by simp), rfl⟩ (fun i σ H' _ pi => ?_) (fun i x σ H' hx pi => ?_) (fun σ H' pi => ?_)⟩
  · obtain ⟨dr, ds, _, sm, _⟩ := pi
    exact SqL.of (sm _ _ hp1)
  · obtain ⟨dr, ds, ⟨y, rfl⟩, sm, hds, hd, hl⟩ := pi
    rw [List.getElem?_map] at hx
    obtain ⟨z, hz, rfl⟩ := Option.map_eq_some_iff.mp hx
    have hi := lt_of_get hz
    refine ⟨_, rfl, _, rfl, z, 5, 5, rfl, rfl, by decide, fun p2 ds2 H2 sm2 np2 hds2 hd2 hl2 => ?_⟩
    refine ⟨dr, p2, _, _, rfl, rfl, sm2 _ _ hds, hds2, ?_, fun c hc => ?_⟩
    · rw [List.length_map, List.length_map, hl, hl2]
      exact Nat.le_trans (show 5 * i + 5 ≤ 55 by omega) (by decide)
    · have smc := same_new hc (HO.lst (ds.map V.int ++ ds2.map V.int))
      refine ⟨c, ds ++ ds2, ⟨_, rfl⟩, (sm.trans sm2).trans smc, ?_, fun x hx => ?_, ?_⟩
      · show upd H2 c _ c = _
        rw [upd_same, List.map_append]
      · rcases List.mem_append.mp hx with hx | hx
        · exact hd x hx
        · exact hd2 x hx
      · rw [List.length_append, hl, hl2]
        omega
  · obtain ⟨dr, ds, ⟨y, rfl⟩, sm, hds, hd, hl⟩ := pi
    rw [List.length_map] at hl
    have smf := smb.trans sm
    exact ⟨_, rfl, _, rfl, _, rfl, _, rfl, dr, n, u, ds, ns, ws, ys.length, rfl, SqL.of hds, hd, hl, hyl, smf.seq hns, hn0, smf _ _ hws, hw0, hwl, fun v e H2 sm2 hv hg hs => q v e H2 (smf.trans sm2) hv hg hs⟩

/-! ### _law_view -/
abbrev s37 : Stmt := topS 37
theorem sc37 : FnScope ["_law_script", "_law_begin", "_law_names_here", "_law_worths_here", "_law_metrics", "_law_kept", "_law_cell_here", "_law_draws_here", "_law_labels_here", "_law_time", "_law_worth_here", "_law_pair"] ["_law_script", "_law_begin", "_law_names_here", "_law_worths_here", "_law_metrics"] (defScope s37) := ⟨rfl, rfl, rfl, by decide +kernel, rfl, by decide +kernel, by decide +kernel⟩

def spView (K : PySem.W.Frag) : Sp := fun vs H Q _ => ∃ (a n u mt : Addr) (zs : List Int) (ns ws ms : List Str) (b : Int), vs = [.ref a, .int b, .ref n, .ref u, .ref mt] ∧ SqL K H a (zs.map V.int) ∧ zs.length ≤ 63 ∧ SqL K H n (ns.map V.str) ∧ ns ≠ [] ∧ SqL K H u (ws.map V.str) ∧ ws ≠ [] ∧ SqL K H mt (ms.map V.str) ∧ ms ≠ [] ∧ ∀ p view vs H', Same H H' → H p = none → H' p = some (.lst vs) → AtAll K H' vs (view.map encS) → ViewOk view → Q (.ref p) H'
theorem ok37 {f : Addr} {fd : FuncData} (F : Fun K "_law_view" "_law_view" s37 f fd) {f24 : Addr} {fd24 : FuncData} (G24 : FnOk P w K mg base CX0 1 f24 fd24 ["_law_cell_here", "_law_many"] spDraws) (k24 : PySem.W.keepIn K (.ref f24) = true) (b24 : Binds K fd24 ["_law_cell_here", "_law_many"] []) (m24 : mg "_law_draws" = some (.ref f24)) {f30 : Addr} {fd30 : FuncData} (G30 : FnOk P w K mg base CX0 1 f30 fd30 ["_law_draws_here", "_law_names_here", "_law_worths_here"] (spLabels K)) (k30 : PySem.W.keepIn K (.ref f30) = true) (b30 : Binds K fd30 ["_law_draws_here", "_law_names_here", "_law_worths_here"] []) (m30 : mg "_law_labels" = some (.ref f30)) {f31 : Addr} {fd31 : FuncData} (G31 : FnOk P w K mg base CX0 1 f31 fd31 ["_law_first", "_law_second"] spNumber) (k31 : PySem.W.keepIn K (.ref f31) = true) (b31 : Binds K fd31 ["_law_first", "_law_second"] []) (m31 : mg "_law_number" = some (.ref f31)) (ml : mg "len" = none) (mt : mg "tuple" = none) (msrt : mg "sorted" = none) : FnOk P w K mg base CX0 2 f fd ["_law_script", "_law_begin", "_law_names_here", "_law_worths_here", "_law_metrics"] (spView K) := by
  refine F.ok sc37 (fun vs H Q E h => ?_) (fun cdv A outer s H vs Q E hr h => ?_)
  · obtain ⟨a, n, u, mt, zs, ns, ws, ms, b, rfl, _⟩ := h
    rfl
  obtain ⟨a, n, u, mtr, zs, ns, ws, ms, b, rfl, hzs, hzl, hns, hn0, hws, hw0, hms, hm0, q⟩ := h
  have hu := hr.units
  refine ⟨_, (pss_cons (ps_set (i := 5) sc37.nd rfl (Or.inr rfl) (x_new (P := P) (w := w) rfl rfl)) (pss_cons (ps_for PassesOwn.never rfl (pi_list (pe_slice sl_list (pv 0) (po_some (pv 1)) po_none)) (pg_name (i := 6) sc37.nd rfl (Or.inl rfl)) (pss_cons (ps_set (i := 7) sc37.nd rfl (Or.inl rfl) (pe_call G24 hr rfl m24 k24 b24 .nil pass0 (pa_cons (pv 6) (pa_cons pe_int pa_nil)))) (pss_cons (ps_setLc (i := 8) (own := [("_law_pair", 11)]) (g := gName 11) (by rfl) sc37.nd rfl rfl (sw_true rfl rfl rfl (by decide +kernel)) (pi_tup (pe_call G30 hr rfl m30 k30 b30 .nil pass0 (pa_cons (pe_slice sl_list (pv 7) po_none (po_some (pe_op op_mul pe_int (pe_op op_mod (pe_ix ix_list (pv 7) pe_int (fun _ _ => rfl)) pe_int)))) (pa_cons (pv 2) (pa_cons (pv 3) pa_nil))))) (blkOk_by (own := [("_law_pair", 11)]) (N := ["_law_script", "_law_begin", "_law_names_here", "_law_worths_here", "_law_metrics", "_law_kept", "_law_cell_here", "_law_draws_here", "_law_labels_here", "_law_time", "_law_worth_here", "_law_pair"]) (sc := defScope s37) (by decide +kernel)) (fun _ _ _ _ _ => pg_name (i := 11) sc37.nd rfl (Or.inl rfl)) (fun _ _ _ _ _ => pts_one (pt_cmpR (r := rNe) op_ne (pe_ix (r := rIxT K) ix_tup (pv 11) pe_int (fun _ _ => rfl)) pe_str (nomark _))) (fun _ _ _ _ _ => pv 11)) (pss_cons (ps_set (i := 8) sc37.nd rfl (Or.inl rfl) (pe_callTy call_tuple_of (by rfl) mt boot_tuple (pa_cons (pe_callB (x_sortL (K := K) rfl hu) (by rfl) msrt boot_sorted (pa_cons (pe_op op_cat (pv 8) (pe_lst (pa_cons (pe_tup (pa_cons pe_str (pa_cons (pe_ix ix_list (pv 4) (pe_op op_mod (pe_ix ix_list (pv 7) pe_int (fun _ _ => rfl)) (pe_callB call_len_seq (by rfl) ml boot_len (pa_cons (pv 4) pa_nil))) (fun _ _ => rfl)) pa_nil))) pa_nil))) pa_nil)) pa_nil))) (pss_cons (ps_set (i := 9) sc37.nd rfl (Or.inl rfl) (pe_op op_mod (pe_ix ix_list (pv 7) pe_int (fun _ _ => rfl)) pe_int)) (pss_cons (ps_set (i := 10) sc37.nd rfl (Or.inl rfl) (pe_call G31 hr rfl m31 k31 b31 .nil pass0 (pa_cons (pe_ix ix_list (pv 7) pe_int (fun _ _ => rfl)) (pa_cons (pe_ix ix_list (pv 7) pe_int (fun _ _ => rfl)) pa_nil)))) (pss_one (ps_expr (pe_sdN hu (pv 5) (pa_cons (pe_tup (pa_cons (pv 8) (pa_cons (pv 9) pa_nil))) (pa_cons (pv 10) pa_nil))))))))))) (pss_one (ps_ret (pe_lc (own := [("_law_labels_here", 8), ("_law_time", 9)]) (g := gTup K 2 (gCons (gName 8) (gCons (gName 9) gNil))) (by rfl) sc37.nd (pi_list (pe_callB (x_sortD (P := P) (w := w) (K := K) rfl rfl rfl hu rfl) (by rfl) msrt boot_sorted (pa_cons (pv 5) pa_nil))) (blkOk_by (own := [("_law_labels_here", 8), ("_law_time", 9)]) (N := ["_law_script", "_law_begin", "_law_names_here", "_law_worths_here", "_law_metrics", "_law_kept", "_law_cell_here", "_law_draws_here", "_law_labels_here", "_law_time", "_law_worth_here", "_law_pair"]) (sc := defScope s37) (by decide +kernel)) (fun _ _ _ _ _ => pg_tup rfl (pgs_cons (pg_name (i := 8) sc37.nd rfl (Or.inl rfl)) (pgs_cons (pg_name (i := 9) sc37.nd rfl (Or.inl rfl)) pgs_nil))) (fun _ _ _ _ _ => pts_nil) (fun _ _ _ _ _ => pe_tup (pa_cons (pv 8) (pa_cons (pv 9) (pa_cons (x_get (P := P) (w := w) (K := K) rfl rfl rfl hu (pv 5) (pe_tup (pa_cons (pv 8) (pa_cons (pv 9) pa_nil))) (fun _ _ => rfl)) pa_nil))))))))), ?_⟩
  have mp : 0 < ms.length := List.length_pos_iff.mpr hm0
  refine fun d0 hd0 => ?_
  have sm0 : Same H (upd H d0 (dN P w d0 [])) := same_new hd0 _
  refine ⟨_, rfl, _, rfl, _, rfl, a, _, rfl, sm0.seq hzs, fun p hp => ?_⟩
  obtain ⟨ys, ey, hyl, _⟩ := cutV_ints zs (some b) none
  rw [ey]
  have np0 : H p = none := sm0.free hp
  have sm1 := same_new hp (HO.lst (ys.map V.int))
  have dat0 : DAt P w K encT (upd (upd H d0 (dN P w d0 [])) p (HO.lst (ys.map V.int))) d0 [] := DAt.same DAt.start sm1
  have hp1 : upd (upd H d0 (dN P w d0 [])) p (HO.lst (ys.map V.int)) p = some (.lst (ys.map V.int)) := upd_same
  have smb := sm0.trans sm1
  clear sm1
  generalize upd (upd H d0 (dN P w d0 [])) p (HO.lst (ys.map V.int)) = Hb at dat0 hp1 smb
  refine ⟨p, rfl, ⟨_, SqL.of hp1⟩, for_list (xs := ys.map V.int) (fun i σ H' => (∃ y6 y7 y8 y9 y10 y11, σ = [some (.ref a), some (.int b), some (.ref n), some (.ref u), some (.ref mtr), some (.ref d0), y6, y7, y8, y9, y10, y11]) ∧ Same H H' ∧ H' p = some (.lst (ys.map V.int)) ∧ ∃ gs, DAt P w K encT H' d0 gs ∧ KeptOk gs ∧ gs.length ≤ i)
    ⟨⟨none, none, none, none, none, none, rfl⟩, smb, hp1, [], dat0, ⟨List.nodup_nil, fun _ h => absurd h (by simp), fun _ h => absurd h (by simp), fun _ h => absurd h (by simp)⟩, Nat.le_refl _⟩ (fun i σ H' _ pi => SqL.of pi.2.2.1) (fun i x σ H' hx pi => ?_) (fun σ H' pi => ?_)⟩
  · obtain ⟨⟨y6, y7, y8, y9, y10, y11, rfl⟩, sm, hpl, gs, dat, kept, hgl⟩ := pi
    rw [List.getElem?_map] at hx
    obtain ⟨z, hz, rfl⟩ := Option.map_eq_some_iff.mp hx
    have hi := lt_of_get hz
    refine ⟨_, rfl, z, 9, 9, rfl, rfl, by decide, fun dr ds H1 sm1 nd hds hd hdl => ?_⟩
    obtain ⟨a0, a1, a2, a3, a4, a5, a6, a7, a8, rfl⟩ := dr7 hdl
    have hdr : H1 dr = some (.lst [.int a0, .int a1, .int a2, .int a3, .int a4, .int a5, .int a6, .int a7, .int a8]) := hds
    -- the labels
    refine ⟨_, rfl, _, rfl, dr, _, _, .int a6, rfl, rfl, SqL.of hdr, rfl, _, _, rfl, rfl, (by show (0 : Int) < _; decide), _, _, rfl, rfl, .inl ⟨by decide, by decide⟩, _, rfl, dr, _, rfl, SqL.of hdr, fun sl hsl => ?_⟩
    obtain ⟨ys2, ey2, hy2l, hy2⟩ := cutV_ints [a0, a1, a2, a3, a4, a5, a6, a7, a8] none (some (2 * (a6 % 3)))
    have ey2' : cutV [V.int a0, .int a1, .int a2, .int a3, .int a4, .int a5, .int a6, .int a7, .int a8] none (some (2 * (a6 % 3))) = ys2.map V.int := ey2
    rw [ey2']
    have sm2 := same_new hsl (HO.lst (ys2.map V.int))
    have hsl2 : SqL K (upd H1 sl (HO.lst (ys2.map V.int))) sl (ys2.map V.int) := SqL.of upd_same
    generalize upd H1 sl (HO.lst (ys2.map V.int)) = H2 at sm2 hsl2
    have sm02 := (sm.trans sm1).trans sm2
    refine ⟨_, rfl, _, rfl, sl, n, u, ys2, ns, ws, rfl, hsl2, fun y hy => hd y (hy2 y hy), by rw [← hdl]; exact hy2l, sm02.seq hns, hn0, sm02.seq hws, hw0, fun lp l H3 sm3 nlp hl hll => ?_⟩
    obtain ⟨la, lvs, eqa, hLS, hLA⟩ := hl.tup_of
    cases eqa
    refine ⟨lp, rfl, ⟨_, hLS⟩, fun C hC => ?_⟩
    refine comp_pairs (l := l) (fl := fun p => !decide (p.1 = sMetric)) hLS hLA (by omega) hC (fun _ => rfl) (fun _ => rfl) (fun pr c H2 sm hc Q' hq => ?_) fun H4 acc smC hacc aAll => ?_
    · refine ⟨_, rfl, c, _, 0, _, rfl, rfl, hc, rfl, rfl, _, rfl, ?_⟩
      have e2 : (!decide (V.str pr.1 = V.str sMetric)) = !decide (pr.1 = sMetric) := by rw [decStr]
      rw [← e2] at hq
      exact hq
    have s14 := (sm2.trans sm3).trans smC
    have sm04 := (sm.trans sm1).trans s14
    have hms4 := sm04.seq hms
    have hdr4 := s14 _ _ hdr
    obtain ⟨mm, em⟩ := strs_mod mp a4
    refine ⟨_, rfl, _, rfl, _, rfl, dr, _, _, .int a4, rfl, rfl, SqL.of hdr4, rfl, _, rfl, mtr, _, rfl, .inl hms4, _, _, rfl, rfl, posl mp, mtr, _, _, .str mm, rfl, rfl, hms4, em, (by show 2 ≤ sizeLine; decide), fun tq htq => ?_⟩
    have s5 := same_new htq (HO.tup [.str "metric", .str mm])
    have hq5 : At K (upd H4 tq (HO.tup [.str "metric", .str mm])) (.ref tq) (encQ (sMetric, mm)) := At.tup_mk (SqT.of upd_same) (.cons At.str (.cons At.str .nil))
    refine ⟨(by show 1 ≤ sizeLine; decide), fun lq hlq => ?_⟩
    have s6 := s5.trans (same_new hlq (HO.lst [.ref tq]))
    have hq6 := hq5.same (same_new hlq (HO.lst [.ref tq]))
    refine ⟨C, lq, _, _, rfl, rfl, s6 _ _ hacc, upd_same, ?_, fun cc hcc => ?_⟩
    · rw [aAll.mlen]
      have := List.length_filter_le (fun p : Str × Str => !decide (p.1 = sMetric)) l
      exact Nat.le_trans (show _ ≤ 11 from Nat.succ_le_succ (Nat.le_trans this hll)) (by decide)
    have s7 := s6.trans (same_new hcc (HO.lst (acc ++ [.ref tq])))
    have hcat : AtAll K (upd (upd (upd H4 tq (HO.tup [.str "metric", .str mm])) lq (HO.lst [.ref tq])) cc (HO.lst (acc ++ [.ref tq]))) (acc ++ [.ref tq]) ((l.filter (fun p => !decide (p.1 = sMetric)) ++ [(sMetric, mm)]).map encQ) := by
      rw [List.map_append]
      exact ((aAll.same s6).snoc hq6).same (same_new hcc _)
    have hcc7 : upd (upd (upd H4 tq (HO.tup [.str "metric", .str mm])) lq (HO.lst [.ref tq])) cc (HO.lst (acc ++ [.ref tq])) cc = some (.lst (acc ++ [.ref tq])) := upd_same
    generalize upd (upd (upd H4 tq (HO.tup [.str "metric", .str mm])) lq (HO.lst [.ref tq])) cc (HO.lst (acc ++ [.ref tq])) = H7 at s7 hcat hcc7
    have hlab : LabOk (sortQ (l.filter (fun p => !decide (p.1 = sMetric)) ++ [(sMetric, mm)])) := bare_LabOk hll
    have hflen : (l.filter (fun p => !decide (p.1 = sMetric)) ++ [(sMetric, mm)]).length ≤ 60000 := by
      rw [List.length_append, List.length_singleton]
      have := List.length_filter_le (fun p : Str × Str => !decide (p.1 = sMetric)) l
      omega
    generalize l.filter (fun p => !decide (p.1 = sMetric)) ++ [(sMetric, mm)] = fl at hcat hlab hflen
    obtain ⟨bs, b1, b2, b3⟩ := sort_labs hcc7 hcat hflen
    refine ⟨cc, bs, rfl, b1, b2, fun so hso => ?_⟩
    have s8 := same_new hso (HO.lst ((bs.mergeSort leD).map (·.1)))
    refine ⟨so, _, rfl, .inl ⟨SqL.of upd_same, fun kt hkt => ?_⟩⟩
    have s9 := s8.trans (same_new hkt (HO.tup ((bs.mergeSort leD).map (·.1))))
    have hkt9 : At K (upd (upd H7 so (HO.lst ((bs.mergeSort leD).map (·.1)))) kt (HO.tup ((bs.mergeSort leD).map (·.1)))) (.ref kt) (encL (sortQ fl)) := At.tup_mk (SqT.of upd_same) (b3.same s9)
    generalize upd (upd H7 so (HO.lst ((bs.mergeSort leD).map (·.1)))) kt (HO.tup ((bs.mergeSort leD).map (·.1))) = H9 at s9 hkt9
    have s49 := s7.trans s9
    have hdr9 := s49 _ _ hdr4
    have b5 := hd a5 (by simp)
    have b7 := hd a7 (by simp)
    have b8 := hd a8 (by simp)
    refine ⟨_, rfl, dr, _, _, .int a5, rfl, rfl, SqL.of hdr9, rfl, _, _, rfl, rfl, (by show (0 : Int) < _; decide), ?_⟩
    refine ⟨_, rfl, dr, _, _, .int a7, rfl, rfl, SqL.of hdr9, rfl, _, rfl, dr, _, _, .int a8, rfl, rfl, SqL.of hdr9, rfl, a7, a8, rfl, b7.1, b7.2, b8.1, b8.2, fun nn hnn => ?_⟩
    have sm19 := sm1.trans (s14.trans s49)
    have dat9 := dat.same sm19
    refine ⟨_, rfl, ⟨d0, _, rfl, dat9.at_⟩, _, rfl, _, rfl, (by show 2 ≤ sizeLine; decide), fun kb hkb => ?_⟩
    have s10 := same_new hkb (HO.tup [.ref kt, .int (a5 % 15)])
    have hk10 : At K (upd H9 kb (HO.tup [.ref kt, .int (a5 % 15)])) (.ref kb) (encT (sortQ fl, a5 % 15)) := At.tup_mk (SqT.of upd_same) (.cons (hkt9.same s10) (.cons At.int .nil))
    have dat10 := dat9.same s10
    have sm010 := sm.trans (sm19.trans s10)
    have hp10 := (sm19.trans s10) _ _ hpl
    generalize upd H9 kb (HO.tup [.ref kt, .int (a5 % 15)]) = H10 at s10 hk10 dat10 sm010 hp10
    refine ⟨_, rfl, d0, _, kb, _, .int nn, rfl, rfl, dat10.at_, dat10.ks kfT, key_mk kfT hk10, by rw [enG_len]; exact few63 (by omega), fun u0 hu0 => ?_, fun hn0 => ?_⟩
    · exact ⟨⟨_, _, _, _, _, _, rfl⟩, sm010, hp10, gs, dat10, kept, by omega⟩
    · rw [atE_G kfT] at hn0
      have nk : (sortQ fl, a5 % 15) ∉ gs.map (·.1) := fun hk => by
        obtain ⟨g, hg, eg⟩ := List.mem_map.mp hk
        have := getG_some kept.nd hg
        rw [eg, hn0] at this
        cases this
      have npd : p ≠ d0 := fun e => by
        have h1 := dat10.at_
        rw [← e, hp10] at h1
        cases h1
      exact ⟨⟨_, _, _, _, _, _, rfl⟩, Same.mut sm010 hd0, by rw [upd_ne npd]; exact hp10, gs ++ [((sortQ fl, a5 % 15), kb, V.int nn)], dat10.put (v := .int nn) hk10, kept.snoc nk hlab ⟨by omega, by omega⟩ hnn, by rw [List.length_append, List.length_singleton]; omega⟩
  · obtain ⟨⟨y6, y7, y8, y9, y10, y11, rfl⟩, sm, hpl, gs, dat, kept, hgl⟩ := pi
    rw [List.length_map] at hgl
    have h63 : gs.length ≤ 63 := by omega
    obtain ⟨bs, e1, S, rAll⟩ := dat.sortsT h63
    refine ⟨_, rfl, d0, _, bs, rfl, dat.at_, dat.ks kfT, e1, S, fun srt hsrt => ?_⟩
    have smS := same_new hsrt (HO.lst ((bs.mergeSort leD).map (·.1)))
    have rAll := rAll.same smS
    have hsrt1 : upd H' srt (HO.lst ((bs.mergeSort leD).map (·.1))) srt = some (.lst ((bs.mergeSort leD).map (·.1))) := upd_same
    have datS := dat.same smS
    generalize upd H' srt (HO.lst ((bs.mergeSort leD).map (·.1))) = Hs at smS rAll hsrt1 datS
    refine ⟨srt, rfl, ⟨_, SqL.of hsrt1⟩, fun D hD => ?_⟩
    refine lc_list (xs := (bs.mergeSort leD).map (·.1)) (fun i H2 => Same Hs H2 ∧ ∃ acc, H2 D = some (.lst acc) ∧ AtAll K H2 acc ((((sortT (gs.map (·.1))).take i).map fun k => (k.1, k.2, vInt (getG gs k))).map encS)) ⟨same_new hD _, [], upd_same, .nil⟩ (fun i H2 _ pj => SqL.of (pj.1 _ _ hsrt1)) (fun i x H2 hx pj => ?_) (fun H2 pj => ?_)
    · obtain ⟨sm2, acc, hacc, aAll⟩ := pj
      obtain ⟨k, hk, hA1⟩ := rAll.mget hx
      have km : k ∈ gs.map (·.1) := (List.mergeSort_perm _ _).mem_iff.mp (List.mem_of_getElem? hk)
      obtain ⟨c, y, t, rfl, hc, hy, ht⟩ := (show At K H2 x (.tuple [encL k.1, .int k.2]) from hA1.same sm2).pair
      obtain rfl := ht.int_eq
      refine ⟨c, _, rfl, hc, rfl, y, _, rfl, _, _, rfl, rfl, rfl, _, rfl, _, rfl, _, rfl, _, rfl, _, rfl, (by show 2 ≤ sizeLine; decide), fun kb hkb => ?_⟩
      have s3 := same_new hkb (HO.tup [y, .int k.2])
      have hk3 : At K (upd H2 kb (HO.tup [y, .int k.2])) (.ref kb) (encT k) := At.tup_mk (SqT.of upd_same) (.cons (hy.same s3) (.cons At.int .nil))
      have dat3 := (datS.same sm2).same s3
      refine ⟨d0, _, kb, _, .int (vInt (getG gs k)), rfl, rfl, dat3.at_, dat3.ks kfT, key_mk kfT hk3, by rw [atE_G kfT]; exact (kept.at_ km).2.2.2.1, (by show 3 ≤ sizeLine; decide), fun t2 ht2 => ?_⟩
      have s4 := s3.trans (same_new ht2 (HO.tup [y, .int k.2, .int (vInt (getG gs k))]))
      have hacc4 := s4 _ _ hacc
      refine ⟨acc, hacc4, ?_, Same.mut (sm2.trans s4) hD, acc ++ [.ref t2], upd_same, ?_⟩
      · have h1 := aAll.mlen
        rw [List.length_map, List.length_take, List.length_mergeSort, List.length_map] at h1
        exact few63 (by omega)
      · rw [takex hk, List.map_append, List.map_append]
        exact atAll_snoc (aAll.same s4) (At.tup_mk (SqT.of upd_same) (.cons (hy.same s4) (.cons At.int (.cons At.int .nil)))) hacc4
    · obtain ⟨sm2, acc, hacc, aAll⟩ := pj
      have ln := rAll.mlen
      rw [ln, List.take_length] at aAll
      have smf := sm.trans (smS.trans sm2)
      exact q D (viewOf gs) acc H2 smf (sm.free (smS.free hD)) hacc aAll (view_ok kept h63)

/-! ### _law_case -/
abbrev s47 : Stmt := topS 47
theorem sc47 : FnScope ["_law_script", "_law_names_here", "_law_worths_here", "_law_draws_here", "_law_view_here", "_law_expression_here"] ["_law_script"] (defScope s47) := ⟨rfl, rfl, rfl, by decide +kernel, rfl, by decide +kernel, by decide +kernel⟩

/-- what the law draws of a script -/
structure Case (K : PySem.W.Frag) (H : Hp) (p : Addr) (v : V) (lb : Int) (va : Addr) (t : Int) (n u : Addr) (e : Ex) (view : List Smp) (vs : List V) : Prop where
  tup : H p = some (.tup [v, .int lb, .ref va, .int t, .ref n, .ref u])
  ex : At K H v (encE e)
  gd : Gd e
  small : sz e ≤ 20
  l1 : 1 ≤ lb
  l12 : lb ≤ 12
  vw : H va = some (.lst vs)
  vat : AtAll K H vs (view.map encS)
  vok : ViewOk view
  t0 : 0 ≤ t
  t20 : t ≤ 20
def spCase (K : PySem.W.Frag) : Sp := fun vs H Q _ => ∃ (a : Addr) (zs : List Int), vs = [.ref a] ∧ SqL K H a (zs.map V.int) ∧ zs.length ≤ 63 ∧ ∀ p v lb va t n u e view vs H', Same H H' → Case K H' p v lb va t n u e view vs → Q (.ref p) H'
theorem ok47 {f : Addr} {fd : FuncData} (F : Fun K "_law_case" "_law_case" s47 f fd) {f28 : Addr} {fd28 : FuncData} (G28 : FnOk P w K mg base CX0 2 f28 fd28 ["_law_cell_here", "_law_many"] spStrs) (k28 : PySem.W.keepIn K (.ref f28) = true) (b28 : Binds K fd28 ["_law_cell_here", "_law_many"] []) (m28 : mg "_law_names" = some (.ref f28)) {f29 : Addr} {fd29 : FuncData} (G29 : FnOk P w K mg base CX0 2 f29 fd29 ["_law_cell_here", "_law_many"] spStrs) (k29 : PySem.W.keepIn K (.ref f29) = true) (b29 : Binds K fd29 ["_law_cell_here", "_law_many"] []) (m29 : mg "_law_worths" = some (.ref f29)) {f23 : Addr} {fd23 : FuncData} (G23 : FnOk P w K mg base CX0 1 f23 fd23 ["_law_script", "_law_k"] (spCell K)) (k23 : PySem.W.keepIn K (.ref f23) = true) (b23 : Binds K fd23 ["_law_script", "_law_k"] []) (m23 : mg "_law_cell" = some (.ref f23))
    {f24 : Addr} {fd24 : FuncData} (G24 : FnOk P w K mg base CX0 1 f24 fd24 ["_law_cell_here", "_law_many"] spDraws) (k24 : PySem.W.keepIn K (.ref f24) = true) (b24 : Binds K fd24 ["_law_cell_here", "_law_many"] []) (m24 : mg "_law_draws" = some (.ref f24)) {f37 : Addr} {fd37 : FuncData} (G37 : FnOk P w K mg base CX0 2 f37 fd37 ["_law_script", "_law_begin", "_law_names_here", "_law_worths_here", "_law_metrics"] (spView K)) (k37 : PySem.W.keepIn K (.ref f37) = true) (b37 : Binds K fd37 ["_law_script", "_law_begin", "_law_names_here", "_law_worths_here", "_law_metrics"] []) (m37 : mg "_law_view" = some (.ref f37)) {f36 : Addr} {fd36 : FuncData} (G36 : FnOk P w K mg base CX0 24 f36 fd36 ["_law_script", "_law_begin", "_law_end", "_law_names_here", "_law_worths_here", "_law_sound"] (spOfS K)) (k36 : PySem.W.keepIn K (.ref f36) = true) (b36 : Binds K fd36 ["_law_script", "_law_begin", "_law_end", "_law_names_here", "_law_worths_here", "_law_sound"] []) (m36 : mg "_law_of_script" = some (.ref f36)) : FnOk P w K mg base CX0 25 f fd ["_law_script"] (spCase K) := by
  refine F.ok sc47 (fun vs H Q E h => ?_) (fun cdv A outer s H vs Q E hr h => ?_)
  · obtain ⟨a, zs, rfl, _⟩ := h
    rfl
  obtain ⟨a, zs, rfl, hzs, hzl, q⟩ := h
  have hr1 := hr.mono (show 1 ≤ 24 by decide)
  have hr2 := hr.mono (show 2 ≤ 24 by decide)
  refine ⟨_, (pss_cons (ps_set (i := 1) sc47.nd rfl (Or.inl rfl) (pe_call G28 hr2 rfl m28 k28 b28 .nil pass0 (pa_cons (pe_call G23 hr1 rfl m23 k23 b23 .nil pass0 (pa_cons (pv 0) (pa_cons pe_int pa_nil))) (pa_cons pe_int pa_nil)))) (pss_cons (ps_set (i := 2) sc47.nd rfl (Or.inl rfl) (pe_call G29 hr2 rfl m29 k29 b29 .nil pass0 (pa_cons (pe_call G23 hr1 rfl m23 k23 b23 .nil pass0 (pa_cons (pv 0) (pa_cons pe_int pa_nil))) (pa_cons pe_int pa_nil)))) (pss_cons (ps_set (i := 3) sc47.nd rfl (Or.inl rfl) (pe_call G24 hr1 rfl m24 k24 b24 .nil pass0 (pa_cons (pe_call G23 hr1 rfl m23 k23 b23 .nil pass0 (pa_cons (pv 0) (pa_cons pe_int pa_nil))) (pa_cons pe_int pa_nil)))) (pss_cons (ps_set (i := 4) sc47.nd rfl (Or.inl rfl) (pe_call G37 hr2 rfl m37 k37 b37 .nil pass0 (pa_cons (pv 0) (pa_cons pe_int (pa_cons (pv 1) (pa_cons (pv 2) (pa_cons (pe_slice sl_list (pv 1) po_none (po_some pe_int)) pa_nil))))))) (pss_cons (ps_set (i := 5) sc47.nd rfl (Or.inl rfl) (pe_call G36 hr rfl m36 k36 b36 .nil pass0 (pa_cons (pv 0) (pa_cons pe_int (pa_cons pe_int (pa_cons (pe_slice sl_list (pv 1) po_none (po_some pe_int)) (pa_cons (pv 2) (pa_cons pe_bl pa_nil)))))))) (pss_one (ps_ret (pe_tup (pa_cons (pv 5) (pa_cons (pe_op op_add pe_int (pe_op op_mod (pe_ix ix_list (pv 3) pe_int (fun _ _ => rfl)) pe_int)) (pa_cons (pv 4) (pa_cons (pe_op op_mod (pe_ix ix_list (pv 3) pe_int (fun _ _ => rfl)) pe_int) (pa_cons (pv 1) (pa_cons (pv 2) pa_nil)))))))))))))), ?_⟩
  refine ⟨_, rfl, a, zs, 0, rfl, hzs, by decide, fun z0 => ?_⟩
  refine ⟨z0, 3, 3, rfl, rfl, by decide, fun n xs H1 sm1 nn hxs hxl => ?_⟩
  refine ⟨_, rfl, a, zs, 1, rfl, sm1.seq hzs, by decide, fun z1 => ?_⟩
  refine ⟨z1, 3, 3, rfl, rfl, by decide, fun u ws H2 sm2 nu hws hwl => ?_⟩
  have sm12 := sm1.trans sm2
  refine ⟨_, rfl, a, zs, 2, rfl, sm12.seq hzs, by decide, fun z2 => ?_⟩
  refine ⟨z2, 3, 3, rfl, rfl, by decide, fun dr ds H3 sm3 nd hds hd hdl => ?_⟩
  have sm13 := sm12.trans sm3
  obtain ⟨x0, x1, x2, rfl⟩ := three_of hxl
  obtain ⟨w0, w1, w2, rfl⟩ := three_of hwl
  obtain ⟨d0, d1, d2, rfl⟩ := three_of hdl
  have b0 := hd d0 (by simp)
  have b1 := hd d1 (by simp)
  have hxs3 : SqL K H3 n ([x0, x1, x2].map V.str) := SqL.of ((sm2.trans sm3) _ _ hxs)
  have hws3 := sm3 _ _ hws
  refine ⟨_, rfl, _, rfl, _, rfl, _, rfl, _, rfl, n, _, rfl, hxs3, fun ms hms => ?_⟩
  have smm := same_new hms (HO.lst ([x0, x1].map V.str))
  have em : cutV ([x0, x1, x2].map V.str) none (some 2) = [x0, x1].map V.str := rfl
  rw [em]
  have hms3 : SqL K (upd H3 ms (HO.lst ([x0, x1].map V.str))) ms ([x0, x1].map V.str) := SqL.of upd_same
  generalize upd H3 ms (HO.lst ([x0, x1].map V.str)) = H4 at smm hms3
  have sm14 := sm13.trans smm
  refine ⟨a, n, u, ms, zs, [x0, x1, x2], [w0, w1, w2], [x0, x1], 13, rfl, sm14.seq hzs, hzl, smm.seq hxs3, by simp, SqL.of (smm _ _ hws3), by simp, hms3, by simp, fun va view vs H5 sm5 nva hva hvat hvok => ?_⟩
  have sm15 := sm14.trans sm5
  have hxs5 := (smm.trans sm5).seq hxs3
  refine ⟨_, rfl, _, rfl, _, rfl, n, _, rfl, hxs5, fun m2 hm2 => ?_⟩
  rw [em]
  have smn := same_new hm2 (HO.lst ([x0, x1].map V.str))
  have hm5 : SqL K (upd H5 m2 (HO.lst ([x0, x1].map V.str))) m2 ([x0, x1].map V.str) := SqL.of upd_same
  generalize upd H5 m2 (HO.lst ([x0, x1].map V.str)) = H6 at smn hm5
  refine ⟨_, rfl, a, m2, u, zs, [x0, x1], [w0, w1, w2], rfl, (sm15.trans smn).seq hzs, hm5, by simp, ((smm.trans sm5).trans smn) _ _ hws3, by simp, (by show 3 ≤ 100; decide), fun v e H7 sm7 hv hg hs => ?_⟩
  have hdr : SqL K H7 dr [.int d0, .int d1, .int d2] := SqL.of ((((smm.trans sm5).trans smn).trans sm7) _ _ hds)
  refine ⟨_, rfl, _, rfl, dr, _, _, .int d0, rfl, rfl, hdr, rfl, _, _, rfl, rfl, (by show (0 : Int) < _; decide), _, _, rfl, rfl, _, rfl, _, rfl, dr, _, _, .int d1, rfl, rfl, hdr, rfl, _, _, rfl, rfl, (by show (0 : Int) < _; decide), _, rfl, _, rfl, (by show 6 ≤ sizeLine; decide), fun p hp => ?_⟩
  have sm8 := same_new hp (HO.tup [v, .int (1 + d0 % 12), .ref va, .int (d1 % 21), .ref n, .ref u])
  exact q p v (1 + d0 % 12) va (d1 % 21) n u e view vs _ (((sm15.trans smn).trans sm7).trans sm8) ⟨upd_same, hv.same sm8, hg, hs, by omega, by omega, ((smn.trans sm7).trans sm8) _ _ hva, hvat.same ((smn.trans sm7).trans sm8), hvok, by omega, by omega⟩
end
end L2.Q9


set_option Elab.async false
set_option linter.all false
set_option maxRecDepth 100000
set_option maxHeartbeats 4000000
/-! Q9: the law. -/
namespace L2.Q9
open PySem PySem.Spec PyProof.Rows


theorem isi_tup {K : PySem.W.Frag} {H : Hp} {a : Addr} {xs : List V} (h : SqT K H a xs) : TyX K H (.ref a) (.type "tuple") := by
  rcases h with (h | ⟨o, h⟩) | ⟨o, its, n, h, c, _⟩
  · exact .base (.tup h)
  · exact .fTuple h
  · exact .kTuple h c
theorem asc_at {v : Vec} (h : Asc v) {i : Nat} {p q : Lab × Int} (hp : v[i]? = some p) (hq : v[i + 1]? = some q) : ltL p.1 q.1 = true := by
  obtain ⟨h1, rfl⟩ := List.getElem?_eq_some_iff.mp hp
  obtain ⟨h2, rfl⟩ := List.getElem?_eq_some_iff.mp hq
  exact List.pairwise_iff_getElem.mp h i (i + 1) h1 h2 (Nat.lt_succ_self i)
theorem depth_list {α : Type} {f : α → PyData} {n : Nat} (h : ∀ a, (f a).depth ≤ n) (l : List α) : (PyData.list (l.map f)).depth ≤ n + 1 := by
  have := depthAll_map h l
  simp only [PyData.depth]
  omega
theorem plain_list {α : Type} {f : α → PyData} (h : ∀ a, im (f a) = true) (l : List α) : (PyData.list (l.map f)).plain = true := by
  rw [PyData.plain]
  exact plainAll_im _ (imAll_map h l)
theorem VecAt.dp {K : PySem.W.Frag} {H : Hp} {a : Addr} {v : Vec} (h : VecAt K H a v) : Dp K H (.ref a) (.list (v.map encP)) := by
  obtain ⟨vs, h1, h2⟩ := h
  exact .lst (SqL.of h1) h2.dpAll.1
section
variable {X : Cx} {K : PySem.W.Frag}
theorem x_eqP (eK : X.K = K) (hu : X.A.units + 64 < cLine) : OpR X (compareOp .Eq) (rEqP K) := by
  subst eK
  exact op_eqP hu
theorem x_neP (eK : X.K = K) (hu : X.A.units + 64 < cLine) : OpR X (compareOp .NotEq) (rNeP K) := by
  subst eK
  exact op_neP hu
theorem x_ltD (eK : X.K = K) (hu : X.A.units + 64 < cLine) : OpR X (compareOp .Lt) (rLtD K) := by
  subst eK
  exact op_ltD hu
end
section
variable {P : Program} {w : World} {K : PySem.W.Frag} {mg : Str → Option Value} {base : Heap}

/-! ### _law_is_vector -/
abbrev s48 : Stmt := topS 48
theorem sc48 : FnScope ["_law_actual", "_law_k"] ["_law_actual"] (defScope s48) := ⟨rfl, rfl, rfl, by decide +kernel, rfl, by decide +kernel, by decide +kernel⟩

def spIsVec (K : PySem.W.Frag) : Sp := fun vs H Q _ => ∃ (a : Addr) (v : Vec), vs = [.ref a] ∧ VecAt K H a v ∧ Asc v ∧ v.length ≤ 60000 ∧ Q (.bl true) H
theorem ok48 {f : Addr} {fd : FuncData} (F : Fun K "_law_is_vector" "_law_is_vector" s48 f fd) {f25 : Addr} {fd25 : FuncData} (G25 : FnOk P w K mg base CX0 1 f25 fd25 ["_law_actual"] spIsInt) (k25 : PySem.W.keepIn K (.ref f25) = true) (b25 : Binds K fd25 ["_law_actual"] []) (m25 : mg "_law_is_integer" = some (.ref f25)) (misi : mg "isinstance" = none) (mlist : mg "list" = none) (mtup : mg "tuple" = none) (ml : mg "len" = none) (mr : mg "range" = none) : FnOk P w K mg base CX0 2 f fd ["_law_actual"] (spIsVec K) := by
  refine F.ok sc48 (fun vs H Q E h => ?_) (fun cdv A outer s H vs Q E hr h => ?_)
  · obtain ⟨a, v, rfl, _⟩ := h
    rfl
  obtain ⟨a, v, rfl, hv, hasc, hl, q⟩ := h
  have hu := hr.units
  refine ⟨_, (pss_cons (ps_if (pt_not (pt_val (pe_callB call_isi (by rfl) misi boot_isinstance (pa_cons (pv 0) (pa_cons (pe_bltn (v := .ty "list") (by rfl) mlist boot_list rfl) pa_nil))))) (pss_one (ps_ret pe_bl)) pss_nil) (pss_cons (ps_for PassesOwn.never rfl (pi_range1 (by rfl) mr (pa_cons (pe_callB call_len_seq (by rfl) ml boot_len (pa_cons (pv 0) pa_nil)) pa_nil)) (pg_name (i := 1) sc48.nd rfl (Or.inl rfl)) (pss_cons (ps_if (PW.pt (pw_or (pt_not (pt_val (pe_callB call_isi (by rfl) misi boot_isinstance (pa_cons (pe_ix ix_list (pv 0) (pv 1) (fun _ _ => rfl)) (pa_cons (pe_bltn (v := .ty "tuple") (by rfl) mtup boot_tuple rfl) pa_nil))))) (pw_or (pt_cmpR op_ne (pe_callB call_len_seq (by rfl) ml boot_len (pa_cons (pe_ix ix_list (pv 0) (pv 1) (fun _ _ => rfl)) pa_nil)) pe_int (nomark _)) (pw_or1 (pt_not (pt_val (pe_call G25 hr rfl m25 k25 b25 .nil pass0 (pa_cons (pe_ix ix_tup (pe_ix ix_list (pv 0) (pv 1) (fun _ _ => rfl)) pe_int (fun _ _ => rfl)) pa_nil)))))))) (pss_one (ps_ret pe_bl)) pss_nil) (pss_one (ps_if (PW.pt (pw_and (pt_cmpR op_gt (pv 1) pe_int (nomark _)) (pw_and1 (pt_not (pt_cmpR (x_ltD (K := K) rfl hu) (pe_ix ix_tup (pe_ix ix_list (pv 0) (pe_op op_sub (pv 1) pe_int) (fun _ _ => rfl)) pe_int (fun _ _ => rfl)) (pe_ix ix_tup (pe_ix ix_list (pv 0) (pv 1) (fun _ _ => rfl)) pe_int (fun _ _ => rfl)) (nomark _)))))) (pss_one (ps_ret pe_bl)) pss_nil)))) (pss_one (ps_ret pe_bl)))), ?_⟩
  obtain ⟨vs, hS, hA⟩ := hv
  have ln := hA.mlen
  have hSq : SqL K H a vs := SqL.of hS
  refine ⟨_, rfl, _, _, _, _, true, rfl, .ty "list", isi_lst hS, kit_ty (by decide +kernel), _, rfl, iteF ?_⟩
  refine ⟨_, rfl, a, _, rfl, .inl hSq, _, rfl, by omega, by omega, ?_⟩
  rw [Int.toNat_natCast]
  refine for_range (fun i σ H' => H' = H ∧ ∃ y, σ = [some (.ref a), y]) ⟨rfl, none, rfl⟩ (fun i σ H' hi p => ?_) (fun σ H' p => ?_)
  · obtain ⟨rfl, y, rfl⟩ := p
    have hx : vs[i]? = some vs[i] := List.getElem?_eq_getElem hi
    generalize vs[i] = x at hx
    have ax : atI vs (0 + (i : Int)) = some x := at_of (by omega) hx
    obtain ⟨pr, hp, hA1⟩ := hA.mget hx
    obtain ⟨c, k, rfl, hc, hk⟩ := hA1.P
    refine ⟨_, rfl, _, rfl, a, _, _, .ref c, rfl, rfl, hSq, ax, _, _, _, _, true, rfl, .ty "tuple", isi_tup hc, kit_ty (by decide +kernel), _, rfl, iteF ?_⟩
    refine ⟨_, rfl, _, rfl, a, _, _, .ref c, rfl, rfl, hSq, ax, c, _, rfl, .inr hc, rfl, _, rfl, iteF ?_⟩
    refine ⟨_, rfl, _, rfl, a, _, _, .ref c, rfl, rfl, hSq, ax, c, _, _, .int pr.2, rfl, rfl, hc, rfl, pr.2, rfl, _, rfl, iteF ?_⟩
    refine ⟨_, rfl, _, _, rfl, rfl, _, rfl, iteB (fun c1 => ?_) (fun _ => iteF ⟨rfl, _, rfl⟩)⟩
    have c1 := of_decide_eq_true c1
    obtain ⟨j, rfl⟩ : ∃ j, i = j + 1 := ⟨i - 1, by omega⟩
    have hj : j < vs.length := by omega
    have hx2 : vs[j]? = some vs[j] := List.getElem?_eq_getElem hj
    generalize vs[j] = x2 at hx2
    have ax2 : atI vs (0 + ((j + 1 : Nat) : Int) - 1) = some x2 := at_of (j := j) (by omega) hx2
    obtain ⟨pr2, hp2, hA2⟩ := hA.mget hx2
    obtain ⟨c2, k2, rfl, hc2, hk2⟩ := hA2.P
    have lt := asc_at hasc hp2 hp
    refine ⟨_, rfl, _, rfl, _, _, rfl, rfl, a, _, _, .ref c2, rfl, rfl, hSq, ax2, c2, _, _, k2, rfl, rfl, hc2, rfl, _, rfl, _, rfl, a, _, _, .ref c, rfl, rfl, hSq, ax, c, _, _, k, rfl, rfl, hc, rfl, encL pr2.1, encL pr.1, hk2.dp, hk.dp, alike_L _ _, (by unfold encL; simp), Nat.le_trans (depth_L _) (by decide), _, rfl, ?_⟩
    have lt' : PySem.W.dataLt (encL pr2.1) (encL pr.1) = true := lt
    rw [lt']
    exact iteF ⟨rfl, _, rfl⟩
  · obtain ⟨rfl, y, rfl⟩ := p
    exact q

/-! ### law -/
abbrev s49 : Stmt := topS 49
theorem sc49 : FnScope ["_law_script", "_law_expression_here", "_law_lookback", "_law_view_here", "_law_time", "_law_names_here", "_law_worths_here", "_law_handed", "_law_actual"] ["_law_script"] (defScope s49) := ⟨rfl, rfl, rfl, by decide +kernel, rfl, by decide +kernel, by decide +kernel⟩

def spLaw (K : PySem.W.Frag) : Sp := fun vs H Q _ => ∃ (a : Addr) (zs : List Int), vs = [.ref a] ∧ SqL K H a (zs.map V.int) ∧ zs.length ≤ 63 ∧ ∀ H', Q (.bl true) H'
theorem ok49 {f : Addr} {fd : FuncData} (F : Fun K "law" "law" s49 f fd) {f47 : Addr} {fd47 : FuncData} (G47 : FnOk P w K mg base CX0 25 f47 fd47 ["_law_script"] (spCase K)) (k47 : PySem.W.keepIn K (.ref f47) = true) (b47 : Binds K fd47 ["_law_script"] []) (m47 : mg "_law_case" = some (.ref f47)) {f21 : Addr} {fd21 : FuncData} (G21 : FnOk P w K mg base CX0 26 f21 fd21 ["expression", "lookback", "view", "time"] (spVal K 20)) (k21 : PySem.W.keepIn K (.ref f21) = true) (b21 : Binds K fd21 ["expression", "lookback", "view", "time"] []) (m21 : mg "value_at" = some (.ref f21)) {f46 : Addr} {fd46 : FuncData} (G46 : FnOk P w K mg base CX0 24 f46 fd46 ["_law_expression_here", "_law_lookback", "_law_view_here", "_law_time"] (spVal K 20)) (k46 : PySem.W.keepIn K (.ref f46) = true) (b46 : Binds K fd46 ["_law_expression_here", "_law_lookback", "_law_view_here", "_law_time"] []) (m46 : mg "_law_value" = some (.ref f46))
    {f32 : Addr} {fd32 : FuncData} (G32 : FnOk P w K mg base CX0 21 f32 fd32 ["_law_expression_here"] (spKind K 20)) (k32 : PySem.W.keepIn K (.ref f32) = true) (b32 : Binds K fd32 ["_law_expression_here"] []) (m32 : mg "_law_kind" = some (.ref f32)) {f25 : Addr} {fd25 : FuncData} (G25 : FnOk P w K mg base CX0 1 f25 fd25 ["_law_actual"] spIsInt) (k25 : PySem.W.keepIn K (.ref f25) = true) (b25 : Binds K fd25 ["_law_actual"] []) (m25 : mg "_law_is_integer" = some (.ref f25)) {f48 : Addr} {fd48 : FuncData} (G48 : FnOk P w K mg base CX0 2 f48 fd48 ["_law_actual"] (spIsVec K)) (k48 : PySem.W.keepIn K (.ref f48) = true) (b48 : Binds K fd48 ["_law_actual"] []) (m48 : mg "_law_is_vector" = some (.ref f48)) (mlist : mg "list" = none) : FnOk P w K mg base CX0 27 f fd ["_law_script"] (spLaw K) := by
  refine F.ok sc49 (fun vs H Q E h => ?_) (fun cdv A outer s H vs Q E hr h => ?_)
  · obtain ⟨a, zs, rfl, _⟩ := h
    rfl
  obtain ⟨a, zs, rfl, hzs, hzl, q⟩ := h
  have hu := hr.units
  have hr25 := hr.mono (show 25 ≤ 26 by decide)
  have hr24 := hr.mono (show 24 ≤ 26 by decide)
  have hr21 := hr.mono (show 21 ≤ 26 by decide)
  have hr2 := hr.mono (show 2 ≤ 26 by decide)
  have hr1 := hr.mono (show 1 ≤ 26 by decide)
  refine ⟨_, (pss_cons (ps_asg (pe_call G47 hr25 rfl m47 k47 b47 .nil pass0 (pa_cons (pv 0) pa_nil)) (pg_tup rfl (pgs_cons (pg_name (i := 1) sc49.nd rfl (Or.inl rfl)) (pgs_cons (pg_name (i := 2) sc49.nd rfl (Or.inl rfl)) (pgs_cons (pg_name (i := 3) sc49.nd rfl (Or.inl rfl)) (pgs_cons (pg_name (i := 4) sc49.nd rfl (Or.inl rfl)) (pgs_cons (pg_name (i := 5) sc49.nd rfl (Or.inl rfl)) (pgs_cons (pg_name (i := 6) sc49.nd rfl (Or.inl rfl)) pgs_nil)))))))) (pss_cons (ps_set (i := 7) sc49.nd rfl (Or.inl rfl) (pe_callTy call_list_of (by rfl) mlist boot_list (pa_cons (pv 3) pa_nil))) (pss_cons (ps_set (i := 8) sc49.nd rfl (Or.inl rfl) (pe_call G21 hr rfl m21 k21 b21 .nil pass0 (pa_cons (pv 1) (pa_cons (pv 2) (pa_cons (pv 7) (pa_cons (pv 4) pa_nil)))))) (pss_cons (ps_if (pt_cmpR (x_neP (K := K) rfl hu) (pv 7) (pv 3) (nomark _)) (pss_one (ps_ret pe_bl)) pss_nil) (pss_cons (ps_if (pt_cmpR op_eq (pe_call G32 hr21 rfl m32 k32 b32 .nil pass0 (pa_cons (pv 1) pa_nil)) pe_str (nomark _)) (pss_one (ps_ret (pe_and (pe_call G25 hr1 rfl m25 k25 b25 .nil pass0 (pa_cons (pv 8) pa_nil)) (pe_one (pe_cmpR (x_eqP (K := K) rfl hu) (pv 8) (pe_call G46 hr24 rfl m46 k46 b46 .nil pass0 (pa_cons (pv 1) (pa_cons (pv 2) (pa_cons (pv 3) (pa_cons (pv 4) pa_nil))))) (nomark _)))))) pss_nil) (pss_one (ps_ret (pe_and (pe_call G48 hr2 rfl m48 k48 b48 .nil pass0 (pa_cons (pv 8) pa_nil)) (pe_one (pe_cmpR (x_eqP (K := K) rfl hu) (pv 8) (pe_call G46 hr24 rfl m46 k46 b46 .nil pass0 (pa_cons (pv 1) (pa_cons (pv 2) (pa_cons (pv 3) (pa_cons (pv 4) pa_nil))))) (nomark _))))))))))), ?_⟩
  refine ⟨_, rfl, a, zs, rfl, hzs, hzl, fun p v lb va t n u e view vs H1 sm1 c => ?_⟩
  obtain ⟨ka, hka⟩ := c.gd.kd
  have hte := ht_sz e
  have hse := c.small
  have vok := c.vok
  obtain ⟨o1, o2⟩ := ev_ok vok lb t e ka c.gd.ok hka (by omega)
  refine ⟨p, _, rfl, SqT.of c.tup, rfl, _, _, rfl, _, _, rfl, _, _, rfl, _, _, rfl, _, _, rfl, _, _, rfl, rfl, ?_⟩
  refine ⟨_, rfl, va, _, rfl, .inl (SqL.of c.vw), fun hd hhd => ?_⟩
  have s2 := same_new hhd (HO.lst vs)
  have hh2 : upd H1 hd (HO.lst vs) hd = some (.lst vs) := upd_same
  have ex2 := c.ex.same s2
  have vw2 := s2 _ _ c.vw
  have vat2 := c.vat.same s2
  generalize upd H1 hd (HO.lst vs) = H2 at s2 hh2 ex2 vw2 vat2
  refine ⟨_, rfl, _, rfl, _, rfl, _, rfl, v, lb, hd, t, e, view, rfl, ex2, by omega, ⟨vs, SqL.of hh2, vat2⟩, vok, c.t0, c.t20, c.l1, by have := c.l12; omega, c.gd.ok, by rw [hka]; rfl, by omega, fun v1 H3 sm3 hv1 => ?_⟩
  have dA : Dp K H3 (.ref hd) (.list (view.map encS)) := .lst (SqL.of (sm3 _ _ hh2)) (vat2.same sm3).dpAll.1
  have dB : Dp K H3 (.ref va) (.list (view.map encS)) := .lst (SqL.of (sm3 _ _ vw2)) (vat2.same sm3).dpAll.1
  refine ⟨_, rfl, _, rfl, _, _, dA, dB, plain_list im_S view, plain_list im_S view, Nat.le_trans (depth_list depth_S view) (by decide), _, rfl, ?_⟩
  rw [SeqAt.eqv_refl_plain _ (plain_list im_S view)]
  refine iteF ?_
  refine ⟨_, rfl, v, e, ka, rfl, ex2.same sm3, by omega, hka, fun H4 sm4 => ⟨rfl, _, rfl, ?_⟩⟩
  have s34 := sm3.trans sm4
  have ex4 := ex2.same s34
  have hv4 := hv1.same sm4
  have vv4 : ViewAt K H4 va view := ⟨vs, SqL.of (s34 _ _ vw2), vat2.same s34⟩
  cases ka with
  | num =>
    refine strT (fun _ => ?_) (fun c => absurd rfl c)
    cases e1 : ev lb view t e with
    | vec x => rw [e1] at o2; cases o2
    | num k =>
      rw [e1] at hv4
      obtain rfl : v1 = .int k := hv4
      refine ⟨_, rfl, k, rfl, _, rfl, iteT ?_⟩
      refine ⟨_, rfl, _, rfl, _, rfl, _, rfl, _, rfl, v, lb, va, t, e, view, rfl, ex4, by omega, vv4, vok, c.t0, c.t20, c.l1, by have := c.l12; omega, c.gd.ok, by rw [hka]; rfl, by omega, fun v2 H5 sm5 hv2 => ?_⟩
      rw [e1] at hv2
      obtain rfl : v2 = .int k := hv2
      refine ⟨.int k, .int k, .int k, .int k, rfl, rfl, by simp [PyData.depth], ?_⟩
      rw [SeqAt.eqv_refl_plain _ rfl]
      exact q H5
  | vec =>
    refine strT (fun c => absurd c (by decide)) (fun _ => ?_)
    cases e1 : ev lb view t e with
    | num k => rw [e1] at o2; cases o2
    | vec x =>
      rw [e1] at hv4 o1
      obtain ⟨b1, rfl, hb1⟩ := hv4
      have o1 : VOk (63 * sz e) (81 * sz e) x := o1
      have ol := o1.len
      refine ⟨_, rfl, b1, x, rfl, hb1, o1.asc, by omega, _, rfl, iteT ?_⟩
      refine ⟨_, rfl, _, rfl, _, rfl, _, rfl, _, rfl, v, lb, va, t, e, view, rfl, ex4, by omega, vv4, vok, c.t0, c.t20, c.l1, by have := c.l12; omega, c.gd.ok, by rw [hka]; rfl, by omega, fun v2 H5 sm5 hv2 => ?_⟩
      rw [e1] at hv2
      obtain ⟨b2, rfl, hb2⟩ := hv2
      refine ⟨_, _, (hb1.same sm5).dp, hb2.dp, plain_list im_P x, plain_list im_P x, Nat.le_trans (depth_list depth_P x) (by decide), ?_⟩
      rw [SeqAt.eqv_refl_plain _ (plain_list im_P x)]
      exact q H5
end
end L2.Q9


set_option Elab.async false
set_option linter.all false
set_option maxRecDepth 100000
set_option maxHeartbeats 0
/-! Q9: the head, the facts, the end. -/
namespace L2.Q9
open PySem PySem.Spec PyProof.Rows
abbrev FnP (K : PySem.W.Frag) (x : Str) (st : Stmt) (f : Addr) (fd : FuncData) : Prop := FunD K x x (defArgs st) (defBody st) (defScope st) [] [] f fd
theorem fun_of {K : PySem.W.Frag} {x : Str} {st : Stmt} {f : Addr} {fd : FuncData} (F : FnP K x st f fd) : Fun K x x st f fd := by
  obtain ⟨oc, od, dV, kV, doc, pm, an, cdv, ct, osl, e, lk, hc, hd, _⟩ := F.ex
  have e2 : dV = .none := by
    rcases hd with ⟨_, h⟩ | ⟨h, _⟩
    · exact h
    · exact absurd rfl h
  subst e2
  exact ⟨⟨oc, od, kV, doc, pm, an, cdv, ct, osl, e, lk, hc⟩, F.kp⟩

def dd2 : He.DefD := ⟨("value_of", none), "value_of", "value_of", defArgs s2, defBody s2, defScope s2, [], []⟩
def dd3 : He.DefD := ⟨("without", none), "without", "without", defArgs s3, defBody s3, defScope s3, [], []⟩
def dd4 : He.DefD := ⟨("only", none), "only", "only", defArgs s4, defBody s4, defScope s4, [], []⟩
def dd5 : He.DefD := ⟨("matches", none), "matches", "matches", defArgs s5, defBody s5, defScope s5, [], []⟩
def dd6 : He.DefD := ⟨("matches_all", none), "matches_all", "matches_all", defArgs s6, defBody s6, defScope s6, [], []⟩
def dd8 : He.DefD := ⟨("compute", none), "compute", "compute", defArgs s8, defBody s8, defScope s8, [], []⟩
def dd9 : He.DefD := ⟨("holds", none), "holds", "holds", defArgs s9, defBody s9, defScope s9, [], []⟩
def dd10 : He.DefD := ⟨("join", none), "join", "join", defArgs s10, defBody s10, defScope s10, [], []⟩
def dd11 : He.DefD := ⟨("binary_vectors", none), "binary_vectors", "binary_vectors", defArgs s11, defBody s11, defScope s11, [], []⟩
def dd12 : He.DefD := ⟨("binary", none), "binary", "binary", defArgs s12, defBody s12, defScope s12, [], []⟩
def dd13 : He.DefD := ⟨("aggregate_values", none), "aggregate_values", "aggregate_values", defArgs s13, defBody s13, defScope s13, [], []⟩
def dd14 : He.DefD := ⟨("aggregate", none), "aggregate", "aggregate", defArgs s14, defBody s14, defScope s14, [], []⟩
def dd16 : He.DefD := ⟨("is_read", none), "is_read", "is_read", defArgs s16, defBody s16, defScope s16, [], []⟩
def dd17 : He.DefD := ⟨("windows", none), "windows", "windows", defArgs s17, defBody s17, defScope s17, [], []⟩
def dd18 : He.DefD := ⟨("increase", none), "increase", "increase", defArgs s18, defBody s18, defScope s18, [], []⟩
def dd19 : He.DefD := ⟨("over", none), "over", "over", defArgs s19, defBody s19, defScope s19, [], []⟩
def dd21 : He.DefD := ⟨("value_at", none), "value_at", "value_at", defArgs s21, defBody s21, defScope s21, [], []⟩
def dd23 : He.DefD := ⟨("_law_cell", none), "_law_cell", "_law_cell", defArgs s23, defBody s23, defScope s23, [], []⟩
def dd24 : He.DefD := ⟨("_law_draws", none), "_law_draws", "_law_draws", defArgs s24, defBody s24, defScope s24, [], []⟩
def dd25 : He.DefD := ⟨("_law_is_integer", none), "_law_is_integer", "_law_is_integer", defArgs s25, defBody s25, defScope s25, [], []⟩
def dd26 : He.DefD := ⟨("_law_name", none), "_law_name", "_law_name", defArgs s26, defBody s26, defScope s26, [], []⟩
def dd27 : He.DefD := ⟨("_law_worth", none), "_law_worth", "_law_worth", defArgs s27, defBody s27, defScope s27, [], []⟩
def dd28 : He.DefD := ⟨("_law_names", none), "_law_names", "_law_names", defArgs s28, defBody s28, defScope s28, [], []⟩
def dd29 : He.DefD := ⟨("_law_worths", none), "_law_worths", "_law_worths", defArgs s29, defBody s29, defScope s29, [], []⟩
def dd30 : He.DefD := ⟨("_law_labels", none), "_law_labels", "_law_labels", defArgs s30, defBody s30, defScope s30, [], []⟩
def dd31 : He.DefD := ⟨("_law_number", none), "_law_number", "_law_number", defArgs s31, defBody s31, defScope s31, [], []⟩
def dd32 : He.DefD := ⟨("_law_kind", none), "_law_kind", "_law_kind", defArgs s32, defBody s32, defScope s32, [], []⟩
def dd33 : He.DefD := ⟨("_law_leaf", none), "_law_leaf", "_law_leaf", defArgs s33, defBody s33, defScope s33, [], []⟩
def dd34 : He.DefD := ⟨("_law_sign", none), "_law_sign", "_law_sign", defArgs s34, defBody s34, defScope s34, [], []⟩
def dd35 : He.DefD := ⟨("_law_expression", none), "_law_expression", "_law_expression", defArgs s35, defBody s35, defScope s35, [], []⟩
def dd36 : He.DefD := ⟨("_law_of_script", none), "_law_of_script", "_law_of_script", defArgs s36, defBody s36, defScope s36, [], []⟩
def dd37 : He.DefD := ⟨("_law_view", none), "_law_view", "_law_view", defArgs s37, defBody s37, defScope s37, [], []⟩
def dd38 : He.DefD := ⟨("_law_told", none), "_law_told", "_law_told", defArgs s38, defBody s38, defScope s38, [], []⟩
def dd39 : He.DefD := ⟨("_law_reads", none), "_law_reads", "_law_reads", defArgs s39, defBody s39, defScope s39, [], []⟩
def dd40 : He.DefD := ⟨("_law_over", none), "_law_over", "_law_over", defArgs s40, defBody s40, defScope s40, [], []⟩
def dd41 : He.DefD := ⟨("_law_window", none), "_law_window", "_law_window", defArgs s41, defBody s41, defScope s41, [], []⟩
def dd42 : He.DefD := ⟨("_law_compute", none), "_law_compute", "_law_compute", defArgs s42, defBody s42, defScope s42, [], []⟩
def dd43 : He.DefD := ⟨("_law_holds", none), "_law_holds", "_law_holds", defArgs s43, defBody s43, defScope s43, [], []⟩
def dd44 : He.DefD := ⟨("_law_binary", none), "_law_binary", "_law_binary", defArgs s44, defBody s44, defScope s44, [], []⟩
def dd45 : He.DefD := ⟨("_law_aggregate", none), "_law_aggregate", "_law_aggregate", defArgs s45, defBody s45, defScope s45, [], []⟩
def dd46 : He.DefD := ⟨("_law_value", none), "_law_value", "_law_value", defArgs s46, defBody s46, defScope s46, [], []⟩
def dd47 : He.DefD := ⟨("_law_case", none), "_law_case", "_law_case", defArgs s47, defBody s47, defScope s47, [], []⟩
def dd48 : He.DefD := ⟨("_law_is_vector", none), "_law_is_vector", "_law_is_vector", defArgs s48, defBody s48, defScope s48, [], []⟩
def dd49 : He.DefD := ⟨("law", none), "law", "law", defArgs s49, defBody s49, defScope s49, [], []⟩
def fnA : List He.DefD := [dd2, dd3, dd4, dd5, dd6, dd8, dd9, dd10, dd11, dd12, dd13, dd14, dd16, dd17, dd18, dd19, dd21, dd23, dd24, dd25, dd26, dd27]
def fnB : List He.DefD := [dd28, dd29, dd30, dd31, dd32, dd33, dd34, dd35, dd36, dd37, dd38, dd39, dd40, dd41, dd42, dd43, dd44, dd45, dd46, dd47, dd48, dd49]
def fn : List He.DefD := fnA ++ fnB
def faA : List He.Fa := [.glo "value_of", .glo "without", .glo "only", .glo "matches", .glo "matches_all", .glo "compute", .glo "holds", .glo "join", .glo "binary_vectors", .glo "binary", .glo "aggregate_values", .glo "aggregate", .glo "is_read", .glo "windows", .glo "increase", .glo "over", .glo "value_at", .glo "_law_cell", .glo "_law_draws", .glo "_law_is_integer", .glo "_law_name", .glo "_law_worth", .glo "_law_names", .glo "_law_worths", .glo "_law_labels", .glo "_law_number", .glo "_law_kind", .glo "_law_leaf", .glo "_law_sign", .glo "_law_expression"]
def faB : List He.Fa := [.glo "_law_of_script", .glo "_law_view", .glo "_law_told", .glo "_law_reads", .glo "_law_over", .glo "_law_window", .glo "_law_compute", .glo "_law_holds", .glo "_law_binary", .glo "_law_aggregate", .glo "_law_value", .glo "_law_case", .glo "_law_is_vector", .glo "law", .glo "ARITHMETIC", .free "len", .free "sum", .free "min", .free "max", .free "sorted", .free "tuple", .free "range", .free "isinstance", .free "list", .free "int", .free "bool"]
def fa : List He.Fa := faA ++ faB
def arT : List He.Dv := [.str "+", .str "-", .str "*"]
/-- the Hook: the facts, and the tuple of signs -/
def obsA (K : PySem.W.Frag) : He.AlD × Bool := (He.obsD fa fn K, He.tupB K "ARITHMETIC" arT)
def valA : He.AlD × Bool := (He.valD fn, true)
def obsAG (n : Nat) (g : Addr → Option Obj) : He.AlD × Bool := obsA (He.frG g (He.asD g n))
def hk : PySem.W.Hook where
  α := He.AlD × Bool
  obs := fun s => obsAG 4 s.heap.get?
  val := fun _ => valA
  says := fun _ h => ∃ K : PySem.W.Frag, K.In h ∧ obsA K = valA
  of := fun _ _ e => ⟨_, He.frG_in, e⟩
  keeps := fun _ _ _ ⟨K, hK, c⟩ k => ⟨K, PySem.W.Frag.In.keeps hK k, c⟩
abbrev R : PySem.W.OpenRow := PySem.W.OpenLaw.row PySem.Challenge.rw_watchfloor_k90_evaluate_whole_is_the_pla
def ob (s : PySem.W.SharedT) : He.AlD × Bool := obsAG 4 (HandSHeadRun.getT s)
theorem ob_eq (s : PySem.W.SharedT) : ob s = hk.obs s.abs := by
  have e : HandSHeadRun.getT s = s.abs.heap.get? := funext (HandSHeadRun.getT_eq s)
  unfold ob
  rw [e]
  rfl

def loose : List Str := (["ARITHMETIC", "value_of", "without", "only", "matches", "matches_all", "compute", "holds", "join", "binary_vectors", "binary", "aggregate_values", "aggregate", "is_read", "windows", "increase", "over", "value_at", "_law_cell", "_law_draws", "_law_is_integer", "_law_name"] : List Str) ++ (["_law_worth", "_law_names", "_law_worths", "_law_labels", "_law_number", "_law_kind", "_law_leaf", "_law_sign", "_law_expression", "_law_of_script", "_law_view", "_law_told", "_law_reads", "_law_over", "_law_window", "_law_compute", "_law_holds", "_law_binary", "_law_aggregate", "_law_value", "_law_case", "_law_is_vector"] : List Str)
theorem facts {P : Program} {w : World} {K : PySem.W.Frag} {h : Heap} {mg : Str → Option Value} {f : Addr} (X : K.In h) (G : h.Ns mainGlobals mg) (hfa : mg ("law" : Str) = some (.ref f)) (c : obsA K = valA) :
    ∃ fd : FuncData, (∀ (s : Shared) (v : Value), BindsTo s fd ⟨[v], []⟩ [("_law_script", v)]) ∧ ∀ base : Heap, K.In base → base.Ns mainGlobals mg → FnOk P w K mg base CX0 27 f fd ["_law_script"] (spLaw K) := by
  have c1 : He.SaysD fa fn K := congrArg (fun z : He.AlD × Bool => z.1) c
  have c2 : He.tupB K "ARITHMETIC" arT = true := congrArg (fun z : He.AlD × Bool => z.2) c
  have AR : ArOk K mg := ⟨_, He.glo_ok X G (c1.fact 44 (f := .glo "ARITHMETIC") rfl), fun H => He.tupB_ok c2 H⟩
  have n_len : mg "len" = none := He.free_ok X G (c1.fact 45 (f := .free "len") rfl)
  have n_sum : mg "sum" = none := He.free_ok X G (c1.fact 46 (f := .free "sum") rfl)
  have n_min : mg "min" = none := He.free_ok X G (c1.fact 47 (f := .free "min") rfl)
  have n_max : mg "max" = none := He.free_ok X G (c1.fact 48 (f := .free "max") rfl)
  have n_sorted : mg "sorted" = none := He.free_ok X G (c1.fact 49 (f := .free "sorted") rfl)
  have n_tuple : mg "tuple" = none := He.free_ok X G (c1.fact 50 (f := .free "tuple") rfl)
  have n_range : mg "range" = none := He.free_ok X G (c1.fact 51 (f := .free "range") rfl)
  have n_isinstance : mg "isinstance" = none := He.free_ok X G (c1.fact 52 (f := .free "isinstance") rfl)
  have n_list : mg "list" = none := He.free_ok X G (c1.fact 53 (f := .free "list") rfl)
  have n_int : mg "int" = none := He.free_ok X G (c1.fact 54 (f := .free "int") rfl)
  have n_bool : mg "bool" = none := He.free_ok X G (c1.fact 55 (f := .free "bool") rfl)
  obtain ⟨fd2, F2⟩ := c1.def_ 0 (d := dd2) rfl
  have F2 : FnP K "value_of" s2 _ fd2 := F2
  have m2 := He.glo_ok X G (c1.fact 0 (f := .glo "value_of") rfl)
  obtain ⟨fd3, F3⟩ := c1.def_ 1 (d := dd3) rfl
  have F3 : FnP K "without" s3 _ fd3 := F3
  have m3 := He.glo_ok X G (c1.fact 1 (f := .glo "without") rfl)
  obtain ⟨fd4, F4⟩ := c1.def_ 2 (d := dd4) rfl
  have F4 : FnP K "only" s4 _ fd4 := F4
  have m4 := He.glo_ok X G (c1.fact 2 (f := .glo "only") rfl)
  obtain ⟨fd5, F5⟩ := c1.def_ 3 (d := dd5) rfl
  have F5 : FnP K "matches" s5 _ fd5 := F5
  have m5 := He.glo_ok X G (c1.fact 3 (f := .glo "matches") rfl)
  obtain ⟨fd6, F6⟩ := c1.def_ 4 (d := dd6) rfl
  have F6 : FnP K "matches_all" s6 _ fd6 := F6
  have m6 := He.glo_ok X G (c1.fact 4 (f := .glo "matches_all") rfl)
  obtain ⟨fd8, F8⟩ := c1.def_ 5 (d := dd8) rfl
  have F8 : FnP K "compute" s8 _ fd8 := F8
  have m8 := He.glo_ok X G (c1.fact 5 (f := .glo "compute") rfl)
  obtain ⟨fd9, F9⟩ := c1.def_ 6 (d := dd9) rfl
  have F9 : FnP K "holds" s9 _ fd9 := F9
  have m9 := He.glo_ok X G (c1.fact 6 (f := .glo "holds") rfl)
  obtain ⟨fd10, F10⟩ := c1.def_ 7 (d := dd10) rfl
  have F10 : FnP K "join" s10 _ fd10 := F10
  have m10 := He.glo_ok X G (c1.fact 7 (f := .glo "join") rfl)
  obtain ⟨fd11, F11⟩ := c1.def_ 8 (d := dd11) rfl
  have F11 : FnP K "binary_vectors" s11 _ fd11 := F11
  have m11 := He.glo_ok X G (c1.fact 8 (f := .glo "binary_vectors") rfl)
  obtain ⟨fd12, F12⟩ := c1.def_ 9 (d := dd12) rfl
  have F12 : FnP K "binary" s12 _ fd12 := F12
  have m12 := He.glo_ok X G (c1.fact 9 (f := .glo "binary") rfl)
  obtain ⟨fd13, F13⟩ := c1.def_ 10 (d := dd13) rfl
  have F13 : FnP K "aggregate_values" s13 _ fd13 := F13
  have m13 := He.glo_ok X G (c1.fact 10 (f := .glo "aggregate_values") rfl)
  obtain ⟨fd14, F14⟩ := c1.def_ 11 (d := dd14) rfl
  have F14 : FnP K "aggregate" s14 _ fd14 := F14
  have m14 := He.glo_ok X G (c1.fact 11 (f := .glo "aggregate") rfl)
  obtain ⟨fd16, F16⟩ := c1.def_ 12 (d := dd16) rfl
  have F16 : FnP K "is_read" s16 _ fd16 := F16
  have m16 := He.glo_ok X G (c1.fact 12 (f := .glo "is_read") rfl)
  obtain ⟨fd17, F17⟩ := c1.def_ 13 (d := dd17) rfl
  have F17 : FnP K "windows" s17 _ fd17 := F17
  have m17 := He.glo_ok X G (c1.fact 13 (f := .glo "windows") rfl)
  obtain ⟨fd18, F18⟩ := c1.def_ 14 (d := dd18) rfl
  have F18 : FnP K "increase" s18 _ fd18 := F18
  have m18 := He.glo_ok X G (c1.fact 14 (f := .glo "increase") rfl)
  obtain ⟨fd19, F19⟩ := c1.def_ 15 (d := dd19) rfl
  have F19 : FnP K "over" s19 _ fd19 := F19
  have m19 := He.glo_ok X G (c1.fact 15 (f := .glo "over") rfl)
  obtain ⟨fd21, F21⟩ := c1.def_ 16 (d := dd21) rfl
  have F21 : FnP K "value_at" s21 _ fd21 := F21
  have m21 := He.glo_ok X G (c1.fact 16 (f := .glo "value_at") rfl)
  obtain ⟨fd23, F23⟩ := c1.def_ 17 (d := dd23) rfl
  have F23 : FnP K "_law_cell" s23 _ fd23 := F23
  have m23 := He.glo_ok X G (c1.fact 17 (f := .glo "_law_cell") rfl)
  obtain ⟨fd24, F24⟩ := c1.def_ 18 (d := dd24) rfl
  have F24 : FnP K "_law_draws" s24 _ fd24 := F24
  have m24 := He.glo_ok X G (c1.fact 18 (f := .glo "_law_draws") rfl)
  obtain ⟨fd25, F25⟩ := c1.def_ 19 (d := dd25) rfl
  have F25 : FnP K "_law_is_integer" s25 _ fd25 := F25
  have m25 := He.glo_ok X G (c1.fact 19 (f := .glo "_law_is_integer") rfl)
  obtain ⟨fd26, F26⟩ := c1.def_ 20 (d := dd26) rfl
  have F26 : FnP K "_law_name" s26 _ fd26 := F26
  have m26 := He.glo_ok X G (c1.fact 20 (f := .glo "_law_name") rfl)
  obtain ⟨fd27, F27⟩ := c1.def_ 21 (d := dd27) rfl
  have F27 : FnP K "_law_worth" s27 _ fd27 := F27
  have m27 := He.glo_ok X G (c1.fact 21 (f := .glo "_law_worth") rfl)
  obtain ⟨fd28, F28⟩ := c1.def_ 22 (d := dd28) rfl
  have F28 : FnP K "_law_names" s28 _ fd28 := F28
  have m28 := He.glo_ok X G (c1.fact 22 (f := .glo "_law_names") rfl)
  obtain ⟨fd29, F29⟩ := c1.def_ 23 (d := dd29) rfl
  have F29 : FnP K "_law_worths" s29 _ fd29 := F29
  have m29 := He.glo_ok X G (c1.fact 23 (f := .glo "_law_worths") rfl)
  obtain ⟨fd30, F30⟩ := c1.def_ 24 (d := dd30) rfl
  have F30 : FnP K "_law_labels" s30 _ fd30 := F30
  have m30 := He.glo_ok X G (c1.fact 24 (f := .glo "_law_labels") rfl)
  obtain ⟨fd31, F31⟩ := c1.def_ 25 (d := dd31) rfl
  have F31 : FnP K "_law_number" s31 _ fd31 := F31
  have m31 := He.glo_ok X G (c1.fact 25 (f := .glo "_law_number") rfl)
  obtain ⟨fd32, F32⟩ := c1.def_ 26 (d := dd32) rfl
  have F32 : FnP K "_law_kind" s32 _ fd32 := F32
  have m32 := He.glo_ok X G (c1.fact 26 (f := .glo "_law_kind") rfl)
  obtain ⟨fd33, F33⟩ := c1.def_ 27 (d := dd33) rfl
  have F33 : FnP K "_law_leaf" s33 _ fd33 := F33
  have m33 := He.glo_ok X G (c1.fact 27 (f := .glo "_law_leaf") rfl)
  obtain ⟨fd34, F34⟩ := c1.def_ 28 (d := dd34) rfl
  have F34 : FnP K "_law_sign" s34 _ fd34 := F34
  have m34 := He.glo_ok X G (c1.fact 28 (f := .glo "_law_sign") rfl)
  obtain ⟨fd35, F35⟩ := c1.def_ 29 (d := dd35) rfl
  have F35 : FnP K "_law_expression" s35 _ fd35 := F35
  have m35 := He.glo_ok X G (c1.fact 29 (f := .glo "_law_expression") rfl)
  obtain ⟨fd36, F36⟩ := c1.def_ 30 (d := dd36) rfl
  have F36 : FnP K "_law_of_script" s36 _ fd36 := F36
  have m36 := He.glo_ok X G (c1.fact 30 (f := .glo "_law_of_script") rfl)
  obtain ⟨fd37, F37⟩ := c1.def_ 31 (d := dd37) rfl
  have F37 : FnP K "_law_view" s37 _ fd37 := F37
  have m37 := He.glo_ok X G (c1.fact 31 (f := .glo "_law_view") rfl)
  obtain ⟨fd38, F38⟩ := c1.def_ 32 (d := dd38) rfl
  have F38 : FnP K "_law_told" s38 _ fd38 := F38
  have m38 := He.glo_ok X G (c1.fact 32 (f := .glo "_law_told") rfl)
  obtain ⟨fd39, F39⟩ := c1.def_ 33 (d := dd39) rfl
  have F39 : FnP K "_law_reads" s39 _ fd39 := F39
  have m39 := He.glo_ok X G (c1.fact 33 (f := .glo "_law_reads") rfl)
  obtain ⟨fd40, F40⟩ := c1.def_ 34 (d := dd40) rfl
  have F40 : FnP K "_law_over" s40 _ fd40 := F40
  have m40 := He.glo_ok X G (c1.fact 34 (f := .glo "_law_over") rfl)
  obtain ⟨fd41, F41⟩ := c1.def_ 35 (d := dd41) rfl
  have F41 : FnP K "_law_window" s41 _ fd41 := F41
  have m41 := He.glo_ok X G (c1.fact 35 (f := .glo "_law_window") rfl)
  obtain ⟨fd42, F42⟩ := c1.def_ 36 (d := dd42) rfl
  have F42 : FnP K "_law_compute" s42 _ fd42 := F42
  have m42 := He.glo_ok X G (c1.fact 36 (f := .glo "_law_compute") rfl)
  obtain ⟨fd43, F43⟩ := c1.def_ 37 (d := dd43) rfl
  have F43 : FnP K "_law_holds" s43 _ fd43 := F43
  have m43 := He.glo_ok X G (c1.fact 37 (f := .glo "_law_holds") rfl)
  obtain ⟨fd44, F44⟩ := c1.def_ 38 (d := dd44) rfl
  have F44 : FnP K "_law_binary" s44 _ fd44 := F44
  have m44 := He.glo_ok X G (c1.fact 38 (f := .glo "_law_binary") rfl)
  obtain ⟨fd45, F45⟩ := c1.def_ 39 (d := dd45) rfl
  have F45 : FnP K "_law_aggregate" s45 _ fd45 := F45
  have m45 := He.glo_ok X G (c1.fact 39 (f := .glo "_law_aggregate") rfl)
  obtain ⟨fd46, F46⟩ := c1.def_ 40 (d := dd46) rfl
  have F46 : FnP K "_law_value" s46 _ fd46 := F46
  have m46 := He.glo_ok X G (c1.fact 40 (f := .glo "_law_value") rfl)
  obtain ⟨fd47, F47⟩ := c1.def_ 41 (d := dd47) rfl
  have F47 : FnP K "_law_case" s47 _ fd47 := F47
  have m47 := He.glo_ok X G (c1.fact 41 (f := .glo "_law_case") rfl)
  obtain ⟨fd48, F48⟩ := c1.def_ 42 (d := dd48) rfl
  have F48 : FnP K "_law_is_vector" s48 _ fd48 := F48
  have m48 := He.glo_ok X G (c1.fact 42 (f := .glo "_law_is_vector") rfl)
  obtain ⟨fd49, F49⟩ := c1.def_ 43 (d := dd49) rfl
  have F49 : FnP K "law" s49 _ fd49 := F49
  have e := hfa.symm.trans (He.glo_ok X G (c1.fact 43 (f := .glo "law") rfl))
  cases e
  have b49 := FunD.bindsA (ps := ["_law_script"]) F49 fun _ _ _ _ _ _ us hl => match us, hl with | [_], _ => rfl
  refine ⟨fd49, fun s v => b49 s [v] rfl, fun base _ _ => ?_⟩
  have b2 : Binds K fd2 ["labels", "name"] [] := F2.bindsN fun _ _ _ _ _ _ us hl => match us, hl with | [_, _], _ => rfl
  have G2 := ok2 (P := P) (w := w) (mg := mg) (base := base) (fun_of F2) 
  have b38 : Binds K fd38 ["_law_labels_here", "_law_name_here"] [] := F38.bindsN fun _ _ _ _ _ _ us hl => match us, hl with | [_, _], _ => rfl
  have G38 := ok38 (P := P) (w := w) (mg := mg) (base := base) (fun_of F38) 
  have b3 : Binds K fd3 ["labels", "names"] [] := F3.bindsN fun _ _ _ _ _ _ us hl => match us, hl with | [_, _], _ => rfl
  have G3 := ok3 (P := P) (w := w) (mg := mg) (base := base) (fun_of F3) n_tuple
  have b4 : Binds K fd4 ["labels", "names"] [] := F4.bindsN fun _ _ _ _ _ _ us hl => match us, hl with | [_, _], _ => rfl
  have G4 := ok4 (P := P) (w := w) (mg := mg) (base := base) (fun_of F4) n_tuple
  have b5 : Binds K fd5 ["matcher", "labels"] [] := F5.bindsN fun _ _ _ _ _ _ us hl => match us, hl with | [_, _], _ => rfl
  have G5 := ok5 (P := P) (w := w) (mg := mg) (base := base) (fun_of F5) (fun_of F2) b2 m2
  have b6 : Binds K fd6 ["matchers", "labels"] [] := F6.bindsN fun _ _ _ _ _ _ us hl => match us, hl with | [_, _], _ => rfl
  have G6 := ok6 (P := P) (w := w) (mg := mg) (base := base) (fun_of F6) G5 F5.kp b5 m5
  have b8 : Binds K fd8 ["sign", "left", "right"] [] := F8.bindsN fun _ _ _ _ _ _ us hl => match us, hl with | [_, _, _], _ => rfl
  have G8 := ok8 (P := P) (w := w) (mg := mg) (base := base) (fun_of F8) 
  have b9 : Binds K fd9 ["sign", "left", "right"] [] := F9.bindsN fun _ _ _ _ _ _ us hl => match us, hl with | [_, _, _], _ => rfl
  have G9 := ok9 (P := P) (w := w) (mg := mg) (base := base) (fun_of F9) 
  have b42 : Binds K fd42 ["_law_sign_here", "_law_left", "_law_right"] [] := F42.bindsN fun _ _ _ _ _ _ us hl => match us, hl with | [_, _, _], _ => rfl
  have G42 := ok42 (P := P) (w := w) (mg := mg) (base := base) (fun_of F42) 
  have b43 : Binds K fd43 ["_law_sign_here", "_law_left", "_law_right"] [] := F43.bindsN fun _ _ _ _ _ _ us hl => match us, hl with | [_, _, _], _ => rfl
  have G43 := ok43 (P := P) (w := w) (mg := mg) (base := base) (fun_of F43) 
  have b16 : Binds K fd16 ["metric", "matchers", "width", "time", "sample"] [] := F16.bindsN fun _ _ _ _ _ _ us hl => match us, hl with | [_, _, _, _, _], _ => rfl
  have G16 := ok16 (P := P) (w := w) (mg := mg) (base := base) (fun_of F16) G2 F2.kp b2 m2 G6 F6.kp b6 m6
  have b17 : Binds K fd17 ["view", "metric", "matchers", "width", "time"] [] := F17.bindsN fun _ _ _ _ _ _ us hl => match us, hl with | [_, _, _, _, _], _ => rfl
  have G17 := ok17 (P := P) (w := w) (mg := mg) (base := base) (fun_of F17) G16 F16.kp b16 m16 G3 F3.kp b3 m3 n_sorted
  have b18 : Binds K fd18 ["values"] [] := F18.bindsN fun _ _ _ _ _ _ us hl => match us, hl with | [_], _ => rfl
  have G18 := ok18 (P := P) (w := w) (mg := mg) (base := base) (fun_of F18) n_len n_range
  have b19 : Binds K fd19 ["word", "values"] [] := F19.bindsN fun _ _ _ _ _ _ us hl => match us, hl with | [_, _], _ => rfl
  have G19 := ok19 (P := P) (w := w) (mg := mg) (base := base) (fun_of F19) G18 F18.kp b18 m18 n_len n_sum n_min n_max
  have b13 : Binds K fd13 ["word", "values"] [] := F13.bindsN fun _ _ _ _ _ _ us hl => match us, hl with | [_, _], _ => rfl
  have G13 := ok13 (P := P) (w := w) (mg := mg) (base := base) (fun_of F13) n_len n_sum n_min n_max
  have b40 : Binds K fd40 ["_law_word", "_law_values"] [] := F40.bindsN fun _ _ _ _ _ _ us hl => match us, hl with | [_, _], _ => rfl
  have G40 := ok40 (P := P) (w := w) (mg := mg) (base := base) (fun_of F40) n_len n_sum n_range n_sorted
  have b39 : Binds K fd39 ["_law_metric", "_law_matchers", "_law_width", "_law_time", "_law_sample"] [] := F39.bindsN fun _ _ _ _ _ _ us hl => match us, hl with | [_, _, _, _, _], _ => rfl
  have G39 := ok39 (P := P) (w := w) (mg := mg) (base := base) (fun_of F39) G38 F38.kp b38 m38
  have b41 : Binds K fd41 ["_law_view_here", "_law_word", "_law_metric", "_law_matchers", "_law_width", "_law_time"] [] := F41.bindsN fun _ _ _ _ _ _ us hl => match us, hl with | [_, _, _, _, _, _], _ => rfl
  have G41 := ok41 (P := P) (w := w) (mg := mg) (base := base) (fun_of F41) G39 F39.kp b39 m39 G40 F40.kp b40 m40 n_sorted n_tuple n_range n_max
  have b10 : Binds K fd10 ["sign", "left", "right"] [] := F10.bindsN fun _ _ _ _ _ _ us hl => match us, hl with | [_, _, _], _ => rfl
  have G10 := ok10 (P := P) (w := w) (mg := mg) (base := base) (fun_of F10) n_sorted
  have b11 : Binds K fd11 ["sign", "left", "right"] [] := F11.bindsN fun _ _ _ _ _ _ us hl => match us, hl with | [_, _, _], _ => rfl
  have G11 := ok11 (P := P) (w := w) (mg := mg) (base := base) (fun_of F11) G8 F8.kp b8 m8 G9 F9.kp b9 m9 AR
  have b12 : Binds K fd12 ["sign", "left", "right"] [] := F12.bindsN fun _ _ _ _ _ _ us hl => match us, hl with | [_, _, _], _ => rfl
  have G12 := ok12 (P := P) (w := w) (mg := mg) (base := base) (fun_of F12) G8 F8.kp b8 m8 G9 F9.kp b9 m9 G10 F10.kp b10 m10 G11 F11.kp b11 m11 AR n_isinstance n_list
  have b14 : Binds K fd14 ["word", "names", "vector"] [] := F14.bindsN fun _ _ _ _ _ _ us hl => match us, hl with | [_, _, _], _ => rfl
  have G14 := ok14 (P := P) (w := w) (mg := mg) (base := base) (fun_of F14) G4 F4.kp b4 m4 G13 F13.kp b13 m13 n_sorted
  have b45 : Binds K fd45 ["_law_word", "_law_names_here", "_law_rows"] [] := F45.bindsN fun _ _ _ _ _ _ us hl => match us, hl with | [_, _, _], _ => rfl
  have G45 := ok45 (P := P) (w := w) (mg := mg) (base := base) (fun_of F45) G40 F40.kp b40 m40 n_sorted n_tuple
  have b44 : Binds K fd44 ["_law_sign_here", "_law_left", "_law_right"] [] := F44.bindsN fun _ _ _ _ _ _ us hl => match us, hl with | [_, _, _], _ => rfl
  have G44 := ok44 (P := P) (w := w) (mg := mg) (base := base) (fun_of F44) G42 F42.kp b42 m42 G43 F43.kp b43 m43 n_isinstance n_int n_sorted
  have b21 : Binds K fd21 ["expression", "lookback", "view", "time"] [] := F21.bindsN fun _ _ _ _ _ _ us hl => match us, hl with | [_, _, _, _], _ => rfl
  have G21 := (ok21 (P := P) (w := w) (mg := mg) (base := base) (fun_of F21) F21.kp b21 m21 G17 F17.kp b17 m17 G19 F19.kp b19 m19 G14 F14.kp b14 m14 G12 F12.kp b12 m12) 20
  have b46 : Binds K fd46 ["_law_expression_here", "_law_lookback", "_law_view_here", "_law_time"] [] := F46.bindsN fun _ _ _ _ _ _ us hl => match us, hl with | [_, _, _, _], _ => rfl
  have G46 := (ok46 (P := P) (w := w) (mg := mg) (base := base) (fun_of F46) F46.kp b46 m46 G41 F41.kp b41 m41 G45 F45.kp b45 m45 G44 F44.kp b44 m44) 20
  have b32 : Binds K fd32 ["_law_expression_here"] [] := F32.bindsN fun _ _ _ _ _ _ us hl => match us, hl with | [_], _ => rfl
  have G32 := (ok32 (P := P) (w := w) (mg := mg) (base := base) (fun_of F32) F32.kp b32 m32) 20
  have b23 : Binds K fd23 ["_law_script", "_law_k"] [] := F23.bindsN fun _ _ _ _ _ _ us hl => match us, hl with | [_, _], _ => rfl
  have G23 := ok23 (P := P) (w := w) (mg := mg) (base := base) (fun_of F23) n_len n_int
  have b24 : Binds K fd24 ["_law_cell_here", "_law_many"] [] := F24.bindsN fun _ _ _ _ _ _ us hl => match us, hl with | [_, _], _ => rfl
  have G24 := ok24 (P := P) (w := w) (mg := mg) (base := base) (fun_of F24) n_len n_int n_range
  have b25 : Binds K fd25 ["_law_actual"] [] := F25.bindsN fun _ _ _ _ _ _ us hl => match us, hl with | [_], _ => rfl
  have G25 := ok25 (P := P) (w := w) (mg := mg) (base := base) (fun_of F25) n_isinstance n_int n_bool
  have b26 : Binds K fd26 ["_law_first", "_law_second"] [] := F26.bindsN fun _ _ _ _ _ _ us hl => match us, hl with | [_, _], _ => rfl
  have G26 := ok26 (P := P) (w := w) (mg := mg) (base := base) (fun_of F26) n_int
  have b27 : Binds K fd27 ["_law_first", "_law_second"] [] := F27.bindsN fun _ _ _ _ _ _ us hl => match us, hl with | [_, _], _ => rfl
  have G27 := ok27 (P := P) (w := w) (mg := mg) (base := base) (fun_of F27) n_int
  have b28 : Binds K fd28 ["_law_cell_here", "_law_many"] [] := F28.bindsN fun _ _ _ _ _ _ us hl => match us, hl with | [_, _], _ => rfl
  have G28 := ok28 (P := P) (w := w) (mg := mg) (base := base) (fun_of F28) G24 F24.kp b24 m24 G26 F26.kp b26 m26 n_range
  have b29 : Binds K fd29 ["_law_cell_here", "_law_many"] [] := F29.bindsN fun _ _ _ _ _ _ us hl => match us, hl with | [_, _], _ => rfl
  have G29 := ok29 (P := P) (w := w) (mg := mg) (base := base) (fun_of F29) G24 F24.kp b24 m24 G27 F27.kp b27 m27 n_range
  have b30 : Binds K fd30 ["_law_draws_here", "_law_names_here", "_law_worths_here"] [] := F30.bindsN fun _ _ _ _ _ _ us hl => match us, hl with | [_, _, _], _ => rfl
  have G30 := ok30 (P := P) (w := w) (mg := mg) (base := base) (fun_of F30) n_len n_int n_range n_tuple n_sorted
  have b31 : Binds K fd31 ["_law_first", "_law_second"] [] := F31.bindsN fun _ _ _ _ _ _ us hl => match us, hl with | [_, _], _ => rfl
  have G31 := ok31 (P := P) (w := w) (mg := mg) (base := base) (fun_of F31) n_int
  have b33 : Binds K fd33 ["_law_draws_here", "_law_names_here", "_law_worths_here"] [] := F33.bindsN fun _ _ _ _ _ _ us hl => match us, hl with | [_, _, _], _ => rfl
  have G33 := ok33 (P := P) (w := w) (mg := mg) (base := base) (fun_of F33) G31 F31.kp b31 m31 n_len n_int n_range n_tuple
  have b34 : Binds K fd34 ["_law_draw", "_law_left", "_law_right", "_law_sound"] [] := F34.bindsN fun _ _ _ _ _ _ us hl => match us, hl with | [_, _, _, _], _ => rfl
  have G34 := ok34 (P := P) (w := w) (mg := mg) (base := base) (fun_of F34) (n := 20) G32 F32.kp b32 m32 n_int
  have b35 : Binds K fd35 ["_law_draws_here", "_law_names_here", "_law_worths_here", "_law_sound"] [] := F35.bindsN fun _ _ _ _ _ _ us hl => match us, hl with | [_, _, _, _], _ => rfl
  have G35 := ok35 (P := P) (w := w) (mg := mg) (base := base) (fun_of F35) G34 F34.kp b34 m34 G32 F32.kp b32 m32 G33 F33.kp b33 m33 n_len n_range n_tuple
  have b36 : Binds K fd36 ["_law_script", "_law_begin", "_law_end", "_law_names_here", "_law_worths_here", "_law_sound"] [] := F36.bindsN fun _ _ _ _ _ _ us hl => match us, hl with | [_, _, _, _, _, _], _ => rfl
  have G36 := ok36 (P := P) (w := w) (mg := mg) (base := base) (fun_of F36) G24 F24.kp b24 m24 G35 F35.kp b35 m35
  have b37 : Binds K fd37 ["_law_script", "_law_begin", "_law_names_here", "_law_worths_here", "_law_metrics"] [] := F37.bindsN fun _ _ _ _ _ _ us hl => match us, hl with | [_, _, _, _, _], _ => rfl
  have G37 := ok37 (P := P) (w := w) (mg := mg) (base := base) (fun_of F37) G24 F24.kp b24 m24 G30 F30.kp b30 m30 G31 F31.kp b31 m31 n_len n_tuple n_sorted
  have b47 : Binds K fd47 ["_law_script"] [] := F47.bindsN fun _ _ _ _ _ _ us hl => match us, hl with | [_], _ => rfl
  have G47 := ok47 (P := P) (w := w) (mg := mg) (base := base) (fun_of F47) G28 F28.kp b28 m28 G29 F29.kp b29 m29 G23 F23.kp b23 m23 G24 F24.kp b24 m24 G37 F37.kp b37 m37 G36 F36.kp b36 m36
  have b48 : Binds K fd48 ["_law_actual"] [] := F48.bindsN fun _ _ _ _ _ _ us hl => match us, hl with | [_], _ => rfl
  have G48 := ok48 (P := P) (w := w) (mg := mg) (base := base) (fun_of F48) G25 F25.kp b25 m25 n_isinstance n_list n_tuple n_len n_range
  exact ok49 (P := P) (w := w) (mg := mg) (base := base) (fun_of F49) G47 F47.kp b47 m47 G21 F21.kp b21 m21 G46 F46.kp b46 m46 G32 F32.kp b32 m32 G25 F25.kp b25 m25 G48 F48.kp b48 m48 n_list
end L2.Q9


set_option Elab.async false
set_option linter.all false
set_option maxRecDepth 100000
set_option maxHeartbeats 0
/-! Q9: the run, the end. -/
namespace L2.Q9
open PySem PySem.Spec PyProof.Rows
theorem run (w : World) : HandSHeadRun.RunEq R (PySem.W.view R.prog [49]) hk ob 4000 loose w := by
  intro os
  kernel_rfl

end L2.Q9
open PySem PySem.W PySem.Calls PyProof.Rows
theorem PySem.Challenge.cw_watchfloor_k90_evaluate_whole_is_the_pla_holds : PySem.Challenge.rw_watchfloor_k90_evaluate_whole_is_the_pla.Holds := by
  w_on; o_law
  refine HandSHeadRun.head_any (r := OpenLaw.row PySem.Challenge.rw_watchfloor_k90_evaluate_whole_is_the_pla) (q := view (OpenLaw.row PySem.Challenge.rw_watchfloor_k90_evaluate_whole_is_the_pla).prog [49]) (H := L2.Q9.hk) (ob := L2.Q9.ob) (M := 4000) (loose := L2.Q9.loose) (d := HandSHeadRun.topDef (OpenLaw.row PySem.Challenge.rw_watchfloor_k90_evaluate_whole_is_the_pla).prog 49) (kwd := []) L2.Q9.ob_eq
    (by kernel_rfl) (fun s => by kernel_rfl) L2.Q9.run (by kernel_rfl) (by kernel_rfl) (by kernel_rfl) (by rfl) (by first | assumption | decide +kernel) (by decide +kernel) ⟨rfl, rfl, rfl, rfl, rfl, by decide +kernel⟩ ?hw ?hc
  case hw => w_witness2
  case hc =>
    refine L2.walk_ofE (l := PySem.Challenge.rw_watchfloor_k90_evaluate_whole_is_the_pla) (n := 63) (k := 27) (x := "_law_script") (CX := L2.CX0) rfl (by decide) (by kernel_rfl) ⟨rfl, by decide, by decide⟩ ?F (fun _ _ _ _ z => z)
    intro w mg fa h Y G hmg0
    obtain ⟨K, KX, c⟩ := Y
    have hmg : mg ("law" : PySem.Str) = some (.ref fa) := by
      have e : (HandSHeadRun.topDef (OpenLaw.row PySem.Challenge.rw_watchfloor_k90_evaluate_whole_is_the_pla).prog 49).name = ("law" : PySem.Str) := by kernel_rfl
      rw [← e]
      exact hmg0
    obtain ⟨fd, hb, hF⟩ := L2.Q9.facts (P := (PySem.Challenge.rw_watchfloor_k90_evaluate_whole_is_the_pla).prog) (w := w) KX G hmg c
    exact ⟨K, fd, L2.Q9.spLaw K, KX, hb, fun H a ns hl _ hS => ⟨a, ns, rfl, hS, hl, fun _ => rfl⟩, hF⟩


