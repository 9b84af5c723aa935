import PyProof.Rows.All
import Wide.All
import OpenK.AllK
import Wide.FinOn
import HandS.SetBool
import HandS.Dict
import KE.KDictCopyH
import HandS.TupLen
import HandS.ForMost
import HandS.DictComp
import HandS.Flow
import HandS.Style
import HandS.IsInst
import HandS.RaiseMore
import HandS.Conv
import HandS.TupAny
import KE.DataEq
import KE.SortData
import KE.SortKeyHeap
import KE.DataMinMax
import HandS.SetTxt0
import HandS.ListItems
import HandS.SetFor
import HandS.FStr
import KE.KIndexOf
import PySem.Challenge.RW_turnwise_k11_whole_five_letters_in_all_o
import PyProof.StrLawsRepr
set_option Elab.async false
set_option linter.all false
set_option maxRecDepth 100000
set_option autoImplicit false
/-! PLD: dicts whose keys are tuples of ints and truth values, at the heap. -/
namespace PL
open PySem PySem.Spec PyProof.Rows L2

def b2i (b : Bool) : Int := if b then 1 else 0
/-- ints and truth values alone: their hash does not hang on the world -/
def numIs : Int → Value → Bool
  | i, .int j _ => j == i
  | i, .bool b => b2i b == i
  | _, _ => false
theorem num_shape {i : Int} {v : Value} (h : numIs i v = true) : (∃ t, v = .int i t) ∨ ∃ b, i = b2i b ∧ v = .bool b := by
  cases v with
  | int j t =>
    have e : j = i := eq_of_beq h
    subst e
    exact .inl ⟨t, rfl⟩
  | bool b =>
    have e : b2i b = i := eq_of_beq h
    exact .inr ⟨b, e.symm, rfl⟩
  | _ => cases h
theorem b2i_inj {a b : Bool} (h : b2i a = b2i b) : a = b := by
  cases a <;> cases b <;> first | rfl | (exact absurd h (by decide))
theorem beq_int (a b : Int) : (a == b) = decide (a = b) := by
  cases h : a == b with
  | true => exact (decide_eq_true (eq_of_beq h)).symm
  | false => exact (decide_eq_false fun e => by rw [e, beq_self_eq_true] at h; cases h).symm
def numK (prog : Program) (w : World) : PySem.KeyKind prog w Int where
  is := numIs
  hash := hashInt
  inj := fun v a b ha hb => by
    rcases num_shape ha with ⟨t, rfl⟩ | ⟨x, rfl, rfl⟩
    · rcases num_shape hb with ⟨u, e⟩ | ⟨y, rfl, e⟩
      · injection e
      · exact nomatch e
    · rcases num_shape hb with ⟨u, e⟩ | ⟨y, rfl, e⟩
      · exact nomatch e
      · injection e with e1; rw [e1]
  byValue := fun k v h => by
    rcases num_shape h with ⟨t, rfl⟩ | ⟨x, rfl, rfl⟩ <;> rfl
  pyHash := fun hv h => by
    rcases num_shape hv with ⟨t, rfl⟩ | ⟨x, rfl, rfl⟩
    · exact wpAny_pyHash_int h
    · exact PpSet.pyHash_bool h
  eqBool := fun {A E s a b u v Q} hu hv h => by
    rcases num_shape hu with ⟨t, rfl⟩ | ⟨x, rfl, rfl⟩
    · rcases num_shape hv with ⟨u, rfl⟩ | ⟨y, rfl, rfl⟩
      · rw [← beq_int] at h; exact SeqAt.EqAt.int_int a t b u _ _ _ _ h
      · rw [← beq_int] at h; exact SeqAt.EqAt.int_bool a t y _ _ _ _ h
    · rcases num_shape hv with ⟨u, rfl⟩ | ⟨y, rfl, rfl⟩
      · rw [← beq_int] at h; exact SeqAt.EqAt.bool_int x b u _ _ _ _ h
      · rw [← beq_int] at h
        refine SeqAt.EqAt.bool_bool x y _ _ _ _ ?_
        have e : (b2i x == b2i y) = (x == y) := by cases x <;> cases y <;> rfl
        rw [e] at h
        exact h
  «strs» := fun k x t v h => by
    rcases num_shape h with ⟨u, e⟩ | ⟨y, rfl, e⟩
    · exact nomatch e
    · exact nomatch e

/-! ### the object -/
abbrev TKs := List (List Int × Addr × Value)
/-- an entry: it does not hang on the world -/
def entT (x : List Int × Addr × Value) : DictEntry := ⟨reduceHash (Builtin.Tuple.tupleHashOf (x.1.map hashInt)), .ref x.2.1, x.2.2⟩
theorem entT_eq (P : Program) (w : World) : entryOfKey (tupleKind (numK P w)) = entT := rfl
def ObT (o : Obj) (xs : TKs) : Prop := o.ExactDict ∧ ∃ es ep, o.data = .dict es ep ∧ es.toList = xs.map entT
def DTx (a : Addr) (xs : TKs) : HO := .ext fun h => ∃ o, h.get? a = some o ∧ ObT o xs
section
variable {P : Program} {w : World} {H : Hp} {h : Heap} {a : Addr} {xs : TKs}
theorem dtx_new {o : Obj} (e : h.get? a = some o) (b : ObT o xs) : ObjOk P w H h a (DTx a xs) :=
  ⟨⟨o, e, b⟩, ⟨o, e⟩, fun h1 h2 ⟨o1, e1, b1⟩ k => ⟨o1, k o1 e1, b1⟩⟩
theorem dtx_rd (ok : HOk P w H h) (e : Rd H a (DTx a xs)) : ∃ o, h.get? a = some o ∧ ObT o xs := (show ObjOk P w H h a (DTx a xs) from e.ok ok).1
/-- as the library's rules want it -/
theorem dtx_dict (ok : HOk P w H h) (e : Rd H a (DTx a xs)) (ks : ∀ x ∈ xs, IsTupleKey (numK P w) h x.1 x.2.1) (nd : (xs.map (·.1)).Nodup) : h.DictOfH (tupleKind (numK P w)) a xs := by
  obtain ⟨o, e1, e2, es, ep, e3, e4⟩ := dtx_rd ok e
  exact ⟨o, es, ep, e1, e2, e3, by rw [entT_eq]; exact e4, ks, nd⟩
theorem dict_dtx (d : h.DictOfH (tupleKind (numK P w)) a xs) : ObjOk P w H h a (DTx a xs) := by
  obtain ⟨o, es, ep, e1, e2, e3, e4, _, _⟩ := d
  rw [entT_eq] at e4
  exact dtx_new e1 ⟨e2, es, ep, e3, e4⟩
end
end PL
/-! PL1: pure values over the layer: frozen data, slots of a def, what a piece of text computes. -/
namespace PL
open PySem PySem.Spec PyProof.Rows L2

abbrev D := PyData
abbrev SameH := L2.Same
abbrev Sg := L2.St

def keyD : Key → D
  | .inl i => .int i
  | .inr x => .str x

/-- the ints and truth values of a key that is a tuple -/
def numsD : List D → Option (List Int)
  | [] => some []
  | .int i :: r => (numsD r).map (i :: ·)
  | .bool b :: r => (numsD r).map (b2i b :: ·)
  | _ :: _ => none

/-! ### frozen values: F is the part of the heap that nobody changes any more -/
mutual
inductive FR (K : PySem.W.Frag) (F : Hp) : V → D → Prop
  | non : FR K F .non .none
  | bl (b : Bool) : FR K F (.bl b) (.bool b)
  | int (i : Int) : FR K F (.int i) (.int i)
  | str (x : Str) : FR K F (.str x) (.str x)
  | lst {a : Addr} {xs : List V} {ds : List D} : SqL K F a xs → FRs K F xs ds → xs.length ≤ sizeLine → FR K F (.ref a) (.list ds)
  | tup {a : Addr} {xs : List V} {ds : List D} : SqT K F a xs → FRs K F xs ds → xs.length ≤ sizeLine → FR K F (.ref a) (.tuple ds)
  | dct {a : Addr} {o : Obj} {kvs : List (Key × V)} {ds : List (D × D)} : F a = some (.frz o (.dK kvs)) → FRk K F kvs ds → (kvs.map (·.1)).Nodup → kvs.length ≤ sizeLine → FR K F (.ref a) (.dict ds)
  | dctT {a : Addr} {o : Obj} {xs : TKs} {ds : List (D × D)} : F a = some (.frz o (DTx a xs)) → FRt K F xs ds → (xs.map (·.1)).Nodup → xs.length ≤ sizeLine → (a == sysModules) = false → xs ≠ [] → FR K F (.ref a) (.dict ds)
inductive FRs (K : PySem.W.Frag) (F : Hp) : List V → List D → Prop
  | nil : FRs K F [] []
  | cons {v : V} {vs : List V} {d : D} {ds : List D} : FR K F v d → FRs K F vs ds → FRs K F (v :: vs) (d :: ds)
inductive FRk (K : PySem.W.Frag) (F : Hp) : List (Key × V) → List (D × D) → Prop
  | nil : FRk K F [] []
  | cons {k : Key} {v : V} {r : List (Key × V)} {d : D} {ds : List (D × D)} : FR K F v d → FRk K F r ds → FRk K F ((k, v) :: r) ((keyD k, d) :: ds)
inductive FRt (K : PySem.W.Frag) (F : Hp) : TKs → List (D × D) → Prop
  | nil : FRt K F [] []
  | cons {ks : List Int} {b : Addr} {u : Value} {v : V} {kds : List D} {d : D} {r : TKs} {ds : List (D × D)} : FR K F (.ref b) (.tuple kds) → numsD kds = some ks → RelV v u → FR K F v d → FRt K F r ds → FRt K F ((ks, b, u) :: r) ((.tuple kds, d) :: ds)
end

section
variable {K : PySem.W.Frag} {F F' H H' : Hp}
theorem rd_mono {a : Addr} {u : HO} (e : SameH F F') (h : Rd F a u) : Rd F' a u := by
  rcases h with h | ⟨o, h⟩
  · exact .inl (e _ _ h)
  · exact .inr ⟨o, e _ _ h⟩
theorem sqL_mono {a : Addr} {xs : List V} (e : SameH F F') (h : SqL K F a xs) : SqL K F' a xs := h.imp (rd_mono e) id
theorem sqT_mono {a : Addr} {xs : List V} (e : SameH F F') (h : SqT K F a xs) : SqT K F' a xs := h.imp (rd_mono e) id
mutual
theorem FR.mono (e : SameH F F') : ∀ {v : V} {d : D}, FR K F v d → FR K F' v d
  | _, _, .non => .non
  | _, _, .bl b => .bl b
  | _, _, .int i => .int i
  | _, _, .str x => .str x
  | _, _, .lst h r z => .lst (sqL_mono e h) (FRs.mono e r) z
  | _, _, .tup h r z => .tup (sqT_mono e h) (FRs.mono e r) z
  | _, _, .dct h r n z => .dct (e _ _ h) (FRk.mono e r) n z
  | _, _, .dctT h r n z m q => .dctT (e _ _ h) (FRt.mono e r) n z m q
theorem FRs.mono (e : SameH F F') : ∀ {vs : List V} {ds : List D}, FRs K F vs ds → FRs K F' vs ds
  | _, _, .nil => .nil
  | _, _, .cons h t => .cons (FR.mono e h) (FRs.mono e t)
theorem FRk.mono (e : SameH F F') : ∀ {vs : List (Key × V)} {ds : List (D × D)}, FRk K F vs ds → FRk K F' vs ds
  | _, _, .nil => .nil
  | _, _, .cons h t => .cons (FR.mono e h) (FRk.mono e t)
theorem FRt.mono (e : SameH F F') : ∀ {vs : TKs} {ds : List (D × D)}, FRt K F vs ds → FRt K F' vs ds
  | _, _, .nil => .nil
  | _, _, .cons a b c h t => .cons (FR.mono e a) b c (FR.mono e h) (FRt.mono e t)
end
theorem FRt.length : ∀ {vs : TKs} {ds : List (D × D)}, FRt K F vs ds → vs.length = ds.length
  | _, _, .nil => rfl
  | _, _, .cons _ _ _ _ t => by rw [List.length_cons, List.length_cons, FRt.length t]
theorem FRs.length : ∀ {vs : List V} {ds : List D}, FRs K F vs ds → vs.length = ds.length
  | _, _, .nil => rfl
  | _, _, .cons _ t => by rw [List.length_cons, List.length_cons, FRs.length t]
theorem FRk.length : ∀ {vs : List (Key × V)} {ds : List (D × D)}, FRk K F vs ds → vs.length = ds.length
  | _, _, .nil => rfl
  | _, _, .cons _ t => by rw [List.length_cons, List.length_cons, FRk.length t]
theorem FRs.append : ∀ {vs : List V} {ds : List D} {ws : List V} {es : List D}, FRs K F vs ds → FRs K F ws es → FRs K F (vs ++ ws) (ds ++ es)
  | _, _, _, _, .nil, s => s
  | _, _, _, _, .cons r t, s => .cons r (FRs.append t s)
theorem FRs.get : ∀ {vs : List V} {ds : List D} {i : Nat} {v : V}, FRs K F vs ds → vs[i]? = some v → ∃ d, ds[i]? = some d ∧ FR K F v d
  | _, _, i, _, .nil, e => by simp at e
  | _, _, 0, _, .cons r _, e => by
    simp only [List.getElem?_cons_zero, Option.some.injEq] at e
    subst e
    exact ⟨_, rfl, r⟩
  | _, _, i + 1, v, .cons _ t, e => by
    obtain ⟨d, h1, h2⟩ := FRs.get (i := i) (v := v) t (by simpa using e)
    exact ⟨d, by simpa using h1, h2⟩
theorem FRs.get' : ∀ {vs : List V} {ds : List D} {i : Nat} {d : D}, FRs K F vs ds → ds[i]? = some d → ∃ v, vs[i]? = some v ∧ FR K F v d
  | _, _, i, _, .nil, e => by simp at e
  | _, _, 0, _, .cons r _, e => by
    simp only [List.getElem?_cons_zero, Option.some.injEq] at e
    subst e
    exact ⟨_, rfl, r⟩
  | _, _, i + 1, v, .cons _ t, e => by
    obtain ⟨d, h1, h2⟩ := FRs.get' (i := i) (d := v) t (by simpa using e)
    exact ⟨d, by simpa using h1, h2⟩
theorem FRs.set : ∀ {vs : List V} {ds : List D} {v : V} {d : D} (i : Nat), FR K F v d → FRs K F vs ds → FRs K F (vs.set i v) (ds.set i d)
  | _, _, _, _, _, _, .nil => .nil
  | _, _, _, _, 0, r, .cons _ t => .cons r t
  | _, _, _, _, i + 1, r, .cons q t => .cons q (FRs.set i r t)
theorem FRs.take : ∀ {vs : List V} {ds : List D} (n : Nat), FRs K F vs ds → FRs K F (vs.take n) (ds.take n)
  | _, _, 0, _ => .nil
  | _, _, _ + 1, .nil => .nil
  | _, _, n + 1, .cons r t => .cons r (FRs.take n t)
theorem FRs.drop : ∀ {vs : List V} {ds : List D} (n : Nat), FRs K F vs ds → FRs K F (vs.drop n) (ds.drop n)
  | _, _, 0, h => h
  | _, _, _ + 1, .nil => .nil
  | _, _, n + 1, .cons _ t => FRs.drop n t
theorem FRs.eraseIdx : ∀ {vs : List V} {ds : List D} (n : Nat), FRs K F vs ds → FRs K F (vs.eraseIdx n) (ds.eraseIdx n)
  | _, _, _, .nil => .nil
  | _, _, 0, .cons _ t => t
  | _, _, n + 1, .cons r t => .cons r (FRs.eraseIdx n t)
theorem FRs.dropLast : ∀ {vs : List V} {ds : List D}, FRs K F vs ds → FRs K F vs.dropLast ds.dropLast
  | _, _, .nil => .nil
  | _, _, .cons _ .nil => .nil
  | _, _, .cons r (.cons q t) => .cons r (FRs.dropLast (.cons q t))
theorem FRs.reverse : ∀ {vs : List V} {ds : List D}, FRs K F vs ds → FRs K F vs.reverse ds.reverse
  | _, _, .nil => .nil
  | _, _, .cons r t => by
    rw [List.reverse_cons, List.reverse_cons]
    exact (FRs.reverse t).append (.cons r .nil)
/-! a frozen value that is no dict within, as the layer's data -/
mutual
theorem FR.dp (e : SameH F H) : ∀ {v : V} {d : D}, FR K F v d → d.plain = true → Dp K H v d
  | _, _, .non, _ => .non
  | _, _, .bl b, _ => .bl b
  | _, _, .int i, _ => .int i
  | _, _, .str x, _ => .str x
  | _, _, .lst h r _, p => .lst (sqL_mono e h) (FRs.dp e r (by simpa [PyData.plain] using p))
  | _, _, .tup h r _, p => .tup (sqT_mono e h) (FRs.dp e r (by simpa [PyData.plain] using p))
  | _, _, .dct _ _ _ _, p => by simp [PyData.plain] at p
  | _, _, .dctT _ _ _ _ _ _, p => by simp [PyData.plain] at p
theorem FRs.dp (e : SameH F H) : ∀ {vs : List V} {ds : List D}, FRs K F vs ds → PyData.plainAll ds = true → DpAll K H vs ds
  | _, _, .nil, _ => .nil
  | _, _, .cons h t, p => by
    simp only [PyData.plainAll, Bool.and_eq_true] at p
    exact .cons (FR.dp e h p.1) (FRs.dp e t p.2)
end
end

/-! ### what is readable now: frozen, or a list, a dict of one's own -/
def GT (K : PySem.W.Frag) (H F : Hp) (a : Addr) (ds : List (D × D)) : Prop := ∃ xs : TKs, Rd H a (DTx a xs) ∧ FRt K F xs ds ∧ (xs.map (·.1)).Nodup ∧ xs.length ≤ sizeLine ∧ (a == sysModules) = false ∧ xs ≠ []
def GR (K : PySem.W.Frag) (H F : Hp) (v : V) : D → Prop
  | .none => v = .non
  | .bool b => v = .bl b
  | .int i => v = .int i
  | .str x => v = .str x
  | .list ds => ∃ a xs, v = .ref a ∧ SqL K H a xs ∧ FRs K F xs ds ∧ xs.length ≤ sizeLine
  | .tuple ds => ∃ a xs, v = .ref a ∧ SqT K F a xs ∧ FRs K F xs ds ∧ xs.length ≤ sizeLine
  | .dict ds => (∃ a kvs, v = .ref a ∧ Rd H a (.dK kvs) ∧ FRk K F kvs ds ∧ (kvs.map (·.1)).Nodup ∧ kvs.length ≤ sizeLine) ∨ ∃ a, v = .ref a ∧ GT K H F a ds
theorem FR.gr {K : PySem.W.Frag} {H F : Hp} {v : V} {d : D} (e : SameH F H) (h : FR K F v d) : GR K H F v d := by
  cases h with
  | non => rfl
  | bl b => rfl
  | int i => rfl
  | str x => rfl
  | lst h r z => exact ⟨_, _, rfl, sqL_mono e h, r, z⟩
  | tup h r z => exact ⟨_, _, rfl, h, r, z⟩
  | dct h r n z => exact .inl ⟨_, _, rfl, .inr ⟨_, e _ _ h⟩, r, n, z⟩
  | dctT h r n z m q => exact .inr ⟨_, rfl, _, .inr ⟨_, e _ _ h⟩, r, n, z, m, q⟩
theorem GR.dp {K : PySem.W.Frag} {H F : Hp} {v : V} {d : D} (e : SameH F H) (h : GR K H F v d) (p : d.plain = true) : Dp K H v d := by
  cases d with
  | none => cases h; exact .non
  | bool b => cases h; exact .bl b
  | int i => cases h; exact .int i
  | str x => cases h; exact .str x
  | list ds =>
    obtain ⟨a, xs, rfl, h, r, _⟩ := h
    exact .lst h (r.dp e (by simpa [PyData.plain] using p))
  | tuple ds =>
    obtain ⟨a, xs, rfl, h, r, _⟩ := h
    exact .tup (sqT_mono e h) (r.dp e (by simpa [PyData.plain] using p))
  | dict ds => simp [PyData.plain] at p

/-! ### slots -/
inductive Sl where
  | un
  | fz (d : D)
  | ow (d : D)
  | io (d : D)
abbrev AS := List Sl
def Sl.held : Sl → Option D
  | .ow d => some d
  | .io d => some d
  | _ => none
def Sl.put : Sl → D → Sl
  | .io _, d => .io d
  | _, d => .ow d
/-- the object at a is a list, a dict of one's own that holds d -/
def OR (K : PySem.W.Frag) (H F : Hp) (a : Addr) : D → Prop
  | .list ds => ∃ xs, H a = some (.lst xs) ∧ FRs K F xs ds ∧ xs.length ≤ sizeLine
  | .dict ds => (∃ kvs, H a = some (.dK kvs) ∧ FRk K F kvs ds ∧ (kvs.map (·.1)).Nodup ∧ kvs.length ≤ sizeLine) ∨ ∃ xs : TKs, H a = some (DTx a xs) ∧ FRt K F xs ds ∧ (xs.map (·.1)).Nodup ∧ xs.length ≤ sizeLine ∧ (a == sysModules) = false ∧ xs ≠ []
  | _ => False
theorem OR.there {K : PySem.W.Frag} {H F : Hp} {a : Addr} {d : D} (h : OR K H F a d) : H a ≠ none := by
  cases d with
  | list ds => obtain ⟨_, e, _⟩ := h; rw [e]; exact fun z => nomatch z
  | dict ds => rcases h with ⟨_, e, _⟩ | ⟨_, e, _⟩ <;> rw [e] <;> exact fun z => nomatch z
  | _ => exact h.elim
theorem OR.step {K : PySem.W.Frag} {H F H' F' : Hp} {a : Addr} {d : D} (e : H' a = H a) (f : SameH F F') (h : OR K H F a d) : OR K H' F' a d := by
  cases d with
  | list ds => obtain ⟨xs, h1, h2, h3⟩ := h; exact ⟨xs, e.trans h1, h2.mono f, h3⟩
  | dict ds =>
    rcases h with ⟨xs, h1, h2, h3⟩ | ⟨xs, h1, h2, h3⟩
    · exact .inl ⟨xs, e.trans h1, h2.mono f, h3⟩
    · exact .inr ⟨xs, e.trans h1, h2.mono f, h3⟩
  | _ => exact h.elim
theorem OR.gr {K : PySem.W.Frag} {H F : Hp} {a : Addr} {d : D} (h : OR K H F a d) : GR K H F (.ref a) d := by
  cases d with
  | list ds => obtain ⟨xs, h1, h2, h3⟩ := h; exact ⟨_, xs, rfl, .inl (.inl h1), h2, h3⟩
  | dict ds =>
    rcases h with ⟨xs, h1, h2, h3⟩ | ⟨xs, h1, h2, h3⟩
    · exact .inl ⟨_, xs, rfl, .inl h1, h2, h3⟩
    · exact .inr ⟨_, rfl, xs, .inl h1, h2, h3⟩
  | _ => exact h.elim

/-- where a def began: the frozen part, the heap, what may be changed (M), what of it may be frozen (Z) -/
structure W0 where
  F : Hp
  H : Hp
  M : Addr → Prop
  Z : Addr → Prop

def SlOk (K : PySem.W.Frag) (W : W0) (σ : Sg) (H F : Hp) (i : Nat) : Sl → Prop
  | .un => True
  | .fz d => ∃ v, σ[i]? = some (some v) ∧ FR K F v d
  | .ow d => ∃ a, σ[i]? = some (some (.ref a)) ∧ F a = none ∧ (W.H a = none ∨ W.Z a) ∧ OR K H F a d
  | .io d => ∃ a, σ[i]? = some (some (.ref a)) ∧ F a = none ∧ W.M a ∧ ¬ W.Z a ∧ W.H a ≠ none ∧ OR K H F a d

structure St2 (K : PySem.W.Frag) (W : W0) (σ : Sg) (H F : Hp) (as : AS) : Prop where
  len : as.length = σ.length
  sub : SameH F H
  mono : SameH W.F F
  keep : ∀ a o, W.H a = some o → ¬ W.M a → H a = some o
  dom : ∀ a, H a = none → W.H a = none
  new : ∀ a, F a ≠ none → W.F a ≠ none ∨ W.H a = none ∨ W.Z a
  zm : ∀ a, W.Z a → W.M a
  slot : ∀ (i : Nat) (s : Sl), as[i]? = some s → SlOk K W σ H F i s
  apart : ∀ (i j : Nat) (s t : Sl) (d e : D) (a : Addr), as[i]? = some s → as[j]? = some t → s.held = some d → t.held = some e → σ[i]? = some (some (.ref a)) → σ[j]? = some (some (.ref a)) → i = j

/-- what an expression hands back: a frozen value, or the own object of a slot -/
inductive Rs where
  | v (d : D)
  | s (i : Nat)
def RR (K : PySem.W.Frag) (F : Hp) (σ : Sg) (v : V) : Rs → Prop
  | .v d => FR K F v d
  | .s i => σ[i]? = some (some v)
def rd (as : AS) : Rs → Option D
  | .v d => some d
  | .s i => match as[i]? with
    | some (.fz d) => some d
    | some (.ow d) => some d
    | some (.io d) => some d
    | _ => none

section
variable {K : PySem.W.Frag} {W : W0} {σ σ' : Sg} {H H' F F' : Hp} {as as' : AS}
theorem St2.rd (S : St2 K W σ H F as) {v : V} {r : Rs} {d : D} (h : RR K F σ v r) (e : rd as r = some d) : GR K H F v d := by
  cases r with
  | v d' =>
    cases e
    exact FR.gr S.sub h
  | s i =>
    have h' : σ[i]? = some (some v) := h
    dsimp only [PL.rd] at e
    cases q : as[i]? with
    | none => rw [q] at e; cases e
    | some s =>
      have z := S.slot i s q
      rw [q] at e
      cases s with
      | un => cases e
      | fz d' =>
        cases e
        obtain ⟨u, h1, h2⟩ := z
        rw [h'] at h1
        cases h1
        exact FR.gr S.sub h2
      | ow d' =>
        cases e
        obtain ⟨a, h1, _, _, h2⟩ := z
        rw [h'] at h1
        cases h1
        exact h2.gr
      | io d' =>
        cases e
        obtain ⟨a, h1, _, _, _, _, h2⟩ := z
        rw [h'] at h1
        cases h1
        exact h2.gr
theorem RR.mono (e : SameH F F') {v : V} {r : Rs} (h : RR K F σ v r) : RR K F' σ v r := by
  cases r with
  | v d => exact FR.mono e h
  | s i => exact h

/-- the heap grew, new things froze -/
theorem St2.grow (S : St2 K W σ H F as) (hH : SameH H H') (hF : SameH F F') (hs : SameH F' H') (hn : ∀ a, F' a ≠ none → F a ≠ none ∨ H a = none) : St2 K W σ H' F' as where
  len := S.len
  sub := hs
  mono := S.mono.trans hF
  keep := fun a o e m => hH _ _ (S.keep a o e m)
  dom := fun a e => S.dom a (hH.free e)
  new := fun a e => by
    rcases hn a e with q | q
    · exact S.new a q
    · exact .inr (.inl (S.dom a q))
  zm := S.zm
  slot := fun i s e => by
    have z := S.slot i s e
    have same : ∀ {a : Addr} {d : D}, OR K H F a d → F a = none → F' a = none ∧ OR K H' F' a d := fun {a d} o f => by
      obtain ⟨u, eu⟩ := Option.ne_none_iff_exists'.mp o.there
      refine ⟨?_, o.step ((hH _ _ eu).trans eu.symm) hF⟩
      cases q : F' a with
      | none => rfl
      | some w =>
        rcases hn a (by rw [q]; exact fun z => nomatch z) with r | r
        · exact absurd f r
        · rw [r] at eu; cases eu
    cases s with
    | un => trivial
    | fz d =>
      obtain ⟨v, h1, h2⟩ := z
      exact ⟨v, h1, h2.mono hF⟩
    | ow d =>
      obtain ⟨a, h1, h2, h3, h4⟩ := z
      obtain ⟨q1, q2⟩ := same h4 h2
      exact ⟨a, h1, q1, h3, q2⟩
    | io d =>
      obtain ⟨a, h1, h2, h3, h4, h5, h6⟩ := z
      obtain ⟨q1, q2⟩ := same h6 h2
      exact ⟨a, h1, q1, h3, h4, h5, q2⟩
  apart := S.apart

/-- a new object at p, not frozen -/
theorem St2.laid (S : St2 K W σ H F as) {p : Addr} {o : HO} (hp : H p = none) : St2 K W σ (upd H p o) F as :=
  S.grow (fun b u e => by rw [upd_ne (ne_of_none e hp)]; exact e) (Same.refl F) (fun b u e => by rw [upd_ne (ne_of_none (S.sub _ _ e) hp)]; exact S.sub _ _ e) fun _ e => .inl e
theorem St2.free (S : St2 K W σ H F as) {p : Addr} (hp : H p = none) : F p = none := by
  cases q : F p with
  | none => rfl
  | some u => rw [S.sub _ _ q] at hp; cases hp
/-- a new object at p, frozen at once -/
theorem St2.laidF (S : St2 K W σ H F as) {p : Addr} {o : HO} (hp : H p = none) : St2 K W σ (upd H p o) (upd F p o) as := by
  have fp := S.free hp
  refine S.grow (fun b u e => by rw [upd_ne (ne_of_none e hp)]; exact e) (fun b u e => by rw [upd_ne (ne_of_none e fp)]; exact e) (fun b u e => ?_) fun a e => ?_
  · by_cases q : b = p
    · subst q
      rw [upd_same] at e ⊢
      exact e
    · rw [upd_ne q] at e ⊢
      exact S.sub _ _ e
  · by_cases q : a = p
    · subst q; exact .inr hp
    · rw [upd_ne q] at e
      exact .inl e
theorem same_upd {p : Addr} {o : HO} (hp : F p = none) : SameH F (upd F p o) := fun b u e => by
  rw [upd_ne (ne_of_none e hp)]
  exact e

/-- an object that no slot holds and that is younger than the beginning, frozen as it stands (o' is what stands behind, read as the same) -/
theorem St2.frz (S : St2 K W σ H F as) {p : Addr} {o : HO} (fp : F p = none) (hp : H p ≠ none) (old : W.H p = none ∨ W.Z p) (no : ∀ (i : Nat) (s : Sl) (d : D), as[i]? = some s → s.held = some d → σ[i]? ≠ some (some (.ref p))) : St2 K W σ (upd H p o) (upd F p o) as where
  len := S.len
  sub := fun b u e => by
    by_cases q : b = p
    · subst q
      rw [upd_same] at e ⊢
      exact e
    · rw [upd_ne q] at e ⊢
      exact S.sub _ _ e
  mono := S.mono.trans (same_upd fp)
  keep := fun a u e m => by
    by_cases q : a = p
    · subst q
      rcases old with z | z
      · rw [z] at e; cases e
      · exact absurd (S.zm _ z) m
    · rw [upd_ne q]
      exact S.keep a u e m
  dom := fun a e => by
    by_cases q : a = p
    · subst q
      rw [upd_same] at e; cases e
    · rw [upd_ne q] at e
      exact S.dom a e
  new := fun a e => by
    by_cases q : a = p
    · subst q
      exact .inr old
    · rw [upd_ne q] at e
      exact S.new a e
  zm := S.zm
  slot := fun i s e => by
    have z := S.slot i s e
    cases s with
    | un => trivial
    | fz d =>
      obtain ⟨v, h1, h2⟩ := z
      exact ⟨v, h1, h2.mono (same_upd fp)⟩
    | ow d =>
      obtain ⟨a, h1, h2, h3, h4⟩ := z
      have ne : a ≠ p := fun q => no i _ d e rfl (by rw [h1, q])
      exact ⟨a, h1, by rw [upd_ne ne]; exact h2, h3, h4.step (upd_ne ne) (same_upd fp)⟩
    | io d =>
      obtain ⟨a, h1, h2, h3, h4, h5, h6⟩ := z
      have ne : a ≠ p := fun q => no i _ d e rfl (by rw [h1, q])
      exact ⟨a, h1, by rw [upd_ne ne]; exact h2, h3, h4, h5, h6.step (upd_ne ne) (same_upd fp)⟩
  apart := S.apart

theorem get_set {as : AS} {i j : Nat} {s t : Sl} (h : (as.set i s)[j]? = some t) : (j = i ∧ t = s ∧ i < as.length) ∨ (j ≠ i ∧ as[j]? = some t) := by
  by_cases q : j = i
  · subst q
    by_cases l : j < as.length
    · rw [List.getElem?_set_self l] at h
      exact .inl ⟨rfl, (Option.some.inj h).symm, l⟩
    · rw [List.getElem?_eq_none (by simpa using l)] at h
      cases h
  · rw [List.getElem?_set_ne (Ne.symm q)] at h
    exact .inr ⟨q, h⟩
theorem get_set' {as : AS} {i : Nat} {s t : Sl} (h : as[i]? = some s) : (as.set i t)[i]? = some t := by
  rw [List.getElem?_set_self (List.getElem?_eq_some_iff.mp h).1]

/-- a slot's word is forgotten -/
theorem St2.forget (S : St2 K W σ H F as) (i : Nat) : St2 K W σ H F (as.set i .un) where
  len := by rw [List.length_set]; exact S.len
  sub := S.sub
  mono := S.mono
  keep := S.keep
  dom := S.dom
  new := S.new
  zm := S.zm
  slot := fun j s e => by
    rcases get_set e with ⟨_, rfl, _⟩ | ⟨_, e⟩
    · trivial
    · exact S.slot j s e
  apart := fun j k s t d e a h1 h2 h3 h4 h5 h6 => by
    rcases get_set h1 with ⟨_, rfl, _⟩ | ⟨_, h1⟩
    · cases h3
    rcases get_set h2 with ⟨_, rfl, _⟩ | ⟨_, h2⟩
    · cases h4
    exact S.apart j k s t d e a h1 h2 h3 h4 h5 h6

/-- the own object of a slot is frozen (o: what stands there then) -/
theorem St2.freeze (S : St2 K W σ H F as) {i : Nat} {d : D} {a : Addr} {o : HO} (hi : as[i]? = some (.ow d)) (ha : σ[i]? = some (some (.ref a))) (fr : FR K (upd F a o) (.ref a) d) :
    St2 K W σ (upd H a o) (upd F a o) (as.set i (.fz d)) := by
  obtain ⟨a', h1, h2, h3, h4⟩ := S.slot i _ hi
  rw [ha] at h1
  cases h1
  have S1 : St2 K W σ (upd H a o) (upd F a o) (as.set i .un) := (S.forget i).frz h2 h4.there h3 fun j s e hj hs q => by
    rcases get_set hj with ⟨_, rfl, _⟩ | ⟨ne, hj⟩
    · cases hs
    · exact ne (S.apart j i s _ e d a hj hi hs rfl q ha)
  refine ⟨by rw [List.length_set]; exact S.len, S1.sub, S1.mono, S1.keep, S1.dom, S1.new, S1.zm, fun j s e => ?_, fun j k s t d' e' b g1 g2 g3 g4 g5 g6 => ?_⟩
  · rcases get_set e with ⟨rfl, rfl, _⟩ | ⟨ne, e⟩
    · exact ⟨_, ha, fr⟩
    · exact S1.slot j s (by rw [List.getElem?_set_ne (Ne.symm ne)]; exact e)
  · rcases get_set g1 with ⟨_, rfl, _⟩ | ⟨n1, g1⟩
    · cases g3
    rcases get_set g2 with ⟨_, rfl, _⟩ | ⟨n2, g2⟩
    · cases g4
    exact S.apart j k s t d' e' b g1 g2 g3 g4 g5 g6

/-- the own object of a slot changes -/
theorem St2.change (S : St2 K W σ H F as) {i : Nat} {s : Sl} {d d' : D} {a : Addr} {o : HO} (hi : as[i]? = some s) (hs : s.held = some d) (ha : σ[i]? = some (some (.ref a))) (new : OR K (upd H a o) F a d') :
    St2 K W σ (upd H a o) F (as.set i (s.put d')) := by
  have fa : F a = none ∧ (W.H a = none ∨ W.M a) ∧ H a ≠ none := by
    have z := S.slot i s hi
    cases s with
    | un => cases hs
    | fz _ => cases hs
    | ow e =>
      obtain ⟨b, h1, h2, h3, h4⟩ := z
      rw [ha] at h1
      cases h1
      exact ⟨h2, h3.imp id (S.zm _), h4.there⟩
    | io e =>
      obtain ⟨b, h1, h2, h3, h4, h5, h6⟩ := z
      rw [ha] at h1
      cases h1
      exact ⟨h2, .inr h3, h6.there⟩
  have other : ∀ (j : Nat) (t : Sl) (e : D) (b : Addr), j ≠ i → as[j]? = some t → t.held = some e → σ[j]? = some (some (.ref b)) → b ≠ a := fun j t e b ne hj ht hb q => by
    subst q
    exact ne (S.apart j i t s e d b hj hi ht hs hb ha)
  refine ⟨by rw [List.length_set]; exact S.len, fun b u e => ?_, S.mono, fun b u e m => ?_, fun b e => ?_, S.new, S.zm, fun j t e => ?_, fun j k t u d1 d2 b g1 g2 g3 g4 g5 g6 => ?_⟩
  · have ne : b ≠ a := fun q => by subst q; rw [fa.1] at e; cases e
    rw [upd_ne ne]
    exact S.sub _ _ e
  · have ne : b ≠ a := fun q => by
      subst q
      rcases fa.2.1 with z | z
      · rw [z] at e; cases e
      · exact m z
    rw [upd_ne ne]
    exact S.keep b u e m
  · by_cases q : b = a
    · subst q; rw [upd_same] at e; cases e
    · rw [upd_ne q] at e; exact S.dom b e
  · rcases get_set e with ⟨rfl, rfl, _⟩ | ⟨ne, e⟩
    · have z := S.slot j s hi
      cases s with
      | un => cases hs
      | fz _ => cases hs
      | ow e =>
        obtain ⟨b, h1, h2, h3, h4⟩ := z
        rw [ha] at h1
        cases h1
        exact ⟨a, ha, h2, h3, new⟩
      | io e =>
        obtain ⟨b, h1, h2, h3, h4, h5, h6⟩ := z
        rw [ha] at h1
        cases h1
        exact ⟨a, ha, h2, h3, h4, h5, new⟩
    · have z := S.slot j t e
      cases t with
      | un => trivial
      | fz _ => exact z
      | ow e' =>
        obtain ⟨b, h1, h2, h3, h4⟩ := z
        exact ⟨b, h1, h2, h3, h4.step (upd_ne (other j _ _ b ne e rfl h1)) (Same.refl F)⟩
      | io e' =>
        obtain ⟨b, h1, h2, h3, h4, h5, h6⟩ := z
        exact ⟨b, h1, h2, h3, h4, h5, h6.step (upd_ne (other j _ _ b ne e rfl h1)) (Same.refl F)⟩
  · have key : ∀ {j : Nat} {t : Sl} {d1 : D}, (as.set i (s.put d'))[j]? = some t → t.held = some d1 → ∃ t' d1', as[j]? = some t' ∧ t'.held = some d1' := fun {j t d1} g h => by
      rcases get_set g with ⟨rfl, _, _⟩ | ⟨_, g⟩
      · exact ⟨s, d, hi, hs⟩
      · exact ⟨t, d1, g, h⟩
    obtain ⟨t1, e1, p1, p2⟩ := key g1 g3
    obtain ⟨t2, e2, p3, p4⟩ := key g2 g4
    exact S.apart j k t1 t2 e1 e2 b p1 p3 p2 p4 g5 g6

/-- a name is stored: a frozen value -/
theorem St2.store (S : St2 K W σ H F as) {i : Nat} {v : V} {d : D} (fr : FR K F v d) (l : i < σ.length) : St2 K W (σ.set i (some v)) H F (as.set i (.fz d)) := by
  refine ⟨by rw [List.length_set, List.length_set]; exact S.len, S.sub, S.mono, S.keep, S.dom, S.new, S.zm, fun j s e => ?_, fun j k s t d1 d2 a g1 g2 g3 g4 g5 g6 => ?_⟩
  · rcases get_set e with ⟨rfl, rfl, _⟩ | ⟨ne, e⟩
    · exact ⟨v, by rw [List.getElem?_set_self l], fr⟩
    · have z := S.slot j s e
      have q : (σ.set i (some v))[j]? = σ[j]? := List.getElem?_set_ne (Ne.symm ne)
      cases s <;> first | trivial | (unfold SlOk at z ⊢; rw [q]; exact z)
  · rcases get_set g1 with ⟨_, rfl, _⟩ | ⟨n1, g1⟩
    · cases g3
    rcases get_set g2 with ⟨_, rfl, _⟩ | ⟨n2, g2⟩
    · cases g4
    rw [List.getElem?_set_ne (Ne.symm n1)] at g5
    rw [List.getElem?_set_ne (Ne.symm n2)] at g6
    exact S.apart j k s t d1 d2 a g1 g2 g3 g4 g5 g6
/-- a name is stored: a new object of one's own -/
theorem St2.storeO (S : St2 K W σ H F as) {i : Nat} {p : Addr} {d : D} (fp : F p = none) (old : W.H p = none) (o : OR K H F p d) (no : ∀ (i : Nat) (s : Sl) (d : D), as[i]? = some s → s.held = some d → σ[i]? ≠ some (some (.ref p))) (l : i < σ.length) :
    St2 K W (σ.set i (some (.ref p))) H F (as.set i (.ow d)) := by
  refine ⟨by rw [List.length_set, List.length_set]; exact S.len, S.sub, S.mono, S.keep, S.dom, S.new, S.zm, fun j s e => ?_, fun j k s t d1 d2 a g1 g2 g3 g4 g5 g6 => ?_⟩
  · rcases get_set e with ⟨rfl, rfl, _⟩ | ⟨ne, e⟩
    · exact ⟨p, by rw [List.getElem?_set_self l], fp, .inl old, o⟩
    · have z := S.slot j s e
      have q : (σ.set i (some (V.ref p)))[j]? = σ[j]? := List.getElem?_set_ne (Ne.symm ne)
      cases s <;> first | trivial | (unfold SlOk at z ⊢; rw [q]; exact z)
  · rcases get_set g1 with ⟨e1, _, _⟩ | ⟨n1, p1⟩
    · rcases get_set g2 with ⟨e2, _, _⟩ | ⟨n2, p2⟩
      · rw [e1, e2]
      · rw [e1, List.getElem?_set_self l] at g5
        cases g5
        rw [List.getElem?_set_ne (Ne.symm n2)] at g6
        exact absurd g6 (no k t d2 p2 g4)
    · rw [List.getElem?_set_ne (Ne.symm n1)] at g5
      rcases get_set g2 with ⟨e2, _, _⟩ | ⟨n2, p2⟩
      · rw [e2, List.getElem?_set_self l] at g6
        cases g6
        exact absurd g5 (no j s d1 p1 g3)
      · rw [List.getElem?_set_ne (Ne.symm n2)] at g6
        exact S.apart j k s t d1 d2 a p1 p2 g3 g4 g5 g6

/-! ### another beginning: here and now -/
def here (σ : Sg) (H F : Hp) (as : AS) : W0 :=
  ⟨F, H, fun a => ∃ (i : Nat) (s : Sl) (d : D), as[i]? = some s ∧ s.held = some d ∧ σ[i]? = some (some (.ref a)),
    fun a => ∃ (i : Nat) (d : D), as[i]? = some (.ow d) ∧ σ[i]? = some (some (.ref a))⟩
theorem St2.here (S : St2 K W σ H F as) : St2 K (here σ H F as) σ H F as where
  len := S.len
  sub := S.sub
  mono := Same.refl F
  keep := fun _ _ e _ => e
  dom := fun _ e => e
  new := fun _ e => .inl e
  zm := fun a ⟨i, d, h1, h2⟩ => ⟨i, _, d, h1, rfl, h2⟩
  slot := fun i s e => by
    have z := S.slot i s e
    cases s with
    | un => trivial
    | fz d => exact z
    | ow d =>
      obtain ⟨a, h1, h2, h3, h4⟩ := z
      exact ⟨a, h1, h2, .inr ⟨i, d, e, h1⟩, h4⟩
    | io d =>
      obtain ⟨a, h1, h2, h3, h4, h5, h6⟩ := z
      refine ⟨a, h1, h2, ⟨i, _, d, e, rfl, h1⟩, fun ⟨j, d', q1, q2⟩ => ?_, h6.there, h6⟩
      have z' := S.apart i j _ _ d d' a e q1 rfl rfl h1 q2
      subst z'
      rw [e] at q1
      cases q1
  apart := S.apart
/-- back to the def's own beginning -/
theorem St2.back (S : St2 K W σ H F as) (S' : St2 K (PL.here σ H F as) σ' H' F' as') : St2 K W σ' H' F' as' where
  len := S'.len
  sub := S'.sub
  mono := S.mono.trans S'.mono
  keep := fun a o e m => S'.keep a o (S.keep a o e m) fun ⟨i, s, d, q1, q2, q3⟩ => by
    have z := S.slot i s q1
    cases s with
    | un => cases q2
    | fz _ => cases q2
    | ow d' =>
      obtain ⟨b, h1, h2, h3, h4⟩ := z
      rw [q3] at h1
      cases h1
      rcases h3 with h3 | h3
      · rw [h3] at e; cases e
      · exact m (S.zm _ h3)
    | io d' =>
      obtain ⟨b, h1, h2, h3, h4, h5, h6⟩ := z
      rw [q3] at h1
      cases h1
      exact m h3
  dom := fun a e => S.dom a (S'.dom a e)
  new := fun a e => by
    rcases S'.new a e with q | q | ⟨i, d, q1, q2⟩
    · exact S.new a q
    · exact .inr (.inl (S.dom a q))
    · obtain ⟨b, h1, h2, h3, h4⟩ := S.slot i _ q1
      rw [q2] at h1
      cases h1
      exact .inr h3
  zm := S.zm
  slot := fun i s e => by
    have z := S'.slot i s e
    cases s with
    | un => trivial
    | fz d => exact z
    | ow d =>
      obtain ⟨a, h1, h2, h3, h4⟩ := z
      refine ⟨a, h1, h2, ?_, h4⟩
      rcases h3 with q | ⟨j, d', q1, q2⟩
      · exact .inl (S.dom a q)
      · obtain ⟨b, p1, p2, p3, p4⟩ := S.slot j _ q1
        rw [q2] at p1
        cases p1
        exact p3
    | io d =>
      obtain ⟨a, h1, h2, ⟨j, t, d', q1, q2, q3⟩, h4, h5, h6⟩ := z
      have z := S.slot j t q1
      cases t with
      | un => cases q2
      | fz _ => cases q2
      | ow d' =>
        exact absurd ⟨j, _, q1, q3⟩ h4
      | io d' =>
        obtain ⟨b, p1, p2, p3, p4, p5, p6⟩ := z
        rw [q3] at p1
        cases p1
        exact ⟨a, h1, h2, p3, p4, p5, h6⟩
  apart := S'.apart
/-- what no slot holds stays behind such a piece -/
theorem St2.stays (S : St2 K W σ H F as) (S' : St2 K (PL.here σ H F as) σ' H' F' as') {p : Addr} {o : HO} (e : H p = some o) (no : ∀ (i : Nat) (s : Sl) (d : D), as[i]? = some s → s.held = some d → σ[i]? ≠ some (some (.ref p))) : H' p = some o ∧ (F p = none → F' p = none) := by
  refine ⟨S'.keep p o e fun ⟨i, s, d, q1, q2, q3⟩ => no i s d q1 q2 q3, fun f => ?_⟩
  cases q : F' p with
  | none => rfl
  | some w =>
    rcases S'.new p (by rw [q]; exact fun z => nomatch z) with r | r | ⟨i, d, q1, q2⟩
    · exact absurd f r
    · have r' : H p = none := r
      rw [e] at r'; cases r'
    · exact absurd q2 (no i _ d q1 rfl)
end
end PL
/-! PLT: dicts whose keys are tuples: looked up, written, read. -/
namespace PL
open PySem PySem.Spec PyProof.Rows L2

/-- the numbers of a tuple as a key -/
def tKey : D → Option (List Int)
  | .tuple ks => numsD ks
  | _ => none
/-- what such a dict holds at a key; none: its keys are no such tuples -/
def lkT (q : List Int) : List (D × D) → Option (Option D)
  | [] => some none
  | (a, b) :: r => match tKey a with
    | some n => if n = q then some (some b) else lkT q r
    | none => none
def putT (q : List Int) (k d : D) : List (D × D) → Option (List (D × D))
  | [] => some [(k, d)]
  | (a, b) :: r => match tKey a with
    | some n => if n = q then some ((a, d) :: r) else (putT q k d r).map ((a, b) :: ·)
    | none => none
/-- the first key is a whole number or a text (or there is none) -/
def hdK : List (D × D) → Bool
  | [] => true
  | (.int _, _) :: _ => true
  | (.str _, _) :: _ => true
  | _ => false
theorem frt_hdK {K : PySem.W.Frag} {F : Hp} {xs : TKs} {ds : List (D × D)} (h : FRt K F xs ds) (ne : xs ≠ []) : hdK ds = false := by
  cases h with
  | nil => exact absurd rfl ne
  | cons _ _ _ _ _ => rfl
theorem frk_hdK {K : PySem.W.Frag} {F : Hp} {xs : List (Key × V)} {ds : List (D × D)} (h : FRk K F xs ds) : hdK ds = true := by
  cases h with
  | nil => rfl
  | @cons k _ _ _ _ _ _ => cases k <;> rfl
theorem frk_lkT {K : PySem.W.Frag} {F : Hp} {q : List Int} {xs : List (Key × V)} {ds : List (D × D)} (h : FRk K F xs ds) : lkT q ds = none ∨ ds = [] := by
  cases h with
  | nil => exact .inr rfl
  | @cons k _ _ _ _ _ _ => cases k <;> exact .inl rfl
theorem nums_items {K : PySem.W.Frag} {F : Hp} {P : Program} {w : World} : ∀ {kds : List D} {ks : List Int} {vs : List V} {its : List Value}, FRs K F vs kds → numsD kds = some ks → Vals vs its → ItemsAre (numK P w) ks its
  | [], ks, _, _, .nil, e, .nil => by cases e; exact .nil
  | d :: r, ks, _, _, .cons h t, e, .cons rv rt => by
    cases d with
    | int i =>
      cases h
      unfold numsD at e
      cases q : numsD r with
      | none => rw [q] at e; cases e
      | some l =>
        rw [q] at e
        cases e
        obtain ⟨tk, rfl⟩ := rv
        exact .cons (show numIs i (.int i tk) = true from beq_self_eq_true i) (nums_items t q rt)
    | bool b =>
      cases h
      unfold numsD at e
      cases q : numsD r with
      | none => rw [q] at e; cases e
      | some l =>
        rw [q] at e
        cases e
        cases rv
        exact .cons (show numIs (b2i b) (.bool b) = true from beq_self_eq_true _) (nums_items t q rt)
    | _ => cases e
section
variable {X : Cx} {pins : List (Addr × Obj)} {σ : Sg} {H F : Hp} {s : Shared}
theorem key_at (I : L2.Inv X pins σ H s) (sub : SameH F H) {b : Addr} {kds : List D} {ks : List Int} (h : GR X.K H F (.ref b) (.tuple kds)) (e : numsD kds = some ks) : (tupleKind (numK X.prog X.w)).is s.heap ks b := by
  obtain ⟨a, xs, ea, h1, h2, h3⟩ := h
  cases ea
  obtain ⟨its, r, ⟨o, e1, e2, n, e3⟩, _⟩ := I.tuple (sqT_mono sub h1)
  exact ⟨o, its.toArray, n, e1, e2, e3, by simpa using nums_items h2 e r⟩
theorem frt_keys (I : L2.Inv X pins σ H s) (sub : SameH F H) : ∀ {xs : TKs} {ds : List (D × D)}, FRt X.K F xs ds → ∀ x ∈ xs, (tupleKind (numK X.prog X.w)).is s.heap x.1 x.2.1
  | _, _, .nil, x, hx => nomatch hx
  | _, _, .cons h e _ _ t, x, hx => by
    rcases List.mem_cons.mp hx with rfl | hx
    · exact key_at I sub (h.gr sub) e
    · exact frt_keys I sub t x hx
/-- as the library's rules want it -/
theorem gt_dict (I : L2.Inv X pins σ H s) (sub : SameH F H) {a : Addr} {xs : TKs} {ds : List (D × D)} (rd : Rd H a (DTx a xs)) (h : FRt X.K F xs ds) (nd : (xs.map (·.1)).Nodup) : s.heap.DictOfH (tupleKind (numK X.prog X.w)) a xs :=
  dtx_dict I.hok rd (frt_keys I sub h) nd
end
theorem atKey_hd {x : List Int × Addr × Value} {r : TKs} {q : List Int} : atKey (x :: r) q = if x.1 = q then some x.2 else atKey r q := by
  unfold atKey
  rw [List.find?_cons]
  by_cases h : x.1 = q
  · rw [decide_eq_true h, if_pos h]; rfl
  · rw [decide_eq_false h, if_neg h]
theorem frt_look {K : PySem.W.Frag} {F : Hp} {q : List Int} : ∀ {xs : TKs} {ds : List (D × D)}, FRt K F xs ds → (match atKey xs q with | some p => ∃ v d, lkT q ds = some (some d) ∧ RelV v p.2 ∧ FR K F v d | none => lkT q ds = some none)
  | _, _, .nil => rfl
  | _, _, .cons (ks := ks) (b := b) (u := u) (v := v) (kds := kds) (d := d) (r := r) (ds := ds) h e rv fr t => by
    have ih := frt_look (q := q) t
    have e1 : lkT q ((.tuple kds, d) :: ds) = if ks = q then some (some d) else lkT q ds := by
      show (match tKey (.tuple kds) with | some n => if n = q then some (some d) else lkT q ds | none => none) = _
      rw [show tKey (.tuple kds) = some ks from e]
    rw [e1, atKey_hd]
    by_cases z : ks = q
    · rw [if_pos z, if_pos z]
      exact ⟨v, d, rfl, rv, fr⟩
    · rw [if_neg z, if_neg z]
      exact ih
theorem storedH_hd {ks : List Int} {b0 : Addr} {u0 : Value} {r : TKs} {q : List Int} {b : Addr} {u : Value} (nd : (((ks, b0, u0) :: r).map (·.1)).Nodup) : storedH ((ks, b0, u0) :: r) q b u = if ks = q then (ks, b0, u) :: r else (ks, b0, u0) :: storedH r q b u := by
  rw [List.map_cons, List.nodup_cons] at nd
  unfold storedH
  rw [atKey_hd]
  by_cases h : ks = q
  · subst h
    rw [if_pos rfl, if_pos rfl]
    show List.map (PySem.putAt ks u) ((ks, b0, u0) :: r) = _
    rw [List.map_cons, map_putAt_of_not_mem _ _ _ nd.1]
    unfold PySem.putAt
    rw [if_pos rfl]
  · rw [if_neg h, if_neg h]
    split
    · rw [List.map_cons]
      show PySem.putAt q u (ks, b0, u0) :: _ = _
      unfold PySem.putAt
      rw [if_neg h]
    · rfl
theorem frt_put {K : PySem.W.Frag} {F : Hp} {q : List Int} {b : Addr} {u : Value} {v : V} {kd : List D} {d : D} (hk : FR K F (.ref b) (PyData.tuple kd)) (eq : numsD kd = some q) (rv : RelV v u) (fr : FR K F v d) :
    ∀ {xs : TKs} {ds : List (D × D)}, FRt K F xs ds → (xs.map (·.1)).Nodup → ∃ ds', putT q (PyData.tuple kd) d ds = some ds' ∧ FRt K F (storedH xs q b u) ds'
  | _, _, .nil, _ => ⟨_, rfl, .cons hk eq rv fr .nil⟩
  | _, _, .cons (ks := ks) (b := b0) (u := u0) (v := v0) (kds := kds) (d := d0) (r := r) (ds := ds) h e rv0 fr0 t, nd => by
    have e1 : putT q (PyData.tuple kd) d (((PyData.tuple kds : D), d0) :: ds) = if ks = q then some (((PyData.tuple kds : D), d) :: ds) else (putT q (PyData.tuple kd) d ds).map (((PyData.tuple kds : D), d0) :: ·) := by
      show (match tKey (PyData.tuple kds) with | some n => if n = q then some (((PyData.tuple kds : D), d) :: ds) else (putT q (PyData.tuple kd) d ds).map (((PyData.tuple kds : D), d0) :: ·) | none => none) = _
      rw [show tKey (PyData.tuple kds) = some ks from e]
    rw [e1, storedH_hd nd]
    have nd2 := nd
    rw [List.map_cons, List.nodup_cons] at nd2
    by_cases z : ks = q
    · rw [if_pos z, if_pos z]
      exact ⟨_, rfl, .cons h e rv fr t⟩
    · rw [if_neg z, if_neg z]
      obtain ⟨ds', h1, h2⟩ := frt_put hk eq rv fr t nd2.2
      rw [h1]
      exact ⟨_, rfl, .cons h e rv0 fr0 h2⟩
theorem stored_nd {xs : TKs} {q : List Int} {b : Addr} {u : Value} (nd : (xs.map (·.1)).Nodup) : ((storedH xs q b u).map (·.1)).Nodup := by
  unfold storedH
  split
  · rw [keys_map_putAt]; exact nd
  · rename_i h
    rw [List.map_append, List.nodup_append]
    refine ⟨nd, by simp, ?_⟩
    intro x hx y hy e
    simp only [List.map_cons, List.map_nil, List.mem_singleton] at hy
    subst hy e
    obtain ⟨p, hp, ep⟩ := List.mem_map.mp hx
    apply h
    unfold atKey
    rw [Option.isSome_map]
    rw [List.find?_isSome]
    exact ⟨p, hp, by simpa using ep⟩
theorem stored_len {xs : TKs} {q : List Int} {b : Addr} {u : Value} : (storedH xs q b u).length ≤ xs.length + 1 := by
  unfold storedH
  split
  · rw [List.length_map]; omega
  · rw [List.length_append]; exact Nat.le_refl _
theorem stored_ne {xs : TKs} {q : List Int} {b : Addr} {u : Value} : storedH xs q b u ≠ [] := by
  unfold storedH
  split
  · rename_i h
    cases xs with
    | nil => cases h
    | cons x r => exact fun z => nomatch z
  · exact fun z => by simp at z

/-! ### dict(d) -/
def hashT (q : List Int) : Int := reduceHash (Builtin.Tuple.tupleHashOf (q.map hashInt))
/-- no two of the keys have one hash -/
def hapT (ds : List (D × D)) : Bool := decide ((ds.filterMap fun p => (tKey p.1).map hashT).Nodup)
theorem frt_hash {K : PySem.W.Frag} {F : Hp} : ∀ {xs : TKs} {ds : List (D × D)}, FRt K F xs ds → (ds.filterMap fun p => (tKey p.1).map hashT) = xs.map fun x => hashT x.1
  | _, _, .nil => rfl
  | _, _, .cons (ks := ks) (b := b) (u := u) (kds := kds) (d := d) (r := r) (ds := ds) h e _ _ t => by
    rw [List.map_cons, ← frt_hash t, List.filterMap_cons]
    dsimp only
    rw [show tKey (.tuple kds) = some ks from e]
    rfl
theorem frt_hap {K : PySem.W.Frag} {F : Hp} {xs : TKs} {ds : List (D × D)} (h : FRt K F xs ds) (e : hapT ds = true) : (xs.map fun x => hashT x.1).Nodup := by
  rw [← frt_hash h]
  exact of_decide_eq_true e
theorem dict_T {X : Cx} {pins : List (Addr × Obj)} {σ : Sg} {H F : Hp} {s : Shared} {a : Addr} {xs : TKs} {ks : List (D × D)} {Q : VK} (I : L2.Inv X pins σ H s) (sub : SameH F H) (h1 : Rd H a (DTx a xs)) (h2 : FRt X.K F xs ks) (h3 : (xs.map (·.1)).Nodup) (h4 : xs.length ≤ sizeLine) (h5 : (a == sysModules) = false) (hap : (xs.map fun x => hashT x.1).Nodup) (hu : X.A.units + 64 < cLine)
    (q : ∀ p, H p = none → (p == sysModules) = false → Q (.ref p) (upd H p (DTx p xs))) : wpAny (model X.prog X.w) X.A (call (.type "dict") [.ref a]) (EP X pins σ Q) X.xe s := by
  have ho := gt_dict I sub h1 h2 h3
  refine callType_codes (Q₁ := fun obj s₁ => obj = .ref s.heap.objs.size ∧ s₁ = { s with heap := s.heap.push { cls := .type "dict", data := .dict #[] } }) PySem.F.kt_called_dict (PySem.F.kt_typeCall_dict_1 _) PySem.F.entry_dict_init (kt_code_dict_new _ ⟨rfl, rfl⟩) ?_
  rintro obj s₁ ⟨rfl, rfl⟩
  have hnew : (s.heap.push { cls := .type "dict", data := .dict #[] }).DictOfH (tupleKind (numK X.prog X.w)) s.heap.objs.size [] := Heap.DictOfH.new s.heap
  have ho' : (s.heap.push { cls := .type "dict", data := .dict #[] }).DictOfH (tupleKind (numK X.prog X.w)) a xs := by
    obtain ⟨o, es, ep, e1, e2, e3, e4, e5, e6⟩ := ho
    refine ⟨o, es, ep, Heap.get?_push_of_some _ e1, e2, e3, e4, fun x hx => ?_, e6⟩
    obtain ⟨ob, its, n, q1, q2⟩ := e5 x hx
    exact ⟨ob, its, n, Heap.get?_push_of_some _ q1, q2⟩
  have hty : ∀ x ∈ xs, Shared.TypeIs { s with heap := s.heap.push { cls := .type "dict", data := .dict #[] } } (.ref x.2.1) "tuple" := by
    intro x hx
    obtain ⟨ob, its, n, q1, q2, _⟩ := (let ⟨_, _, _, _, _, _, _, e5, _⟩ := ho'; e5) x hx
    exact ⟨ob, q1, q2⟩
  have hdo : s.heap.objs.size ≠ a := by
    obtain ⟨_, _, _, hg, _⟩ := ho
    exact fun e => absurd (Heap.lt_size hg) (by rw [e]; exact Nat.lt_irrefl _)
  have hT : Shared.TypeIs { s with heap := s.heap.push { cls := .type "dict", data := .dict #[] } } (.ref s.heap.objs.size) "dict" := ⟨_, Heap.get?_push_size _ rfl, rfl⟩
  refine ⟨hT, PySem.F.args_dict_init_2 _ _, ?_⟩
  unfold Builtin.«dict.__init__»
  refine wpAny_bind ?_
  unfold Builtin.Dict.selfAndRest
  refine wpAny_bind (wpAny_notOrdered_dict hT ?_)
  show wpAny _ _ (pure (s.heap.objs.size, [Value.ref a])) _ _ _
  refine wpAny_pure ?_
  have hm : (s.heap.objs.size == sysModules) = false := beq_eq_false_iff_ne.mpr (Nat.ne_of_gt I.big)
  refine PySem.updateFrom_dictH (A := X.A.in1) (R := wants (fun r s₂ => r = Value.none ∧ EP X pins σ Q (Value.ref s.heap.objs.size) s₂) X.xe) .none (show (tupleKind (numK X.prog X.w)).room _ by show X.A.units + 1 + 1 < cLine; omega) hdo h5 hnew ho' (.inr ⟨hty, hap⟩) (by simpa using h4) fun h' hd' _ hs' => ?_
  rw [storedAllH_nil_of_nodup xs h3] at hd'
  refine ⟨rfl, ?_⟩
  exact ⟨.ref s.heap.objs.size, upd H s.heap.objs.size (DTx s.heap.objs.size xs), I.laid (t' := s.toks) (fun b u e => (hs'.2 b (Nat.ne_of_lt (Heap.lt_size e))).trans (Heap.get?_push_of_some _ e)) (Nat.le_refl _) (dict_dtx hd'), rfl, q _ (I.hok.fresh (Nat.le_refl _)) hm⟩

/-! ### d[(..)] = v -/
theorem put_T {X : Cx} {pins : List (Addr × Obj)} {σ : Sg} {H F : Hp} {s : Shared} {a bk : Addr} {xs : TKs} {kd : List D} {q : List Int} {w : Value} {Q : Unit → Shared → Prop} {A : Around} {E : Value → Shared → Prop} (I : L2.Inv X pins σ H s) (sub : SameH F H) (mu : Mut (H a)) (dd : s.heap.DictOfH (tupleKind (numK X.prog X.w)) a xs) (h4 : xs.length ≤ sizeLine)
    (gk : GR X.K H F (.ref bk) (.tuple kd)) (eq : numsD kd = some q) (hu : A.units + 1 < cLine) (h : ∀ s', L2.Inv X pins σ (upd H a (DTx a (storedH xs q bk w))) s' → Q () s') : wpAny (model X.prog X.w) A (setItem (.ref a) (.ref bk) w) Q E s := by
  refine wpAny_setItem_heap (hsz := h4) (tupleKind_room_in1 hu) (key_at I sub gk eq) dd fun h' dd' hs => h _ ?_
  have he : ∃ q, h'.get? a = some q := let ⟨q, _, _, hq, _⟩ := dd'; ⟨q, hq⟩
  exact d_write I mu hs he (dict_dtx dd')
end PL
/-! PL2: what a piece of text computes: forms, conversions, names, constants, operators, comparisons, subscripts. -/
namespace PL
open PySem PySem.Spec PyProof.Rows L2

abbrev FE := AS → Option (Rs × AS)
abbrev FV := AS → Option (D × AS)
abbrev FB := AS → Option (Bool × AS)
abbrev FA := AS → Option (List D × AS)
abbrev FRS := AS → Option (List Rs × AS)

/-! ### the forms -/
def eOf (K : PySem.W.Frag) (f : FE) : TE := fun σ H Q => ∃ W F as r as', St2 K W σ H F as ∧ f as = some (r, as') ∧ ∀ v H' F', St2 K W σ H' F' as' → SameH F F' → RR K F' σ v r → Q v H'
def vOf (K : PySem.W.Frag) (f : FV) : TE := fun σ H Q => ∃ W F as d as', St2 K W σ H F as ∧ f as = some (d, as') ∧ ∀ v H' F', St2 K W σ H' F' as' → SameH F F' → FR K F' v d → Q v H'
/-- no slot holds the object at p as its own -/
def Nobody (σ : Sg) (as : AS) (p : Addr) : Prop := ∀ (i : Nat) (s : Sl) (d : D), as[i]? = some s → s.held = some d → σ[i]? ≠ some (some (.ref p))
def nOf (K : PySem.W.Frag) (f : FV) : TE := fun σ H Q => ∃ W F as d as', St2 K W σ H F as ∧ f as = some (d, as') ∧ ∀ p H' F', St2 K W σ H' F' as' → SameH F F' → F' p = none → W.H p = none → OR K H' F' p d → Nobody σ as' p → Q (.ref p) H'
def tOf (K : PySem.W.Frag) (f : FB) : TT := fun σ H Q => ∃ W F as b as', St2 K W σ H F as ∧ f as = some (b, as') ∧ ∀ H' F', St2 K W σ H' F' as' → SameH F F' → Q b H'
def aOf (K : PySem.W.Frag) (f : FA) : TA := fun σ H Q => ∃ W F as ds as', St2 K W σ H F as ∧ f as = some (ds, as') ∧ ∀ vs H' F', St2 K W σ H' F' as' → SameH F F' → FRs K F' vs ds → Q vs H'
inductive RRs (K : PySem.W.Frag) (F : Hp) (σ : Sg) : List V → List Rs → Prop
  | nil : RRs K F σ [] []
  | cons {v : V} {vs : List V} {r : Rs} {rs : List Rs} : RR K F σ v r → RRs K F σ vs rs → RRs K F σ (v :: vs) (r :: rs)
def rOf (K : PySem.W.Frag) (f : FRS) : TA := fun σ H Q => ∃ W F as rs as', St2 K W σ H F as ∧ f as = some (rs, as') ∧ ∀ vs H' F', St2 K W σ H' F' as' → SameH F F' → RRs K F' σ vs rs → Q vs H'
abbrev QE (X : Cx) (e : Expr) (f : FE) : Prop := PE X e (eOf X.K f)
abbrev QV (X : Cx) (e : Expr) (f : FV) : Prop := PE X e (vOf X.K f)
abbrev QN (X : Cx) (e : Expr) (f : FV) : Prop := PE X e (nOf X.K f)
abbrev QT (X : Cx) (e : Expr) (f : FB) : Prop := PT X e (tOf X.K f)
abbrev QW (X : Cx) (e : Expr) (f : FB) : Prop := PW X e (tOf X.K f)
abbrev QA (X : Cx) (es : List Expr) (f : FA) : Prop := PA X es (aOf X.K f)
abbrev QR (X : Cx) (es : List Expr) (f : FRS) : Prop := PA X es (rOf X.K f)

theorem PE.weak {X : Cx} {e : Expr} {t t' : TE} (h : PE X e t) (w : ∀ σ H Q, t' σ H Q → t σ H Q) : PE X e t' := ⟨fun pins s σ H Q I q => h.run pins s σ H Q I (w _ _ _ q)⟩
theorem PT.weak {X : Cx} {e : Expr} {t t' : TT} (h : PT X e t) (w : ∀ σ H Q, t' σ H Q → t σ H Q) : PT X e t' := ⟨fun pins s σ H Q I q => h.run pins s σ H Q I (w _ _ _ q)⟩
theorem PW.weak {X : Cx} {e : Expr} {t t' : TT} (h : PW X e t) (w : ∀ σ H Q, t' σ H Q → t σ H Q) : PW X e t' := ⟨fun wh pins s σ H Q I q => h.run wh pins s σ H Q I (w _ _ _ q)⟩
theorem PA.weak {X : Cx} {es : List Expr} {t t' : TA} (h : PA X es t) (w : ∀ σ H Q, t' σ H Q → t σ H Q) : PA X es t' := ⟨fun pos pins s σ H Q I q => h.run pos pins s σ H Q I (w _ _ _ q)⟩

section
variable {K : PySem.W.Frag} {W : W0} {σ : Sg} {H H' F F' : Hp} {as as' : AS}
theorem RRs.mono (e : SameH F F') : ∀ {vs : List V} {rs : List Rs}, RRs K F σ vs rs → RRs K F' σ vs rs
  | _, _, .nil => .nil
  | _, _, .cons h t => .cons (h.mono e) (RRs.mono e t)
theorem Nobody.fresh (S : St2 K W σ H F as) {p : Addr} (h : H p = none) : Nobody σ as p := fun i s d h1 h2 h3 => by
  have z := S.slot i s h1
  cases s with
  | un => cases h2
  | fz _ => cases h2
  | ow d' =>
    obtain ⟨a, q1, _, _, q4⟩ := z
    rw [h3] at q1
    cases q1
    exact q4.there h
  | io d' =>
    obtain ⟨a, q1, _, _, _, _, q4⟩ := z
    rw [h3] at q1
    cases q1
    exact q4.there h
theorem upd_self {a : Addr} {o : HO} (h : H a = some o) : upd H a o = H := by
  funext b
  unfold upd
  split
  · rename_i e
    rw [e, h]
  · rfl
end

/-! ### freezing -/
section
variable {X : Cx} {pins : List (Addr × Obj)} {σ : Sg} {H F : Hp} {s : Shared} {W : W0} {as : AS}
/-- what stands at p, a list or a dict, is frozen: what stands behind -/
theorem or_frz (I : L2.Inv X pins σ H s) {p : Addr} {d : D} (o : OR X.K H F p d) (fp : F p = none) : ∃ u, L2.Inv X pins σ (upd H p u) s ∧ FR X.K (upd F p u) (.ref p) d := by
  cases d with
  | list ds =>
    obtain ⟨xs, h1, h2, h3⟩ := o
    exact ⟨.lst xs, by rw [upd_self h1]; exact I, .lst (.inl (.inl upd_same)) (h2.mono (same_upd fp)) h3⟩
  | dict ds =>
    rcases o with ⟨kvs, h1, h2, h3, h4⟩ | ⟨xs, h1, h2, h3, h4, h5, h6⟩
    · obtain ⟨od, I'⟩ := I.lock h1 trivial
      exact ⟨_, I', .dct upd_same (h2.mono (same_upd fp)) h3 h4⟩
    · obtain ⟨od, I'⟩ := I.lock h1 trivial
      exact ⟨_, I', .dctT upd_same (h2.mono (same_upd fp)) h3 h4 h5 h6⟩
  | _ => exact o.elim
theorem frz_new (I : L2.Inv X pins σ H s) (S : St2 X.K W σ H F as) {p : Addr} {d : D} (o : OR X.K H F p d) (fp : F p = none) (old : W.H p = none) (no : Nobody σ as p) :
    ∃ H' F', L2.Inv X pins σ H' s ∧ St2 X.K W σ H' F' as ∧ SameH F F' ∧ FR X.K F' (.ref p) d := by
  obtain ⟨u, I', fr⟩ := or_frz I o fp
  exact ⟨_, _, I', S.frz fp o.there (.inl old) no, same_upd fp, fr⟩
end

def fzr (as : AS) : Rs → Option (D × AS)
  | .v d => some (d, as)
  | .s i => match as[i]? with
    | some (.fz d) => some (d, as)
    | some (.ow d) => some (d, as.set i (.fz d))
    | _ => none
section
variable {X : Cx} {pins : List (Addr × Obj)} {σ : Sg} {H F : Hp} {s : Shared} {W : W0} {as as' : AS}
theorem fzr_run (I : L2.Inv X pins σ H s) (S : St2 X.K W σ H F as) {r : Rs} {v : V} {d : D} (h : RR X.K F σ v r) (e : fzr as r = some (d, as')) :
    ∃ H' F', L2.Inv X pins σ H' s ∧ St2 X.K W σ H' F' as' ∧ SameH F F' ∧ FR X.K F' v d := by
  cases r with
  | v d' =>
    cases e
    exact ⟨H, F, I, S, Same.refl F, h⟩
  | s i =>
    have h' : σ[i]? = some (some v) := h
    dsimp only [fzr] at e
    cases q : as[i]? with
    | none => rw [q] at e; cases e
    | some t =>
      have z := S.slot i t q
      rw [q] at e
      cases t with
      | un => cases e
      | io _ => cases e
      | fz d' =>
        cases e
        obtain ⟨u, h1, h2⟩ := z
        rw [h'] at h1
        cases h1
        exact ⟨H, F, I, S, Same.refl F, h2⟩
      | ow d' =>
        cases e
        obtain ⟨a, h1, h2, h3, h4⟩ := z
        rw [h'] at h1
        cases h1
        obtain ⟨u, I', fr⟩ := or_frz I h4 h2
        exact ⟨_, _, I', S.freeze q h' fr, same_upd h2, fr⟩
end
/-- the value, frozen -/
def eV (f : FE) : FV := fun as => match f as with
  | some (r, as1) => fzr as1 r
  | none => none
def vE (f : FV) : FE := fun as => match f as with
  | some (d, as1) => some (.v d, as1)
  | none => none
section
variable {X : Cx} {e : Expr} {f : FE} {g : FV}
theorem q_ev (h : QE X e f) : QV X e (eV f) := by
  refine ⟨fun pins s σ H Q I ⟨W, F, as, d, as', S, e1, k⟩ => ?_⟩
  unfold eV at e1
  cases q : f as with
  | none => rw [q] at e1; cases e1
  | some p =>
    obtain ⟨r, as1⟩ := p
    rw [q] at e1
    refine thn (h.run pins s σ H (fun v H' => ∃ F', St2 X.K W σ H' F' as1 ∧ SameH F F' ∧ RR X.K F' σ v r) I ⟨W, F, as, r, as1, S, q, fun v H' F' S' m rr => ⟨F', S', m, rr⟩⟩) fun u s1 ⟨v, H1, I1, rv, F1, S1, m1, rr⟩ => ?_
    obtain ⟨H2, F2, I2, S2, m2, fr⟩ := fzr_run I1 S1 rr e1
    exact ⟨v, H2, I2, rv, k v H2 F2 S2 (m1.trans m2) fr⟩
theorem q_nv (h : QN X e g) : QV X e g := by
  refine ⟨fun pins s σ H Q I ⟨W, F, as, d, as', S, e1, k⟩ => ?_⟩
  refine thn (h.run pins s σ H (fun v H' => ∃ p F', v = .ref p ∧ St2 X.K W σ H' F' as' ∧ SameH F F' ∧ F' p = none ∧ W.H p = none ∧ OR X.K H' F' p d ∧ Nobody σ as' p) I ⟨W, F, as, d, as', S, e1, fun p H' F' S' m h1 h2 h3 h4 => ⟨p, F', rfl, S', m, h1, h2, h3, h4⟩⟩)
    fun u s1 ⟨v, H1, I1, rv, p, F1, ev, S1, m1, h1, h2, h3, h4⟩ => ?_
  subst ev
  obtain ⟨H2, F2, I2, S2, m2, fr⟩ := frz_new I1 S1 h3 h1 h2 h4
  exact ⟨_, H2, I2, rv, k _ H2 F2 S2 (m1.trans m2) fr⟩
theorem q_ve (h : QV X e g) : QE X e (vE g) := PE.weak h fun σ H Q ⟨W, F, as, r, as', S, e1, k⟩ => by
  unfold vE at e1
  cases q : g as with
  | none => rw [q] at e1; cases e1
  | some p =>
    obtain ⟨d, as1⟩ := p
    rw [q] at e1
    cases e1
    exact ⟨W, F, as, d, as', S, q, fun v H' F' S' m fr => k v H' F' S' m fr⟩
end

/-! ### names, constants -/
def fVar (i : Nat) : FE := fun as => match as[i]? with
  | some (.fz d) => some (.v d, as)
  | some (.ow _) => some (.s i, as)
  | some (.io _) => some (.s i, as)
  | _ => none
def fC (d : D) : FV := fun as => some (d, as)
section
variable {X : Cx} {pos : Pos}
theorem q_var {i : Nat} {x : Str} (h : PE X (.Name x pos) (tVar i)) : QE X (.Name x pos) (fVar i) := PE.weak h fun σ H Q ⟨W, F, as, r, as', S, e, k⟩ => by
  unfold fVar at e
  cases q : as[i]? with
  | none => rw [q] at e; cases e
  | some t =>
    have z := S.slot i t q
    rw [q] at e
    cases t with
    | un => cases e
    | fz d =>
      cases e
      obtain ⟨v, h1, h2⟩ := z
      exact ⟨v, h1, k v H F S (Same.refl F) h2⟩
    | ow d =>
      cases e
      obtain ⟨a, h1, _⟩ := z
      exact ⟨_, h1, k _ H F S (Same.refl F) h1⟩
    | io d =>
      cases e
      obtain ⟨a, h1, _⟩ := z
      exact ⟨_, h1, k _ H F S (Same.refl F) h1⟩
theorem c_weak {K : PySem.W.Frag} {v : V} {d : D} (fr : FR K (fun _ => none) v d) : ∀ σ H Q, vOf K (fC d) σ H Q → tC v σ H Q := fun σ H Q ⟨W, F, as, d', as', S, e, k⟩ => by
  cases e
  exact k v H F S (Same.refl F) (fr.mono fun _ o z => by have z2 : (none : Option HO) = some o := z; cases z2)
theorem q_int {i : Int} {j : Nat} : QV X (.Constant (.int i) j pos) (fC (.int i)) := PE.weak pe_int (c_weak (.int i))
theorem q_str {x : Str} {j : Nat} : QV X (.Constant (.str x) j pos) (fC (.str x)) := PE.weak pe_str (c_weak (.str x))
theorem q_bl {b : Bool} {j : Nat} : QV X (.Constant (.bool b) j pos) (fC (.bool b)) := PE.weak pe_bl (c_weak (.bl b))
theorem q_non {j : Nat} : QV X (.Constant .none j pos) (fC .none) := PE.weak pe_non (c_weak .non)
/-- a constant of the module -/
theorem q_glob {x : Str} {v : V} {u : Value} {d : D} (hg : Gl X x) (hm : X.mg x = some u) (r : RelV v u) (fr : FR X.K (fun _ => none) v d) (hd : (x == ("__debug__" : Str)) = false := by decide) : QV X (.Name x pos) (fC d) := PE.weak (pe_glob hg hm r hd) (c_weak fr)
end

/-! ### argument lists -/
def fNil : FA := fun as => some ([], as)
def fCons (f : FV) (g : FA) : FA := fun as => match f as with
  | none => none
  | some (d, as1) => match g as1 with
    | none => none
    | some (ds, as2) => some (d :: ds, as2)
def rNil : FRS := fun as => some ([], as)
def rCons (f : FE) (g : FRS) : FRS := fun as => match f as with
  | none => none
  | some (d, as1) => match g as1 with
    | none => none
    | some (ds, as2) => some (d :: ds, as2)
section
variable {X : Cx} {e : Expr} {es : List Expr} {f : FV} {f' : FE} {g : FA} {g' : FRS} {pos : Pos}
theorem q_nil : QA X [] fNil := PA.weak pa_nil fun σ H Q ⟨W, F, as, ds, as', S, e, k⟩ => by
  cases e
  exact k [] H F S (Same.refl F) .nil
theorem q_cons (h : QV X e f) (t : QA X es g) (hs : starEach (e :: es) X.env = (false, eval e X.env) :: starEach es X.env := by rfl) : QA X (e :: es) (fCons f g) := PA.weak (pa_cons h t hs) fun σ H Q ⟨W, F, as, ds, as', S, e, k⟩ => by
  unfold fCons at e
  cases q : f as with
  | none => rw [q] at e; cases e
  | some p =>
    obtain ⟨d, as1⟩ := p
    rw [q] at e
    dsimp only at e
    cases q2 : g as1 with
    | none => rw [q2] at e; cases e
    | some p2 =>
      obtain ⟨ds2, as2⟩ := p2
      rw [q2] at e
      cases e
      exact ⟨W, F, as, d, as1, S, q, fun v H1 F1 S1 m1 fr => ⟨W, F1, as1, ds2, as', S1, q2, fun vs H2 F2 S2 m2 frs => k _ H2 F2 S2 (m1.trans m2) (.cons (fr.mono m2) frs)⟩⟩
theorem q_rnil : QR X [] rNil := PA.weak pa_nil fun σ H Q ⟨W, F, as, ds, as', S, e, k⟩ => by
  cases e
  exact k [] H F S (Same.refl F) .nil
theorem q_rcons (h : QE X e f') (t : QR X es g') (hs : starEach (e :: es) X.env = (false, eval e X.env) :: starEach es X.env := by rfl) : QR X (e :: es) (rCons f' g') := PA.weak (pa_cons h t hs) fun σ H Q ⟨W, F, as, ds, as', S, e, k⟩ => by
  unfold rCons at e
  cases q : f' as with
  | none => rw [q] at e; cases e
  | some p =>
    obtain ⟨d, as1⟩ := p
    rw [q] at e
    dsimp only at e
    cases q2 : g' as1 with
    | none => rw [q2] at e; cases e
    | some p2 =>
      obtain ⟨ds2, as2⟩ := p2
      rw [q2] at e
      cases e
      exact ⟨W, F, as, d, as1, S, q, fun v H1 F1 S1 m1 fr => ⟨W, F1, as1, ds2, as', S1, q2, fun vs H2 F2 S2 m2 frs => k _ H2 F2 S2 (m1.trans m2) (.cons (fr.mono m2) frs)⟩⟩

/-- (a, b, ..) -/
def fTup (g : FA) : FV := fun as => match g as with
  | some (ds, as1) => if ds.length ≤ sizeLine then some (.tuple ds, as1) else none
  | none => none
def fLst (g : FA) : FV := fun as => match g as with
  | some (ds, as1) => if ds.length ≤ sizeLine then some (.list ds, as1) else none
  | none => none
theorem q_tup {x1} (h : QA X es g) : QV X (.Tuple es x1 pos) (fTup g) := PE.weak (pe_tup h) fun σ H Q ⟨W, F, as, d, as', S, e, k⟩ => by
  unfold fTup at e
  cases q : g as with
  | none => rw [q] at e; cases e
  | some p =>
    obtain ⟨ds, as1⟩ := p
    rw [q] at e
    dsimp only at e
    split at e
    · rename_i z
      cases e
      refine ⟨W, F, as, ds, as', S, q, fun vs H1 F1 S1 m1 frs => ⟨by rw [frs.length]; exact z, fun p hp => ?_⟩⟩
      exact k _ _ _ (S1.laidF hp) (m1.trans (same_upd (S1.free hp))) (.tup (.inl (.inl upd_same)) (frs.mono (same_upd (S1.free hp))) (by rw [frs.length]; exact z))
    · cases e
theorem q_lst (h : QA X es g) : QN X (.List es pos) (fLst g) := PE.weak (pe_lst h) fun σ H Q ⟨W, F, as, d, as', S, e, k⟩ => by
  unfold fLst at e
  cases q : g as with
  | none => rw [q] at e; cases e
  | some p =>
    obtain ⟨ds, as1⟩ := p
    rw [q] at e
    dsimp only at e
    split at e
    · rename_i z
      cases e
      refine ⟨W, F, as, ds, as', S, q, fun vs H1 F1 S1 m1 frs => ⟨by rw [frs.length]; exact z, fun p hp => ?_⟩⟩
      exact k p _ F1 (S1.laid hp) m1 (S1.free hp) (S1.dom p hp) ⟨vs, upd_same, frs, by rw [frs.length]; exact z⟩ (Nobody.fresh S1 hp)
    · cases e
theorem q_dnew : QN X (.Dict [] [] pos) (fC (.dict [])) := PE.weak pe_dnewK fun σ H Q ⟨W, F, as, d, as', S, e, k⟩ => by
  cases e
  intro p hp
  exact k p _ F (S.laid hp) (Same.refl F) (S.free hp) (S.dom p hp) (.inl ⟨[], upd_same, .nil, List.nodup_nil, Nat.zero_le _⟩) (Nobody.fresh S hp)
end

/-! ### operations on values: what they make of data -/
/-- the heap grew from (H, F) to (H', F') -/
structure Grown (H F H' F' : Hp) : Prop where
  hh : SameH H H'
  ff : SameH F F'
  sub : SameH F' H'
  new : ∀ a, F' a ≠ none → F a ≠ none ∨ H a = none
theorem Grown.refl {H F : Hp} (s : SameH F H) : Grown H F H F := ⟨Same.refl H, Same.refl F, s, fun _ e => .inl e⟩
theorem Grown.one {H F : Hp} {p : Addr} {o : HO} (s : SameH F H) (hp : H p = none) : Grown H F (upd H p o) (upd F p o) := by
  have fp : F p = none := by
    cases q : F p with
    | none => rfl
    | some u => rw [s _ _ q] at hp; cases hp
  refine ⟨same_upd hp, same_upd fp, fun b u e => ?_, fun a e => ?_⟩
  · by_cases q : b = p
    · subst q
      rw [upd_same] at e ⊢
      exact e
    · rw [upd_ne q] at e ⊢
      exact s _ _ e
  · by_cases q : a = p
    · subst q; exact .inr hp
    · rw [upd_ne q] at e
      exact .inl e
theorem Grown.st {K : PySem.W.Frag} {W : W0} {σ : Sg} {H F H' F' : Hp} {as : AS} (g : Grown H F H' F') (S : St2 K W σ H F as) : St2 K W σ H' F' as := S.grow g.hh g.ff g.sub g.new
inductive GRs (K : PySem.W.Frag) (H F : Hp) : List V → List D → Prop
  | nil : GRs K H F [] []
  | cons {v : V} {vs : List V} {d : D} {ds : List D} : GR K H F v d → GRs K H F vs ds → GRs K H F (v :: vs) (d :: ds)
/-- two values in, a frozen value out -/
def rG (K : PySem.W.Frag) (g : D → D → Option D) : R2 := fun x y H Q => ∃ F dx dy d, SameH F H ∧ GR K H F x dx ∧ GR K H F y dy ∧ g dx dy = some d ∧ ∀ z H' F', Grown H F H' F' → FR K F' z d → Q z H'
/-- one value in -/
def uG (K : PySem.W.Frag) (g : D → Option D) : V → Hp → VK → Prop := fun x H Q => ∃ F dx d, SameH F H ∧ GR K H F x dx ∧ g dx = some d ∧ ∀ z H' F', Grown H F H' F' → FR K F' z d → Q z H'
/-- a list of values in -/
def lG (K : PySem.W.Frag) (g : List D → Option D) : List V → Hp → VK → Prop := fun xs H Q => ∃ F ds d, SameH F H ∧ GRs K H F xs ds ∧ g ds = some d ∧ ∀ z H' F', Grown H F H' F' → FR K F' z d → Q z H'
/-- a list of values in, a new object of one's own out -/
def lN (K : PySem.W.Frag) (g : List D → Option D) : List V → Hp → VK → Prop := fun xs H Q => ∃ F ds d, SameH F H ∧ GRs K H F xs ds ∧ g ds = some d ∧ ∀ p o, H p = none → OR K (upd H p o) F p d → Q (.ref p) (upd H p o)

def fBin (g : D → D → Option D) (fa fb : FE) : FV := fun as => match fa as with
  | none => none
  | some (ra, as1) => match fb as1 with
    | none => none
    | some (rb, as2) => match rd as2 ra, rd as2 rb with
      | some x, some y => match g x y with
        | some d => some (d, as2)
        | none => none
      | _, _ => none
theorem bin_weak {K : PySem.W.Frag} {g : D → D → Option D} {fa fb : FE} : ∀ σ H Q, vOf K (fBin g fa fb) σ H Q → tOp (rG K g) (eOf K fa) (eOf K fb) σ H Q := fun σ H Q ⟨W, F, as, d, as', S, e, k⟩ => by
  unfold fBin at e
  cases q : fa as with
  | none => rw [q] at e; cases e
  | some p =>
    obtain ⟨ra, as1⟩ := p
    rw [q] at e
    dsimp only at e
    cases q2 : fb as1 with
    | none => rw [q2] at e; cases e
    | some p2 =>
      obtain ⟨rb, as2⟩ := p2
      rw [q2] at e
      dsimp only at e
      cases q3 : rd as2 ra with
      | none => rw [q3] at e; cases e
      | some x =>
        cases q4 : rd as2 rb with
        | none => rw [q3, q4] at e; cases e
        | some y =>
          rw [q3, q4] at e
          dsimp only at e
          cases q5 : g x y with
          | none => rw [q5] at e; cases e
          | some d' =>
            rw [q5] at e
            cases e
            exact ⟨W, F, as, ra, as1, S, q, fun v H1 F1 S1 m1 r1 => ⟨W, F1, as1, rb, as', S1, q2, fun u H2 F2 S2 m2 r2 =>
              ⟨F2, x, y, d, S2.sub, S2.rd (r1.mono m2) q3, S2.rd r2 q4, q5, fun z H3 F3 G fr => k z H3 F3 (G.st S2) ((m1.trans m2).trans G.ff) fr⟩⟩⟩
section
variable {X : Cx} {a b : Expr} {fa fb : FE} {pos : Pos} {g : D → D → Option D}
theorem q_bin {op : Operator} (ho : OpR X (binaryOp op) (rG X.K g)) (ha : QE X a fa) (hb : QE X b fb) : QV X (.BinOp a op b pos) (fBin g fa fb) := PE.weak (pe_op ho ha hb) bin_weak
theorem q_cmp {op : CmpOp} (ho : OpR X (compareOp op) (rG X.K g)) (ha : QE X a fa) (hb : QE X b fb) (hm : behindInMarks op b = false) : QV X (.Compare a [op] [b] pos) (fBin g fa fb) := PE.weak (pe_cmpR ho ha hb hm) bin_weak
theorem q_ix (ho : IxR X (rG X.K g)) (ha : QE X a fa) (hb : QE X b fb) (hs : PlainIx b) : QV X (.Subscript a b pos) (fBin g fa fb) := PE.weak (pe_ix ho ha hb hs) bin_weak
end
def fUn (g : D → Option D) (fa : FE) : FV := fun as => match fa as with
  | none => none
  | some (ra, as1) => match rd as1 ra with
    | some x => match g x with
      | some d => some (d, as1)
      | none => none
    | _ => none
theorem un_weak {K : PySem.W.Frag} {g : D → Option D} {fa : FE} : ∀ σ H Q, vOf K (fUn g fa) σ H Q → tUn (uG K g) (eOf K fa) σ H Q := fun σ H Q ⟨W, F, as, d, as', S, e, k⟩ => by
  unfold fUn at e
  cases q : fa as with
  | none => rw [q] at e; cases e
  | some p =>
    obtain ⟨ra, as1⟩ := p
    rw [q] at e
    dsimp only at e
    cases q3 : rd as1 ra with
    | none => rw [q3] at e; cases e
    | some x =>
      rw [q3] at e
      dsimp only at e
      cases q5 : g x with
      | none => rw [q5] at e; cases e
      | some d' =>
        rw [q5] at e
        cases e
        exact ⟨W, F, as, ra, as', S, q, fun v H1 F1 S1 m1 r1 => ⟨F1, x, d, S1.sub, S1.rd r1 q3, q5, fun z H3 F3 G fr => k z H3 F3 (G.st S1) (m1.trans G.ff) fr⟩⟩
theorem q_un {X : Cx} {a : Expr} {fa : FE} {pos : Pos} {g : D → Option D} {op : UnaryOp} (ho : UnR X (unaryOp op) (uG X.K g)) (ha : QE X a fa) : QV X (.UnaryOp op a pos) (fUn g fa) := PE.weak (pe_un ho ha) un_weak

def rds (as : AS) : List Rs → Option (List D)
  | [] => some []
  | r :: rs => match rd as r with
    | none => none
    | some d => match rds as rs with
      | none => none
      | some ds => some (d :: ds)
theorem St2.rds {K : PySem.W.Frag} {W : W0} {σ : Sg} {H F : Hp} {as : AS} (S : St2 K W σ H F as) : ∀ {vs : List V} {rs : List Rs} {ds : List D}, RRs K F σ vs rs → PL.rds as rs = some ds → GRs K H F vs ds
  | _, _, _, .nil, e => by cases e; exact .nil
  | _, r :: rs, _, .cons h t, e => by
    unfold PL.rds at e
    cases q : PL.rd as r with
    | none => rw [q] at e; cases e
    | some d =>
      rw [q] at e
      dsimp only at e
      cases q2 : PL.rds as rs with
      | none => rw [q2] at e; cases e
      | some ds2 =>
        rw [q2] at e
        cases e
        exact .cons (S.rd h q) (St2.rds S t q2)
def fCall (g : List D → Option D) (f : FRS) : FV := fun as => match f as with
  | none => none
  | some (rs, as1) => match rds as1 rs with
    | none => none
    | some ds => match g ds with
      | some d => some (d, as1)
      | none => none
theorem fCall_inv {g : List D → Option D} {f : FRS} {as as' : AS} {d : D} (e : fCall g f as = some (d, as')) : ∃ rs ds, f as = some (rs, as') ∧ rds as' rs = some ds ∧ g ds = some d := by
  unfold fCall at e
  cases q : f as with
  | none => rw [q] at e; cases e
  | some p =>
    obtain ⟨rs, as1⟩ := p
    rw [q] at e
    dsimp only at e
    cases q3 : rds as1 rs with
    | none => rw [q3] at e; cases e
    | some ds =>
      rw [q3] at e
      dsimp only at e
      cases q5 : g ds with
      | none => rw [q5] at e; cases e
      | some d' =>
        rw [q5] at e
        cases e
        exact ⟨rs, ds, rfl, q3, q5⟩
theorem call_weak {K : PySem.W.Frag} {g : List D → Option D} {f : FRS} : ∀ σ H Q, vOf K (fCall g f) σ H Q → tCB (lG K g) (rOf K f) σ H Q := fun σ H Q ⟨W, F, as, d, as', S, e, k⟩ => by
  obtain ⟨rs, ds, q, q3, q5⟩ := fCall_inv e
  exact ⟨W, F, as, rs, as', S, q, fun vs H1 F1 S1 m1 r1 => ⟨F1, ds, d, S1.sub, S1.rds r1 q3, q5, fun z H3 F3 G fr => k z H3 F3 (G.st S1) (m1.trans G.ff) fr⟩⟩
theorem callN_weak {K : PySem.W.Frag} {g : List D → Option D} {f : FRS} : ∀ σ H Q, nOf K (fCall g f) σ H Q → tCB (lN K g) (rOf K f) σ H Q := fun σ H Q ⟨W, F, as, d, as', S, e, k⟩ => by
  obtain ⟨rs, ds, q, q3, q5⟩ := fCall_inv e
  exact ⟨W, F, as, rs, as', S, q, fun vs H1 F1 S1 m1 r1 => ⟨F1, ds, d, S1.sub, S1.rds r1 q3, q5, fun p o hp oo => k p _ F1 (S1.laid hp) m1 (S1.free hp) (S1.dom p hp) oo (Nobody.fresh S1 hp)⟩⟩
section
variable {X : Cx} {x : Str} {p pos : Pos} {e : Expr} {es : List Expr} {f : FRS} {g : List D → Option D} {id T : String}
theorem q_callB (hc : CallR X (.builtin id) (lG X.K g)) (hg : Gl X x) (hm : X.mg x = none) (hv : bootBuiltins x = some (.builtin id)) (ha : QR X (e :: es) f) (hn : x ≠ "__name__" := by decide) (hdb : (x == ("__debug__" : Str)) = false := by decide)
    (he : starEach (e :: es) X.env = (false, eval e X.env) :: starEach es X.env := by rfl) (hpl : (backTo pos (starEach es X.env)).any (·.1) = false := by rfl) : QV X (.Call (.Name x p) (e :: es) [] pos) (fCall g f) := PE.weak (pe_callB hc hg hm hv ha hn hdb he hpl) call_weak
theorem q_callBN (hc : CallR X (.builtin id) (lN X.K g)) (hg : Gl X x) (hm : X.mg x = none) (hv : bootBuiltins x = some (.builtin id)) (ha : QR X (e :: es) f) (hn : x ≠ "__name__" := by decide) (hdb : (x == ("__debug__" : Str)) = false := by decide)
    (he : starEach (e :: es) X.env = (false, eval e X.env) :: starEach es X.env := by rfl) (hpl : (backTo pos (starEach es X.env)).any (·.1) = false := by rfl) : QN X (.Call (.Name x p) (e :: es) [] pos) (fCall g f) := PE.weak (pe_callB hc hg hm hv ha hn hdb he hpl) callN_weak
theorem q_callT (hc : CallR X (.type T) (lG X.K g)) (hg : Gl X x) (hm : X.mg x = none) (hv : bootBuiltins x = some (.type T)) (ha : QR X (e :: es) f) (hn : x ≠ "__name__" := by decide) (hdb : (x == ("__debug__" : Str)) = false := by decide)
    (he : starEach (e :: es) X.env = (false, eval e X.env) :: starEach es X.env := by rfl) (hpl : (backTo pos (starEach es X.env)).any (·.1) = false := by rfl) : QV X (.Call (.Name x p) (e :: es) [] pos) (fCall g f) := PE.weak (pe_callTy hc hg hm hv ha hn hdb he hpl) call_weak
theorem q_callTN (hc : CallR X (.type T) (lN X.K g)) (hg : Gl X x) (hm : X.mg x = none) (hv : bootBuiltins x = some (.type T)) (ha : QR X (e :: es) f) (hn : x ≠ "__name__" := by decide) (hdb : (x == ("__debug__" : Str)) = false := by decide)
    (he : starEach (e :: es) X.env = (false, eval e X.env) :: starEach es X.env := by rfl) (hpl : (backTo pos (starEach es X.env)).any (·.1) = false := by rfl) : QN X (.Call (.Name x p) (e :: es) [] pos) (fCall g f) := PE.weak (pe_callTy hc hg hm hv ha hn hdb he hpl) callN_weak
end

/-! ### truth, tests -/
def truth : D → Option Bool
  | .none => some false
  | .bool b => some b
  | .int i => some (i != 0)
  | .str x => if x.length ≤ sizeLine then some ((x.length : Int) != 0) else none
  | .list ds => some (!ds.isEmpty)
  | .tuple ds => some (!ds.isEmpty)
  | .dict ds => if hdK ds = true then some (!ds.isEmpty) else none
def fTruth (f : FE) : FB := fun as => match f as with
  | none => none
  | some (r, as1) => match rd as1 r with
    | none => none
    | some d => match truth d with
      | some b => some (b, as1)
      | none => none
/-- a value that is a bool, as a test -/
def bOfD : D → Option Bool
  | .bool b => some b
  | _ => none
def fBool (f : FV) : FB := fun as => match f as with
  | some (.bool b, as1) => some (b, as1)
  | _ => none
theorem fBool_inv {f : FV} {as as' : AS} {b : Bool} (e : fBool f as = some (b, as')) : f as = some (.bool b, as') := by
  unfold fBool at e
  cases q : f as with
  | none => rw [q] at e; cases e
  | some p =>
    obtain ⟨d, as1⟩ := p
    rw [q] at e
    cases d with
    | bool c => cases e; rfl
    | _ => cases e
theorem FRs.isEmpty {K : PySem.W.Frag} {F : Hp} {vs : List V} {ds : List D} (h : FRs K F vs ds) : vs.isEmpty = ds.isEmpty := by cases h <;> rfl
theorem FRk.isEmpty {K : PySem.W.Frag} {F : Hp} {vs : List (Key × V)} {ds : List (D × D)} (h : FRk K F vs ds) : vs.isEmpty = ds.isEmpty := by cases h <;> rfl
section
variable {X : Cx} {e a b : Expr} {f : FE} {g : FV} {ft fu : FB} {pos : Pos} {rest : List Expr}
theorem q_testB (h : QV X e g) (he : ∀ whole, isTrue e X.env whole = (do let v ← whole; standAt e.pos; holding [v] (truthy v)) := by intro _; rfl) : QT X e (fBool g) := PT.weak (pt_val h he) fun σ H Q ⟨W, F, as, b, as', S, e, k⟩ =>
  ⟨W, F, as, .bool b, as', S, fBool_inv e, fun v H' F' S' m fr => by cases fr; exact ⟨b, rfl, k H' F' S' m⟩⟩
theorem q_truth (h : QE X e f) (he : ∀ whole, isTrue e X.env whole = (do let v ← whole; standAt e.pos; holding [v] (truthy v)) := by intro _; rfl) : QT X e (fTruth f) := by
  refine ⟨fun pins s σ H Q I ⟨W, F, as, b, as', S, e1, k⟩ => ?_⟩
  unfold fTruth at e1
  cases q : f as with
  | none => rw [q] at e1; cases e1
  | some p =>
    obtain ⟨r, as1⟩ := p
    rw [q] at e1
    dsimp only at e1
    cases q2 : rd as1 r with
    | none => rw [q2] at e1; cases e1
    | some d =>
      rw [q2] at e1
      dsimp only at e1
      cases q3 : truth d with
      | none => rw [q3] at e1; cases e1
      | some b' =>
        rw [q3] at e1
        cases e1
        refine isTrue_plain (thn (h.run pins s σ H (fun v H' => ∃ F', St2 X.K W σ H' F' as' ∧ SameH F F' ∧ RR X.K F' σ v r) I ⟨W, F, as, r, as', S, q, fun v H' F' S' m rr => ⟨F', S', m, rr⟩⟩) fun u s1 ⟨v, H1, I1, rv, F1, S1, m1, rr⟩ => ?_) (he _)
        have gr := S1.rd rr q2
        have tv : ∀ k', TruV X.K v H1 k' → k' = b → wpAny (model X.prog X.w) X.A (truthy u) (TP X pins σ Q) X.xe s1 := fun k' t e2 => by
          subst e2
          exact tru_ok pins s1 σ H1 v u _ I1 rv ⟨_, t, k H1 F1 S1 m1⟩
        cases d with
        | none => cases gr; cases q3; exact tv _ rfl rfl
        | bool c => cases gr; cases q3; exact tv _ rfl rfl
        | int i => cases gr; cases q3; exact tv _ rfl rfl
        | str x =>
          cases gr
          dsimp only [truth] at q3
          split at q3
          · rename_i z
            cases q3
            exact tv _ ⟨z, rfl⟩ rfl
          · cases q3
        | list ds =>
          obtain ⟨p, xs, rfl, h1, h2, h3⟩ := gr
          cases q3
          exact tv _ (.inl ⟨xs, h1, rfl⟩) (by rw [h2.isEmpty])
        | tuple ds =>
          obtain ⟨p, xs, rfl, h1, h2, h3⟩ := gr
          cases q3
          exact tv _ (.inr (.inl ⟨xs, sqT_mono S1.sub h1, rfl⟩)) (by rw [h2.isEmpty])
        | dict ds =>
          rcases gr with ⟨p, xs, rfl, h1, h2, h3⟩ | ⟨p, rfl, xs, h1, h2, h3, h4, h5, h6⟩
          · dsimp only [truth] at q3
            rw [if_pos (frk_hdK h2)] at q3
            cases q3
            cases (show u = Value.ref p from rv)
            refine d_truth I1 h1 fun s2 I2 => ⟨H1, I2, ?_⟩
            rw [h2.isEmpty]
            exact k H1 F1 S1 m1
          · dsimp only [truth] at q3
            rw [if_neg (by rw [frt_hdK h2 h6]; exact Bool.false_ne_true)] at q3
            cases q3
def fNot (f : FB) : FB := fun as => match f as with
  | some (b, as1) => some (!b, as1)
  | none => none
def fAnd (f g : FB) : FB := fun as => match f as with
  | some (true, as1) => g as1
  | some (false, as1) => some (false, as1)
  | none => none
def fOr (f g : FB) : FB := fun as => match f as with
  | some (false, as1) => g as1
  | some (true, as1) => some (true, as1)
  | none => none
theorem q_not (h : QT X a ft) : QT X (.UnaryOp .Not a pos) (fNot ft) := PT.weak (pt_not h) fun σ H Q ⟨W, F, as, b, as', S, e, k⟩ => by
  unfold fNot at e
  cases q : ft as with
  | none => rw [q] at e; cases e
  | some p =>
    obtain ⟨c, as1⟩ := p
    rw [q] at e
    cases e
    exact ⟨W, F, as, c, as', S, q, fun H' F' S' m => k H' F' S' m⟩
theorem q_and1 (h : QT X a ft) : QW X (.BoolOp .And [a] pos) ft := pw_and1 h
theorem q_or1 (h : QT X a ft) : QW X (.BoolOp .Or [a] pos) ft := pw_or1 h
theorem q_and (h : QT X a ft) (t : QW X (.BoolOp .And (b :: rest) pos) fu) : QW X (.BoolOp .And (a :: b :: rest) pos) (fAnd ft fu) := PW.weak (pw_and h t) fun σ H Q ⟨W, F, as, c, as', S, e, k⟩ => by
  unfold fAnd at e
  cases q : ft as with
  | none => rw [q] at e; cases e
  | some p =>
    obtain ⟨d, as1⟩ := p
    rw [q] at e
    cases d with
    | true => exact ⟨W, F, as, true, as1, S, q, fun H1 F1 S1 m1 => iteT ⟨W, F1, as1, c, as', S1, e, fun H2 F2 S2 m2 => k H2 F2 S2 (m1.trans m2)⟩⟩
    | false =>
      cases e
      exact ⟨W, F, as, false, as', S, q, fun H1 F1 S1 m1 => iteF (k H1 F1 S1 m1)⟩
theorem q_or (h : QT X a ft) (t : QW X (.BoolOp .Or (b :: rest) pos) fu) : QW X (.BoolOp .Or (a :: b :: rest) pos) (fOr ft fu) := PW.weak (pw_or h t) fun σ H Q ⟨W, F, as, c, as', S, e, k⟩ => by
  unfold fOr at e
  cases q : ft as with
  | none => rw [q] at e; cases e
  | some p =>
    obtain ⟨d, as1⟩ := p
    rw [q] at e
    cases d with
    | false => exact ⟨W, F, as, false, as1, S, q, fun H1 F1 S1 m1 => iteF ⟨W, F1, as1, c, as', S1, e, fun H2 F2 S2 m2 => k H2 F2 S2 (m1.trans m2)⟩⟩
    | true =>
      cases e
      exact ⟨W, F, as, true, as', S, q, fun H1 F1 S1 m1 => iteT (k H1 F1 S1 m1)⟩
theorem q_w (h : QW X e ft) : QT X e ft := h.pt
end

/-! ### and, or, not, if as values -/
def vNot (g : FV) : FV := fun as => match g as with
  | some (.bool b, as1) => some (.bool (!b), as1)
  | _ => none
/-- the left one a bool -/
def vAnd (f g : FV) : FV := fun as => match f as with
  | some (.bool true, as1) => g as1
  | some (.bool false, as1) => some (.bool false, as1)
  | _ => none
def vOr (f g : FV) : FV := fun as => match f as with
  | some (.bool false, as1) => g as1
  | some (.bool true, as1) => some (.bool true, as1)
  | _ => none
def vIf (c : FB) (f g : FV) : FV := fun as => match c as with
  | some (true, as1) => f as1
  | some (false, as1) => g as1
  | none => none
section
variable {X : Cx} {a b c : Expr} {f g : FV} {ft : FB} {pos : Pos} {rest : List Expr}
theorem v_not (h : QV X a f) : QV X (.UnaryOp .Not a pos) (vNot f) := PE.weak (pe_not h) fun σ H Q ⟨W, F, as, d, as', S, e, k⟩ => by
  unfold vNot at e
  cases q : f as with
  | none => rw [q] at e; cases e
  | some p =>
    obtain ⟨d1, as1⟩ := p
    rw [q] at e
    cases d1 with
    | bool c =>
      cases e
      exact ⟨W, F, as, _, as', S, q, fun v H1 F1 S1 m1 fr => by cases fr; exact ⟨_, rfl, k _ H1 F1 S1 m1 (.bl _)⟩⟩
    | _ => cases e
/-- not of any value -/
def vNotT (g : FB) : FV := fun as => match g as with
  | some (b, as1) => some (.bool (!b), as1)
  | _ => none
theorem v_one {op : BoolOp} (h : QV X a f) : QV X (.BoolOp op [a] pos) f := pe_one h
theorem v_and (h : QV X a f) (t : QV X (.BoolOp .And (b :: rest) pos) g) : QV X (.BoolOp .And (a :: b :: rest) pos) (vAnd f g) := PE.weak (pe_and h t) fun σ H Q ⟨W, F, as, d, as', S, e, k⟩ => by
  unfold vAnd at e
  cases q : f as with
  | none => rw [q] at e; cases e
  | some p =>
    obtain ⟨d1, as1⟩ := p
    rw [q] at e
    cases d1 <;> first | cases e | skip
    rename_i bb
    refine ⟨W, F, as, _, as1, S, q, fun v H1 F1 S1 m1 fr => ?_⟩
    cases fr
    cases bb with
    | true => exact ⟨true, rfl, iteT ⟨W, F1, as1, d, as', S1, e, fun v H2 F2 S2 m2 fr => k v H2 F2 S2 (m1.trans m2) fr⟩⟩
    | false =>
      cases e
      exact ⟨false, rfl, iteF (k _ H1 F1 S1 m1 (.bl _))⟩
theorem v_or (h : QV X a f) (t : QV X (.BoolOp .Or (b :: rest) pos) g) : QV X (.BoolOp .Or (a :: b :: rest) pos) (vOr f g) := PE.weak (pe_or h t) fun σ H Q ⟨W, F, as, d, as', S, e, k⟩ => by
  unfold vOr at e
  cases q : f as with
  | none => rw [q] at e; cases e
  | some p =>
    obtain ⟨d1, as1⟩ := p
    rw [q] at e
    cases d1 <;> first | cases e | skip
    rename_i bb
    refine ⟨W, F, as, _, as1, S, q, fun v H1 F1 S1 m1 fr => ?_⟩
    cases fr
    cases bb with
    | false => exact ⟨false, rfl, iteF ⟨W, F1, as1, d, as', S1, e, fun v H2 F2 S2 m2 fr => k v H2 F2 S2 (m1.trans m2) fr⟩⟩
    | true =>
      cases e
      exact ⟨true, rfl, iteT (k _ H1 F1 S1 m1 (.bl _))⟩
theorem v_if (h : QT X c ft) (h1 : QV X a f) (h2 : QV X b g) : QV X (.IfExp c a b pos) (vIf ft f g) := PE.weak (pe_ifExp h h1 h2) fun σ H Q ⟨W, F, as, d, as', S, e, k⟩ => by
  unfold vIf at e
  cases q : ft as with
  | none => rw [q] at e; cases e
  | some p =>
    obtain ⟨d1, as1⟩ := p
    rw [q] at e
    cases d1 with
    | true => exact ⟨W, F, as, true, as1, S, q, fun H1 F1 S1 m1 => iteT ⟨W, F1, as1, d, as', S1, e, fun v H2 F2 S2 m2 fr => k v H2 F2 S2 (m1.trans m2) fr⟩⟩
    | false => exact ⟨W, F, as, false, as1, S, q, fun H1 F1 S1 m1 => iteF ⟨W, F1, as1, d, as', S1, e, fun v H2 F2 S2 m2 fr => k v H2 F2 S2 (m1.trans m2) fr⟩⟩
end
end PL
/-! PL3: the operations on values. -/
namespace PL
open PySem PySem.Spec PyProof.Rows L2

section
variable {X : Cx} {pins : List (Addr × Obj)} {σ : Sg} {H F : Hp} {s : Shared}
theorem gr_reads (I : L2.Inv X pins σ H s) (e : SameH F H) {v : V} {u : Value} {d : D} (g : GR X.K H F v d) (p : d.plain = true) (r : RelV v u) : ∃ as, Reads s.heap u d as := Dp.reads I d v u (g.dp e p) r
theorem fr_reads (I : L2.Inv X pins σ H s) (e : SameH F H) {v : V} {u : Value} {d : D} (g : FR X.K F v d) (p : d.plain = true) (r : RelV v u) : ∃ as, Reads s.heap u d as := Dp.reads I d v u (g.dp e p) r
/-- a new list is laid -/
theorem new_lst (I : L2.Inv X pins σ H s) {h' : Heap} {t' : Nat} {p : Addr} {xs : List V} {its : List Value} {n : Nat} (k : ∀ b o, s.heap.get? b = some o → h'.get? b = some o) (hp : s.heap.objs.size ≤ p) (z : xs.length ≤ sizeLine) (r : Vals xs its)
    (e : h'.get? p = some { cls := .type "list", data := .seq its.toArray n }) : L2.Inv X pins σ (upd H p (.lst xs)) { s with heap := h', toks := t' } := I.laid k hp ⟨z, its, n, r, e⟩
theorem or_lst {K : PySem.W.Frag} {p : Addr} {xs : List V} {ds : List D} (r : FRs K F xs ds) (z : xs.length ≤ sizeLine) : OR K (upd H p (.lst xs)) F p (.list ds) := ⟨xs, upd_same, r, z⟩
theorem fr_lst {K : PySem.W.Frag} {p : Addr} {xs : List V} {ds : List D} (fp : F p = none) (r : FRs K F xs ds) (z : xs.length ≤ sizeLine) : FR K (upd F p (.lst xs)) (.ref p) (.list ds) := .lst (.inl (.inl upd_same)) (r.mono (same_upd fp)) z
theorem fr_tup {K : PySem.W.Frag} {p : Addr} {xs : List V} {ds : List D} (fp : F p = none) (r : FRs K F xs ds) (z : xs.length ≤ sizeLine) : FR K (upd F p (.tup xs)) (.ref p) (.tuple ds) := .tup (.inl (.inl upd_same)) (r.mono (same_upd fp)) z
theorem free_of (e : SameH F H) {p : Addr} (h : H p = none) : F p = none := e.free h
end

/-! ### + -/
def gAdd : D → D → Option D
  | .int i, .int j => some (.int (i + j))
  | .str x, .str y => if x.length + y.length ≤ sizeLine then some (.str (x ++ y)) else none
  | .list a, .list b => if a.length + b.length ≤ sizeLine then some (.list (a ++ b)) else none
  | .tuple a, .tuple b => if a.length + b.length ≤ sizeLine then some (.tuple (a ++ b)) else none
  | _, _ => none
theorem add_plainL {prog : Program} {w : World} {A : Around} {E : Value → Shared → Prop} {s : Shared} {l b : Addr} {xs ys : Array Value} {Q : Value → Shared → Prop} (hl : PlainL s.heap l xs) (hb : PlainL s.heap b ys) (hz : xs.size + ys.size ≤ sizeLine)
    (h : Q (.ref s.heap.objs.size) { s with heap := s.heap.push { cls := .type "list", data := .seq (xs ++ ys) } }) : wpAny (model prog w) A (binaryOp .Add (.ref l) (.ref b)) Q E s := by
  obtain ⟨⟨c1, d1, t1, s1⟩, n1, e1, k1, z1, q1⟩ := hl
  obtain ⟨⟨c2, d2, t2, s2⟩, n2, e2, k2, z2, q2⟩ := hb
  simp only at k1 z1 q1 k2 z2 q2
  subst k1 z1 q1 k2 z2 q2
  exact concat_meets ⟨_, e1, rfl⟩ ⟨_, e2, rfl⟩ noFill_list_add seq_list_add PySem.F.slot_list_add PySem.F.entry_list_add (PySem.F.args_list_add_2 _ _) (list_addW l b xs ys n1 n2 none none s1 s2 hz) ⟨e1, e2, h⟩
theorem o_add {X : Cx} : OpR X (binaryOp .Add) (rG X.K gAdd) := by
  intro pins s σ H x y v u Q I rx ry ⟨F, dx, dy, d, sub, gx, gy, e, k⟩
  cases dx with
  | int i =>
    cases dy with
    | int j =>
      cases gx; cases gy; cases e
      exact op_add pins s σ H _ _ v u Q I rx ry ⟨i, j, rfl, rfl, k _ H F (Grown.refl sub) (.int _)⟩
    | _ => cases e
  | str a =>
    cases dy with
    | str b =>
      cases gx; cases gy
      dsimp only [gAdd] at e
      split at e
      · rename_i z
        cases e
        exact op_add_str pins s σ H _ _ v u Q I rx ry ⟨a, b, rfl, rfl, z, k _ H F (Grown.refl sub) (.str _)⟩
      · cases e
    | _ => cases e
  | list as =>
    cases dy with
    | list bs =>
      dsimp only [gAdd] at e
      split at e
      · rename_i z
        cases e
        obtain ⟨a, xs, rfl, h1, h2, h3⟩ := gx
        obtain ⟨b, ys, rfl, g1, g2, g3⟩ := gy
        cases rx
        cases ry
        obtain ⟨its, r1, p1, _⟩ := I.list h1
        obtain ⟨its2, r2, p2, _⟩ := I.list g1
        have lz : xs.length + ys.length ≤ sizeLine := by rw [h2.length, g2.length]; exact z
        refine add_plainL p1 p2 (by rw [List.size_toArray, List.size_toArray, ← r1.length, ← r2.length]; exact lz) ?_
        have hp : H s.heap.objs.size = none := I.hok.fresh (Nat.le_refl _)
        have fp := free_of sub hp
        have lz' : (xs ++ ys).length ≤ sizeLine := by rw [List.length_append]; exact lz
        refine ⟨.ref s.heap.objs.size, _, new_lst (t' := s.toks) (its := its ++ its2) (n := 0) I (fun _ _ q => Heap.get?_push_of_some _ q) (Nat.le_refl _) lz' (r1.append r2) ?_, rfl, k _ _ _ (Grown.one sub hp) (fr_lst fp (h2.append g2) lz')⟩
        have ea : its.toArray ++ its2.toArray = (its ++ its2).toArray := by simp
        rw [ea]
        exact Heap.get?_push_size _ rfl
      · cases e
    | _ => cases e
  | tuple as =>
    cases dy with
    | tuple bs =>
      dsimp only [gAdd] at e
      split at e
      · rename_i z
        cases e
        obtain ⟨a, xs, rfl, h1, h2, h3⟩ := gx
        obtain ⟨b, ys, rfl, g1, g2, g3⟩ := gy
        have lz : xs.length + ys.length ≤ sizeLine := by rw [h2.length, g2.length]; exact z
        have lz' : (xs ++ ys).length ≤ sizeLine := by rw [List.length_append]; exact lz
        -- which of the three ways: by the heap's own tuples
        refine op_catA pins s σ H _ _ v u Q I rx ry ⟨a, b, xs, ys, rfl, rfl, sqT_mono sub h1, sqT_mono sub g1, lz, fun ex => ?_, fun ex ey => ?_, fun ex ey p hp => ?_⟩
        · subst ex
          cases h2
          exact k _ H F (Grown.refl sub) (.tup g1 g2 g3)
        · subst ey
          cases g2
          rw [List.append_nil] at k
          exact k _ H F (Grown.refl sub) (.tup h1 h2 h3)
        · exact k _ _ _ (Grown.one sub hp) (fr_tup (free_of sub hp) (h2.append g2) lz')
      · cases e
    | _ => cases e
  | _ => cases dy <;> cases e

/-! ### ints -/
def gInt (C : Int → Int → Bool) (f : Int → Int → Int) : D → D → Option D
  | .int i, .int j => if C i j = true then some (.int (f i j)) else none
  | _, _ => none
theorem gInt_inv {C : Int → Int → Bool} {f : Int → Int → Int} {x y d : D} (h : gInt C f x y = some d) : ∃ i j, x = .int i ∧ y = .int j ∧ C i j = true ∧ d = .int (f i j) := by
  cases x with
  | int i =>
    cases y with
    | int j =>
      dsimp only [gInt] at h
      split at h
      · rename_i c
        exact ⟨i, j, rfl, rfl, c, (Option.some.inj h).symm⟩
      · cases h
    | _ => cases h
  | _ => cases y <;> cases h
theorem o_int {X : Cx} {op : Value → Value → Sem Value} {C : Int → Int → Prop} {c : Int → Int → Bool} {f : Int → Int → Int} (h : OpR X op (rI C fun i j => .int (f i j))) (hc : ∀ i j, c i j = true → C i j) : OpR X op (rG X.K (gInt c f)) := by
  intro pins s σ H x y v u Q I rx ry ⟨F, dx, dy, d, sub, gx, gy, e, k⟩
  obtain ⟨i, j, rfl, rfl, cc, rfl⟩ := gInt_inv e
  exact h pins s σ H x y v u Q I rx ry ⟨i, j, gx, gy, hc i j cc, k _ H F (Grown.refl sub) (.int _)⟩
/-- small by its absolute value (the kernel may look at this at a name: no big number stands to the right of a difference) -/
def smallI (i : Int) : Bool := decide (i.natAbs < 18446744073709551616)
theorem smallI_iff {i : Int} (h : smallI i = true) : -(2 ^ 64) < i ∧ i < 2 ^ 64 := by
  have p : (2 : Int) ^ 64 = 18446744073709551616 := by decide
  unfold smallI at h
  rw [decide_eq_true_eq] at h
  rw [p]
  omega
def cMul (i j : Int) : Bool := smallI i || smallI j
abbrev gSub := gInt (fun _ _ => true) fun i j => i - j
abbrev gMul := gInt cMul fun i j => i * j
abbrev gFDiv := gInt (fun _ j => decide (0 < j) && decide (j < 1073741824)) fun i j => i / j
abbrev gMod := gInt (fun _ j => decide (0 < j)) fun i j => i % j
abbrev gPow := gInt (fun i j => decide (0 ≤ j) && decide (j ≤ 1000000) && decide (i.natAbs < 2 ^ 64)) fun i j => i ^ j.toNat
theorem o_sub {X : Cx} : OpR X (binaryOp .Sub) (rG X.K gSub) := by
  intro pins s σ H x y v u Q I rx ry ⟨F, dx, dy, d, sub, gx, gy, e, k⟩
  obtain ⟨i, j, rfl, rfl, cc, rfl⟩ := gInt_inv e
  exact op_sub pins s σ H x y v u Q I rx ry ⟨i, j, gx, gy, k _ H F (Grown.refl sub) (.int _)⟩
theorem o_mul {X : Cx} : OpR X (binaryOp .Mult) (rG X.K gMul) := o_int op_mul fun i j h => by
  rw [cMul, Bool.or_eq_true] at h
  exact h.imp smallI_iff smallI_iff
theorem o_fdiv {X : Cx} : OpR X (binaryOp .FloorDiv) (rG X.K gFDiv) := o_int op_fdiv fun i j h => by
  simp only [Bool.and_eq_true, decide_eq_true_eq] at h
  exact h
theorem o_mod {X : Cx} : OpR X (binaryOp .Mod) (rG X.K gMod) := o_int op_mod fun i j h => by
  simp only [decide_eq_true_eq] at h
  exact h
theorem o_pow {X : Cx} : OpR X (binaryOp .Pow) (rG X.K gPow) := o_int op_pow fun i j h => by
  simp only [Bool.and_eq_true, decide_eq_true_eq] at h
  exact ⟨h.1.1, h.1.2, h.2⟩
def gNeg : D → Option D
  | .int i => some (.int (-i))
  | _ => none
theorem o_neg {X : Cx} : UnR X (unaryOp .USub) (uG X.K gNeg) := by
  intro pins s σ H x v Q I rx ⟨F, dx, d, sub, gx, e, k⟩
  cases dx with
  | int i =>
    cases e
    exact un_neg pins s σ H x v Q I rx ⟨i, gx, k _ H F (Grown.refl sub) (.int _)⟩
  | _ => cases e

/-! ### == and != -/
/-- the two can be compared: no dict within, one of them not deep -/
def eqOk (x y : D) : Bool := x.plain && y.plain && decide (min x.depth y.depth ≤ 60)
def gEq (x y : D) : Option D := if eqOk x y = true then some (.bool (x.eqv y)) else none
def gNe (x y : D) : Option D := if eqOk x y = true then some (.bool (!x.eqv y)) else none
theorem eqOk_iff {x y : D} (h : eqOk x y = true) : x.plain = true ∧ y.plain = true ∧ min x.depth y.depth ≤ 60 := by
  simp only [eqOk, Bool.and_eq_true, decide_eq_true_eq] at h
  exact ⟨h.1.1, h.1.2, h.2⟩
theorem o_eq {X : Cx} (hu : X.A.units + 64 < cLine) : OpR X (compareOp .Eq) (rG X.K gEq) := by
  intro pins s σ H x y v u Q I rx ry ⟨F, dx, dy, d, sub, gx, gy, e, k⟩
  unfold gEq at e
  split at e
  · rename_i c
    cases e
    obtain ⟨p1, p2, p3⟩ := eqOk_iff c
    obtain ⟨as, r1⟩ := gr_reads I sub gx p1 rx
    obtain ⟨bs, r2⟩ := gr_reads I sub gy p2 ry
    exact SeqAt.eq_plain r1 r2 p1 p2 (by omega) ⟨.bl _, H, I, rfl, k _ H F (Grown.refl sub) (.bl _)⟩
  · cases e
theorem o_ne {X : Cx} (hu : X.A.units + 64 < cLine) : OpR X (compareOp .NotEq) (rG X.K gNe) := by
  intro pins s σ H x y v u Q I rx ry ⟨F, dx, dy, d, sub, gx, gy, e, k⟩
  unfold gNe at e
  split at e
  · rename_i c
    cases e
    obtain ⟨p1, p2, p3⟩ := eqOk_iff c
    obtain ⟨as, r1⟩ := gr_reads I sub gx p1 rx
    obtain ⟨bs, r2⟩ := gr_reads I sub gy p2 ry
    exact SeqAt.ne_plain r1 r2 p1 p2 (by omega) ⟨.bl _, H, I, rfl, k _ H F (Grown.refl sub) (.bl _)⟩
  · cases e

/-! ### <, >, <=, >= -/
def ltOk (x y : D) : Bool := PySem.W.alike x y && x.plain && y.plain && decide (min x.depth y.depth ≤ 60)
def gLt : D → D → Option D
  | .int i, .int j => some (.bool (decide (i < j)))
  | .none, _ => none
  | x, y => if ltOk x y = true then some (.bool (PySem.W.dataLt x y)) else none
theorem o_lt {X : Cx} (hu : X.A.units + 64 < cLine) : OpR X (compareOp .Lt) (rG X.K gLt) := by
  intro pins s σ H x y v u Q I rx ry ⟨F, dx, dy, d, sub, gx, gy, e, k⟩
  have gen : (if ltOk dx dy = true then some (PyData.bool (PySem.W.dataLt dx dy)) else none) = some d → dx ≠ .none → wpAny (model X.prog X.w) X.A (compareOp .Lt v u) (EP X pins σ Q) X.xe s := fun e hn => by
    split at e
    · rename_i c
      cases e
      simp only [ltOk, Bool.and_eq_true, decide_eq_true_eq] at c
      obtain ⟨as, r1⟩ := gr_reads I sub gx c.1.1.2 rx
      obtain ⟨bs, r2⟩ := gr_reads I sub gy c.1.2 ry
      exact PySem.W.rcLt_alike dx dy X.A s v u as bs r1 r2 c.1.1.1 hn (by have := c.2; omega) X.prog X.w _ _ ⟨.bl _, H, I, rfl, k _ H F (Grown.refl sub) (.bl _)⟩
    · cases e
  cases dx with
  | none => cases dy <;> cases e
  | int i =>
    cases dy with
    | int j =>
      cases gx; cases gy; cases e
      exact op_lt pins s σ H _ _ v u Q I rx ry ⟨i, j, rfl, rfl, k _ H F (Grown.refl sub) (.bl _)⟩
    | _ => exact gen e (fun z => nomatch z)
  | _ => cases dy <;> exact gen e (fun z => nomatch z)
def gCmpI (p : Int → Int → Bool) : D → D → Option D
  | .int i, .int j => some (.bool (p i j))
  | _, _ => none
theorem o_cmpI {X : Cx} {op : CmpOp} {p : Int → Int → Bool} (h : OpR X (compareOp op) (rI0 fun i j => .bl (p i j))) : OpR X (compareOp op) (rG X.K (gCmpI p)) := by
  intro pins s σ H x y v u Q I rx ry ⟨F, dx, dy, d, sub, gx, gy, e, k⟩
  cases dx with
  | int i =>
    cases dy with
    | int j =>
      cases gx; cases gy; cases e
      exact h pins s σ H _ _ v u Q I rx ry ⟨i, j, rfl, rfl, k _ H F (Grown.refl sub) (.bl _)⟩
    | _ => cases e
  | _ => cases dy <;> cases e
abbrev gGt := gCmpI fun i j => decide (i > j)
abbrev gLe := gCmpI fun i j => decide (i ≤ j)
abbrev gGe := gCmpI fun i j => decide (i ≥ j)
theorem o_gt {X : Cx} : OpR X (compareOp .Gt) (rG X.K gGt) := o_cmpI op_gt
theorem o_le {X : Cx} : OpR X (compareOp .LtE) (rG X.K gLe) := o_cmpI op_le
theorem o_ge {X : Cx} : OpR X (compareOp .GtE) (rG X.K gGe) := o_cmpI op_ge

/-! ### in, not in -/
def dKey : D → Option Key
  | .int i => some (.inl i)
  | .str x => some (.inr x)
  | _ => none
/-- what a dict holds at a key -/
def look (k : D) : List (D × D) → Option D
  | [] => none
  | (a, b) :: r => match dKey a, dKey k with
    | some x, some y => if x = y then some b else look k r
    | _, _ => none
def inD (x : D) : D → Option Bool
  | .list ds => if (x.plain && PyData.plainAll ds && decide (min (PyData.depthAll ds) x.depth ≤ 60)) = true then some (ds.any fun y => y.eqv x) else none
  | .tuple ds => if (x.plain && PyData.plainAll ds && decide (min (PyData.depthAll ds) x.depth ≤ 60)) = true then some (ds.any fun y => y.eqv x) else none
  | .dict ks => match dKey x with
    | some _ => if hdK ks = true then some (look x ks).isSome else none
    | none => match tKey x with
      | some q => if hdK ks = true then none else (lkT q ks).map fun o => o.isSome
      | none => none
  | .str y => match x with
    | .str z => some (!(Builtin.Str.occurrences y z 0 y.length 1).isEmpty)
    | _ => none
  | _ => none
def gIn (x y : D) : Option D := (inD x y).map .bool
def gNotIn (x y : D) : Option D := (inD x y).map fun b => .bool !b
theorem keyD_dKey (k : Key) : dKey (keyD k) = some k := by cases k <;> rfl
theorem dKey_keyD {d : D} {k : Key} (h : dKey d = some k) : d = keyD k := by
  cases d with
  | int i => cases h; rfl
  | str x => cases h; rfl
  | _ => cases h
theorem frk_look {K : PySem.W.Frag} {F : Hp} {k : Key} : ∀ {kvs : List (Key × V)} {ks : List (D × D)}, FRk K F kvs ks → (match valV kvs k with | some v => ∃ d, look (keyD k) ks = some d ∧ FR K F v d | none => look (keyD k) ks = none)
  | _, _, .nil => rfl
  | _, _, .cons (k := j) (v := v) (d := d) (r := r) (ds := ds) h t => by
    have ih := frk_look (k := k) t
    have e : look (keyD k) ((keyD j, d) :: ds) = if j = k then some d else look (keyD k) ds := by
      show (match dKey (keyD j), dKey (keyD k) with | some x, some y => if x = y then some d else look (keyD k) ds | _, _ => none) = _
      rw [keyD_dKey, keyD_dKey]
    rw [e]
    by_cases q : j = k
    · rw [if_pos q, valV_pos (p := (j, v)) q]
      exact ⟨d, rfl, h⟩
    · rw [if_neg q, valV_neg (p := (j, v)) q]
      exact ih
theorem frt_lookK {K : PySem.W.Frag} {F : Hp} {k : D} {xs : TKs} {ds : List (D × D)} (h : FRt K F xs ds) (ne : xs ≠ []) : look k ds = none := by
  cases h with
  | nil => exact absurd rfl ne
  | cons _ _ _ _ _ => rfl
theorem kV_of {K : PySem.W.Frag} {H F : Hp} {v : V} {d : D} {k : Key} (g : GR K H F v d) (e : dKey d = some k) : v = kV k := by
  cases d with
  | int i => cases e; cases g; rfl
  | str x => cases e; cases g; rfl
  | _ => cases e
theorem o_inB {X : Cx} (hu : X.A.units + 65 < cLine) (neg : Bool) : OpR X (compareOp (if neg = true then .NotIn else .In)) (rG X.K fun x y => (inD x y).map fun b => .bool (if neg = true then !b else b)) := by
  intro pins s σ H x y v u Q I rx ry ⟨F, dx, dy, d, sub, gx, gy, e, k⟩
  dsimp only at e
  cases eb : inD dx dy with
  | none => rw [eb] at e; cases e
  | some b =>
    rw [eb] at e
    cases e
    have fin : ∀ s', L2.Inv X pins σ H s' → EP X pins σ Q (.bool (if neg = true then !b else b)) s' := fun s' I' => ⟨.bl _, H, I', rfl, k _ H F (Grown.refl sub) (.bl _)⟩
    cases dy with
    | list ds =>
      dsimp only [inD] at eb
      split at eb
      · rename_i c
        cases eb
        simp only [Bool.and_eq_true, decide_eq_true_eq] at c
        obtain ⟨as, r1⟩ := gr_reads I sub gx c.1.1 rx
        obtain ⟨bs, r2⟩ := gr_reads I sub gy (by simpa [PyData.plain] using c.1.2) ry
        have c2 := c.2
        cases neg with
        | true => exact SeqAt.notIn_list_data r2 r1 c.1.2 c.1.1 (by omega) (fin s I)
        | false => exact SeqAt.in_list_data r2 r1 c.1.2 c.1.1 (by omega) (fin s I)
      · cases eb
    | tuple ds =>
      dsimp only [inD] at eb
      split at eb
      · rename_i c
        cases eb
        simp only [Bool.and_eq_true, decide_eq_true_eq] at c
        obtain ⟨as, r1⟩ := gr_reads I sub gx c.1.1 rx
        obtain ⟨bs, r2⟩ := gr_reads I sub gy (by simpa [PyData.plain] using c.1.2) ry
        have c2 := c.2
        cases neg with
        | true => exact SeqAt.notIn_tuple_data r2 r1 c.1.2 c.1.1 (by omega) (fin s I)
        | false => exact SeqAt.in_tuple_data r2 r1 c.1.2 c.1.1 (by omega) (fin s I)
      · cases eb
    | dict ks =>
      rcases gy with ⟨a, kvs, rfl, h1, h2, h3, h4⟩ | ⟨a, rfl, xs, h1, h2, h3, h4, h5, h6⟩
      rotate_left
      · cases ry
        have hk0 := frt_hdK h2 h6
        dsimp only [inD] at eb
        rw [hk0] at eb
        cases kx : dKey dx with
        | some k' => rw [kx] at eb; cases eb
        | none =>
          rw [kx] at eb
          dsimp only at eb
          cases dx with
          | tuple kds =>
            cases qt : tKey (.tuple kds) with
            | none => rw [qt] at eb; cases eb
            | some q =>
              rw [qt] at eb
              dsimp only at eb
              rw [if_neg Bool.false_ne_true] at eb
              have gx' := gx
              obtain ⟨bk, _, rfl, _⟩ := gx'
              cases (show v = Value.ref bk from rx)
              have dd := gt_dict I sub h1 h2 h3
              have hkey := key_at I sub gx qt
              have z := frt_look (q := q) h2
              have eb2 : (atKey xs q).isSome = b := by
                cases w : atKey xs q with
                | none => rw [w] at z; dsimp only at z; rw [z] at eb; cases eb; rfl
                | some p => rw [w] at z; obtain ⟨_, _, z1, _⟩ := z; rw [z1] at eb; cases eb; rfl
              have room : (tupleKind (numK X.prog X.w)).room X.A.in1 := tupleKind_room_in1 (by omega)
              cases neg with
              | true => exact wpAny_notIn_heap room hkey h5 dd (by rw [eb2]; exact fin _ (I.tok _))
              | false => exact wpAny_in_heap room hkey h5 dd (by rw [eb2]; exact fin _ (I.tok _))
          | _ => cases eb
      cases ry
      dsimp only [inD] at eb
      rw [frk_hdK h2] at eb
      cases kx : dKey dx with
      | none =>
        rw [kx] at eb
        dsimp only at eb
        cases qt : tKey dx with
        | none => rw [qt] at eb; cases eb
        | some q => rw [qt] at eb; dsimp only at eb; rw [if_pos rfl] at eb; cases eb
      | some k' =>
        rw [kx] at eb
        dsimp only at eb
        rw [if_pos rfl] at eb
        have e' : (look dx ks).isSome = b := Option.some.inj eb
        have ev : (valV kvs k').isSome = b := by
          rw [← e', dKey_keyD kx]
          have z := frk_look (k := k') h2
          cases w : valV kvs k' with
          | none => rw [w] at z; dsimp only at z; rw [z]; rfl
          | some w' => rw [w] at z; obtain ⟨d, z1, _⟩ := z; rw [z1]; rfl
        have hk := kV_of gx kx
        subst hk
        have g : DGet H a (kV k') (valV kvs k') := .inl ⟨kvs, k', h1, rfl, rfl⟩
        cases neg with
        | true => exact d_notIn (by omega) I g rx fun s' I' => by rw [ev]; exact fin s' I'
        | false => exact d_in (by omega) I g rx fun s' I' => by rw [ev]; exact fin s' I'
    | str y' =>
      cases dx with
      | str x' =>
        cases gx; cases gy; cases eb
        cases neg with
        | true => exact op_notIn_str pins s σ H _ _ v u Q I rx ry ⟨x', y', rfl, rfl, by simpa using k _ H F (Grown.refl sub) (.bl _)⟩
        | false => exact op_in_str pins s σ H _ _ v u Q I rx ry ⟨x', y', rfl, rfl, k _ H F (Grown.refl sub) (.bl _)⟩
      | _ => cases eb
    | _ => cases eb
theorem o_in {X : Cx} (hu : X.A.units + 65 < cLine) : OpR X (compareOp .In) (rG X.K gIn) := by
  have h := o_inB (X := X) hu false
  have e : (fun x y => (inD x y).map fun b => PyData.bool (if false = true then !b else b)) = gIn := by
    funext x y
    unfold gIn
    cases inD x y <;> rfl
  rw [e] at h
  exact h
theorem o_notIn {X : Cx} (hu : X.A.units + 65 < cLine) : OpR X (compareOp .NotIn) (rG X.K gNotIn) := o_inB hu true

/-! ### is, is not: with None, True, False -/
def isD (x y : D) : Option Bool := match y with
  | .none => some (match x with | .none => true | _ => false)
  | .bool b => match x with
    | .bool a => some (decide (a = b))
    | .none | .int _ | .str _ | .list _ | .tuple _ | .dict _ => some false
  | _ => none
def gIs (x y : D) : Option D := (isD x y).map .bool
def gIsNot (x y : D) : Option D := (isD x y).map fun b => .bool !b
theorem is_run {X : Cx} {H F : Hp} {x y : V} {v u : Value} {dx dy : D} {b : Bool} (rx : RelV x v) (ry : RelV y u) (gx : GR X.K H F x dx) (gy : GR X.K H F y dy) (e : isD dx dy = some b) : plainIs v u = true ∧ (v == u) = b := by
  cases dy with
  | none =>
    cases gy
    cases ry
    cases dx with
    | none => cases gx; cases rx; cases e; exact ⟨rfl, rfl⟩
    | bool a => cases gx; cases rx; cases e; exact ⟨rfl, rfl⟩
    | int i => cases gx; obtain ⟨t, rfl⟩ := rx; cases e; exact ⟨rfl, rfl⟩
    | str z => cases gx; obtain ⟨t, rfl⟩ := rx; cases e; exact ⟨rfl, rfl⟩
    | list ds => obtain ⟨a, xs, rfl, _⟩ := gx; cases rx; cases e; exact ⟨rfl, rfl⟩
    | tuple ds => obtain ⟨a, xs, rfl, _⟩ := gx; cases rx; cases e; exact ⟨rfl, rfl⟩
    | dict ds => rcases gx with ⟨a, xs, rfl, _⟩ | ⟨a, rfl, _⟩ <;> cases rx <;> cases e <;> exact ⟨rfl, rfl⟩
  | bool c =>
    cases gy
    cases ry
    cases dx with
    | none => cases gx; cases rx; cases e; exact ⟨rfl, rfl⟩
    | bool a =>
      cases gx; cases rx; cases e
      refine ⟨rfl, ?_⟩
      cases a <;> cases c <;> rfl
    | int i => cases gx; obtain ⟨t, rfl⟩ := rx; cases e; exact ⟨rfl, rfl⟩
    | str z => cases gx; obtain ⟨t, rfl⟩ := rx; cases e; exact ⟨rfl, rfl⟩
    | list ds => obtain ⟨a, xs, rfl, _⟩ := gx; cases rx; cases e; exact ⟨rfl, rfl⟩
    | tuple ds => obtain ⟨a, xs, rfl, _⟩ := gx; cases rx; cases e; exact ⟨rfl, rfl⟩
    | dict ds => rcases gx with ⟨a, xs, rfl, _⟩ | ⟨a, rfl, _⟩ <;> cases rx <;> cases e <;> exact ⟨rfl, rfl⟩
  | _ => cases e
theorem o_is {X : Cx} : OpR X (compareOp .Is) (rG X.K gIs) := by
  intro pins s σ H x y v u Q I rx ry ⟨F, dx, dy, d, sub, gx, gy, e, k⟩
  unfold gIs at e
  cases eb : isD dx dy with
  | none => rw [eb] at e; cases e
  | some b =>
    rw [eb] at e
    cases e
    obtain ⟨p, q⟩ := is_run rx ry gx gy eb
    exact wpAny_is_plain p ⟨.bl b, H, I, by rw [q]; rfl, k _ H F (Grown.refl sub) (.bl _)⟩
theorem o_isNot {X : Cx} : OpR X (compareOp .IsNot) (rG X.K gIsNot) := by
  intro pins s σ H x y v u Q I rx ry ⟨F, dx, dy, d, sub, gx, gy, e, k⟩
  unfold gIsNot at e
  cases eb : isD dx dy with
  | none => rw [eb] at e; cases e
  | some b =>
    rw [eb] at e
    cases e
    obtain ⟨p, q⟩ := is_run rx ry gx gy eb
    exact wpAny_isNot_plain p ⟨.bl (!b), H, I, by rw [q]; rfl, k _ H F (Grown.refl sub) (.bl _)⟩

/-! ### a[b] -/
def strIx (x : Str) (i : Int) : Option Str := (atI x.cps.toList i).map fun c => ⟨#[c]⟩
def gIx : D → D → Option D
  | .list ds, .int i => atI ds i
  | .tuple ds, .int i => atI ds i
  | .dict ks, k => match dKey k with
    | some _ => look k ks
    | none => match tKey k with
      | some q => match lkT q ks with
        | some o => o
        | none => none
      | none => none
  | .str x, .int i => if x.length ≤ sizeLine then (strIx x i).map .str else none
  | _, _ => none
theorem frs_at {K : PySem.W.Frag} {F : Hp} {vs : List V} {ds : List D} {i : Int} {d : D} (h : FRs K F vs ds) (e : atI ds i = some d) : ∃ v, atI vs i = some v ∧ FR K F v d := by
  unfold atI at e ⊢
  rw [h.length]
  cases q : ixN ds.length i with
  | none => rw [q] at e; cases e
  | some j =>
    rw [q] at e
    exact h.get' e
theorem o_ix {X : Cx} (hu : X.A.units + 64 < cLine) : IxR X (rG X.K gIx) := by
  intro value slice pins s σ H x y v u Q I rx ry ⟨F, dx, dy, d, sub, gx, gy, e, k⟩ hs
  cases dx with
  | list ds =>
    cases dy with
    | int i =>
      obtain ⟨a, xs, rfl, h1, h2, h3⟩ := gx
      cases gy
      obtain ⟨z, e1, e2⟩ := frs_at h2 e
      exact ix_list value slice pins s σ H _ _ v u Q I rx ry ⟨a, xs, i, z, rfl, rfl, h1, e1, k z H F (Grown.refl sub) e2⟩ hs
    | _ => cases e
  | tuple ds =>
    cases dy with
    | int i =>
      obtain ⟨a, xs, rfl, h1, h2, h3⟩ := gx
      cases gy
      obtain ⟨z, e1, e2⟩ := frs_at h2 e
      exact ix_tup value slice pins s σ H _ _ v u Q I rx ry ⟨a, xs, i, z, rfl, rfl, sqT_mono sub h1, e1, k z H F (Grown.refl sub) e2⟩ hs
    | _ => cases e
  | dict ks =>
    rcases gx with ⟨a, kvs, rfl, h1, h2, h3, h4⟩ | ⟨a, rfl, xs, h1, h2, h3, h4, h5, h6⟩
    rotate_left
    · cases rx
      dsimp only [gIx] at e
      cases kx : dKey dy with
      | some k' =>
        rw [kx] at e
        dsimp only at e
        rw [frt_lookK h2 h6] at e
        cases e
      | none =>
        rw [kx] at e
        dsimp only at e
        cases dy with
        | tuple kds =>
          cases qt : tKey (.tuple kds) with
          | none => rw [qt] at e; cases e
          | some q =>
            rw [qt] at e
            dsimp only at e
            have gy' := gy
            obtain ⟨bk, _, rfl, _⟩ := gy'
            cases (show u = Value.ref bk from ry)
            have dd := gt_dict I sub h1 h2 h3
            have hkey := key_at I sub gy qt
            have z := frt_look (q := q) h2
            cases w : atKey xs q with
            | none => rw [w] at z; dsimp only at z; rw [z] at e; cases e
            | some p =>
              rw [w] at z
              obtain ⟨pv, pd, z1, z2, z3⟩ := z
              rw [z1] at e
              cases e
              exact tail_any dd.typeIs PySem.F.slot_dict_getitem.lookup (wpAny_getItem_heap (tupleKind_room_in1 (by omega)) hkey dd w ⟨pv, H, I.tok _, z2, k pv H F (Grown.refl sub) z3⟩) hs
        | _ => cases e
    cases rx
    dsimp only [gIx] at e
    cases kx : dKey dy with
    | none =>
      rw [kx] at e
      dsimp only at e
      cases qt : tKey dy with
      | none => rw [qt] at e; cases e
      | some q =>
        rw [qt] at e
        dsimp only at e
        rcases frk_lkT (q := q) h2 with z | z
        · rw [z] at e; cases e
        · subst z; cases e
    | some k' =>
      rw [kx] at e
      dsimp only at e
      rw [dKey_keyD kx] at e
      have z := frk_look (k := k') h2
      cases w : valV kvs k' with
      | none => rw [w] at z; dsimp only at z; rw [z] at e; cases e
      | some w' =>
        rw [w] at z
        obtain ⟨d', z1, z2⟩ := z
        rw [z1] at e
        cases e
        have hk := kV_of gy kx
        subst hk
        have g : DGet H a (kV k') (some w') := .inl ⟨kvs, k', h1, rfl, w.symm⟩
        exact tail_any (dict_typeIs I g) PySem.F.slot_dict_getitem.lookup (d_getItem (by omega) I g ry fun r s' I' rr => ⟨w', H, I', rr, k w' H F (Grown.refl sub) z2⟩) hs
  | str x' =>
    cases dy with
    | int i =>
      cases gx; cases gy
      dsimp only [gIx] at e
      split at e
      · rename_i z
        unfold strIx at e
        cases q : atI x'.cps.toList i with
        | none => rw [q] at e; cases e
        | some c =>
          rw [q] at e
          cases e
          exact ix_str value slice pins s σ H _ _ v u Q I rx ry ⟨x', i, c, rfl, rfl, z, q, k _ H F (Grown.refl sub) (.str _)⟩ hs
      · cases e
    | _ => cases e
  | _ => cases e
end PL
/-! PL4: calls of built-in functions and types. -/
namespace PL
open PySem PySem.Spec PyProof.Rows L2

def g1 (f : D → Option D) : List D → Option D
  | [d] => f d
  | _ => none
theorem g1_inv {f : D → Option D} {ds : List D} {d : D} (h : g1 f ds = some d) : ∃ x, ds = [x] ∧ f x = some d := by
  match ds, h with
  | [x], h => exact ⟨x, rfl, h⟩
theorem GRs.one {K : PySem.W.Frag} {H F : Hp} {xs : List V} {d : D} (h : GRs K H F xs [d]) : ∃ v, xs = [v] ∧ GR K H F v d := by
  cases h with
  | cons h t =>
    cases t
    exact ⟨_, rfl, h⟩
/-- one value in -/
def r1G (K : PySem.W.Frag) (g : D → Option D) (v : V) (H : Hp) (Q : VK) : Prop := ∃ F d d', SameH F H ∧ GR K H F v d ∧ g d = some d' ∧ ∀ z H' F', Grown H F H' F' → FR K F' z d' → Q z H'
def r1N (K : PySem.W.Frag) (g : D → Option D) (v : V) (H : Hp) (Q : VK) : Prop := ∃ F d d', SameH F H ∧ GR K H F v d ∧ g d = some d' ∧ ∀ p o, H p = none → OR K (upd H p o) F p d' → Q (.ref p) (upd H p o)
theorem c_one {X : Cx} {f : Value} {g : D → Option D} (h : ∀ (pins : List (Addr × Obj)) (s : Shared) (σ : Sg) (H : Hp) (x : V) (u : Value) (Q : VK), L2.Inv X pins σ H s → RelV x u → r1G X.K g x H Q → wpAny (model X.prog X.w) X.A (call f [u]) (EP X pins σ Q) X.xe s) : CallR X f (lG X.K (g1 g)) := by
  intro pins s σ H xs us Q I r ⟨F, ds, d, sub, gs, e, k⟩
  obtain ⟨x, rfl, e'⟩ := g1_inv e
  obtain ⟨v, rfl, gv⟩ := gs.one
  obtain ⟨u, rfl, ru⟩ := vals1 r
  exact h pins s σ H v u Q I ru ⟨F, x, d, sub, gv, e', k⟩
theorem c_oneN {X : Cx} {f : Value} {g : D → Option D} (h : ∀ (pins : List (Addr × Obj)) (s : Shared) (σ : Sg) (H : Hp) (x : V) (u : Value) (Q : VK), L2.Inv X pins σ H s → RelV x u → r1N X.K g x H Q → wpAny (model X.prog X.w) X.A (call f [u]) (EP X pins σ Q) X.xe s) : CallR X f (lN X.K (g1 g)) := by
  intro pins s σ H xs us Q I r ⟨F, ds, d, sub, gs, e, k⟩
  obtain ⟨x, rfl, e'⟩ := g1_inv e
  obtain ⟨v, rfl, gv⟩ := gs.one
  obtain ⟨u, rfl, ru⟩ := vals1 r
  exact h pins s σ H v u Q I ru ⟨F, x, d, sub, gv, e', k⟩
theorem via {X : Cx} {f : Value} {r : List V → Hp → VK → Prop} (h : CallR X f r) {pins : List (Addr × Obj)} {s : Shared} {σ : Sg} {H : Hp} {x : V} {u : Value} {Q : VK} (I : L2.Inv X pins σ H s) (ru : RelV x u) (q : r [x] H Q) : wpAny (model X.prog X.w) X.A (call f [u]) (EP X pins σ Q) X.xe s :=
  h pins s σ H [x] [u] Q I (.cons ru .nil) q

/-! ### len -/
def gLen : D → Option D
  | .str x => if x.length ≤ sizeLine then some (.int x.length) else none
  | .list ds => some (.int ds.length)
  | .tuple ds => some (.int ds.length)
  | .dict ks => some (.int ks.length)
  | _ => none
theorem c_len {X : Cx} : CallR X (.builtin "len") (lG X.K (g1 gLen)) := c_one fun pins s σ H x u Q I ru ⟨F, d, d', sub, gx, e, k⟩ => by
  cases d with
  | str y =>
    cases gx
    dsimp only [gLen] at e
    split at e
    · rename_i z
      cases e
      exact via call_len I ru ⟨_, _, rfl, ⟨z, rfl⟩, k _ H F (Grown.refl sub) (.int _)⟩
    · cases e
  | list ds =>
    cases e
    obtain ⟨a, xs, rfl, h1, h2, h3⟩ := gx
    exact via call_len I ru ⟨_, _, rfl, .inl ⟨xs, h1, h2.length.symm⟩, k _ H F (Grown.refl sub) (.int _)⟩
  | tuple ds =>
    cases e
    obtain ⟨a, xs, rfl, h1, h2, h3⟩ := gx
    exact via call_len I ru ⟨_, _, rfl, .inr ⟨xs, sqT_mono sub h1, h2.length.symm⟩, k _ H F (Grown.refl sub) (.int _)⟩
  | dict ks =>
    cases e
    rcases gx with ⟨a, kvs, rfl, h1, h2, h3, h4⟩ | ⟨a, rfl, xs, h1, h2, h3, h4, h5, h6⟩
    · cases ru
      exact d_len I h1 fun t s' I' => ⟨.int ks.length, H, I', ⟨_, by rw [h2.length]⟩, k _ H F (Grown.refl sub) (.int _)⟩
    · cases ru
      have z : sizeLine < 2 ^ 62 := by decide
      exact call_len_dictH h5 (gt_dict I sub h1 h2 h3) (by omega) ⟨.int ks.length, H, I.tok _, ⟨_, by rw [h2.length]⟩, k _ H F (Grown.refl sub) (.int _)⟩
  | _ => cases e

/-! ### int, repr, str -/
def gIntT : D → Option D
  | .int i => some (.int i)
  | _ => none
theorem c_int {X : Cx} : CallR X (.type "int") (lG X.K (g1 gIntT)) := c_one fun pins s σ H x u Q I ru ⟨F, d, d', sub, gx, e, k⟩ => by
  cases d with
  | int i =>
    cases gx
    cases e
    exact via call_int1 I ru (.inl ⟨i, rfl, k _ H F (Grown.refl sub) (.int _)⟩)
  | _ => cases e
def gRepr : D → Option D
  | .int i => if i.natAbs.log2 < 1920 then some (.str (toString i)) else none
  | .str x => if (reprText x).length ≤ sizeLine then some (.str (reprText x)) else none
  | _ => none
theorem c_repr {X : Cx} : CallR X (.builtin "repr") (lG X.K (g1 gRepr)) := c_one fun pins s σ H x u Q I ru ⟨F, d, d', sub, gx, e, k⟩ => by
  cases d with
  | int i =>
    cases gx
    dsimp only [gRepr] at e
    split at e
    · rename_i z
      cases e
      exact via SkE.call_repr_int I ru ⟨i, rfl, z, k _ H F (Grown.refl sub) (.str _)⟩
    · cases e
  | str y =>
    cases gx
    obtain ⟨t, rfl⟩ := ru
    dsimp only [gRepr] at e
    split at e
    · rename_i z
      cases e
      exact PySem.P.repr_of_str ⟨.str _, H, I.tok _, ⟨_, rfl⟩, k _ H F (Grown.refl sub) (.str _)⟩ z
    · cases e
  | _ => cases e

/-! ### isinstance -/
inductive Ty where
  | bool | int | str | list | tuple | dict
def Ty.nm : Ty → String
  | .bool => "bool" | .int => "int" | .str => "str" | .list => "list" | .tuple => "tuple" | .dict => "dict"
def Ty.x : Ty → Str
  | .bool => "bool" | .int => "int" | .str => "str" | .list => "list" | .tuple => "tuple" | .dict => "dict"
def isK : Ty → D → Bool
  | .bool, .bool _ => true
  | .int, .bool _ => true
  | .int, .int _ => true
  | .str, .str _ => true
  | .list, .list _ => true
  | .tuple, .tuple _ => true
  | .dict, .dict _ => true
  | _, _ => false
def kindOf : D → String
  | .none => "NoneType" | .bool _ => "bool" | .int _ => "int" | .str _ => "str" | .list _ => "list" | .tuple _ => "tuple" | .dict _ => "dict"
theorem kit_isK (T : Ty) (d : D) : kitB (kindOf d) T.nm = some (isK T d) := by
  cases T <;> cases d <;> (dsimp only [kindOf, Ty.nm, isK]; decide +kernel)
def tkD : D → Bool
  | .dict ks => hdK ks
  | _ => true
theorem GR.ty {K : PySem.W.Frag} {H F : Hp} {v : V} {d : D} (sub : SameH F H) (h : GR K H F v d) (ht : tkD d = true) : TyX K H v (.type (kindOf d)) := by
  cases d with
  | none => cases h; exact .base .non
  | bool b => cases h; exact .base (.bl b)
  | int i => cases h; exact .base (.int i)
  | str x => cases h; exact .base (.str x)
  | list ds =>
    obtain ⟨a, xs, rfl, h, _, _⟩ := h
    rcases h with (h | ⟨o, h⟩) | ⟨o, its, n, h1, h2, _⟩
    · exact .base (.lst h)
    · exact .base (.frz h)
    · exact .kList h1 h2
  | tuple ds =>
    obtain ⟨a, xs, rfl, h, _, _⟩ := h
    rcases h with (h | ⟨o, h⟩) | ⟨o, its, n, h1, h2, _⟩
    · exact .base (.tup (sub _ _ h))
    · exact .fTuple (sub _ _ h)
    · exact .kTuple h1 h2
  | dict ds =>
    rcases h with ⟨a, xs, rfl, h | ⟨o, h⟩, _, _⟩ | ⟨a, rfl, xs, _, h, _, _, _, ne⟩
    · exact .base (.dK h)
    · exact .fDict h
    · have z : hdK ds = true := ht
      rw [frt_hdK h ne] at z; cases z
def gIsi (T : Ty) (d : D) : Option D := some (.bool (isK T d))
def tIsi (K : PySem.W.Frag) (T : Ty) (te : TE) : TE := fun σ H Q => te σ H fun x H1 => uG K (gIsi T) x H1 Q
theorem q_isi {X : Cx} (T : Ty) {a : Expr} {fa : FE} {p p2 pos : Pos} (ha : QE X a fa) (hg : Gl X "isinstance") (hm : X.mg "isinstance" = none) (gt : Gl X T.x) (mt : X.mg T.x = none)
    (he : starEach [a, .Name T.x p2] X.env = (false, eval a X.env) :: starEach [.Name T.x p2] X.env := by rfl) (hpl : (backTo pos (starEach [.Name T.x p2] X.env)).any (·.1) = false := by rfl)
    (he2 : starEach [.Name T.x p2] X.env = (false, eval (.Name T.x p2) X.env) :: starEach [] X.env := by rfl) :
    QV X (.Call (.Name "isinstance" p) [a, .Name T.x p2] [] pos) (fUn (gIsi T) fa) := by
  have bt : bootBuiltins T.x = some (.type T.nm) := by cases T <;> rfl
  have n1 : T.x ≠ "__name__" := by cases T <;> decide
  have n2 : (T.x == ("__debug__" : Str)) = false := by cases T <;> decide
  refine PE.weak (pe_callB (r := fun xs H Q => ∃ x, xs = [x, .ty T.nm] ∧ uG X.K (gIsi T) x H Q) (fun pins s σ H xs us Q I r h => ?_) hg hm (by rfl) (pa_cons ha (pa_cons (pe_bltn (v := .ty T.nm) gt mt bt rfl n1 n2) pa_nil he2) he) (by decide) (by decide) he hpl) fun σ H Q h => ?_
  · obtain ⟨x, rfl, F, dx, d, sub, gx, e, k⟩ := h
    cases e
    by_cases ht : tkD dx = true
    · exact call_isi pins s σ H _ us Q I r ⟨x, _, _, _, _, rfl, .ty _, gx.ty sub ht, kit_ty (kit_isK T dx), k _ H F (Grown.refl sub) (.bl _)⟩
    · cases dx with
      | dict ks =>
        rcases gx with ⟨a, kvs, _, _, h2, _⟩ | ⟨a, rfl, xs, h1, h2, h3, _⟩
        · exact absurd (frk_hdK h2) ht
        · obtain ⟨u1, u2, rfl, r1, r2⟩ := vals2 r
          cases (show u1 = Value.ref a from r1)
          obtain rfl : u2 = Value.type T.nm := r2
          have dd := gt_dict I sub h1 h2 h3
          obtain ⟨o, es, ep, e1, e2, _⟩ := dd
          exact PySem.W.kia_one PySem.W.kitx_dict I.kIn ⟨o, e1, e2.1⟩ (kit_ty (kit_isK T (.dict ks))) (fun z => nomatch z) fun tk => ⟨.bl _, H, I.tok tk, rfl, k _ H F (Grown.refl sub) (.bl _)⟩
      | _ => exact absurd rfl ht
  · obtain ⟨W, F, as, d, as', S, e, k⟩ := un_weak (K := X.K) (g := gIsi T) (fa := fa) σ H Q h
    exact ⟨W, F, as, d, as', S, e, fun v H' F' S' m rr => ⟨v, rfl, k v H' F' S' m rr⟩⟩

/-! ### tuple, list, dict of a thing -/
def gTuple : D → Option D
  | .list ds => some (.tuple ds)
  | .tuple ds => some (.tuple ds)
  | _ => none
theorem c_tuple {X : Cx} : CallR X (.type "tuple") (lG X.K (g1 gTuple)) := c_one fun pins s σ H x u Q I ru ⟨F, d, d', sub, gx, e, k⟩ => by
  cases d with
  | list ds =>
    cases e
    obtain ⟨a, xs, rfl, h1, h2, h3⟩ := gx
    exact via call_tuple_of I ru ⟨a, xs, rfl, .inl ⟨h1, fun l hl => k _ _ _ (Grown.one sub hl) (fr_tup (free_of sub hl) h2 h3)⟩⟩
  | tuple ds =>
    cases e
    obtain ⟨a, xs, rfl, h1, h2, h3⟩ := gx
    exact via call_tuple_of I ru ⟨a, xs, rfl, .inr ⟨sqT_mono sub h1, k _ H F (Grown.refl sub) (.tup h1 h2 h3)⟩⟩
  | _ => cases e
theorem frs_keys {K : PySem.W.Frag} {F : Hp} : ∀ {kvs : List (Key × V)} {ks : List (D × D)}, FRk K F kvs ks → FRs K F (kvs.map fun kv => kV kv.1) (ks.map Prod.fst)
  | _, _, .nil => .nil
  | _, _, .cons (k := k) h t => .cons (by cases k with
    | inl i => exact .int i
    | inr x => exact .str x) (frs_keys t)
theorem frt_keysR {K : PySem.W.Frag} {F : Hp} : ∀ {xs : TKs} {ks : List (D × D)}, FRt K F xs ks → FRs K F (xs.map fun x => .ref x.2.1) (ks.map Prod.fst)
  | _, _, .nil => .nil
  | _, _, .cons h _ _ _ t => .cons h (frt_keysR t)
theorem list_T {X : Cx} (hc : X.calm = true) {pins : List (Addr × Obj)} {σ : Sg} {H F : Hp} {s : Shared} {a : Addr} {xs : TKs} {ks : List (D × D)} {Q : VK} (I : L2.Inv X pins σ H s) (sub : SameH F H) (h1 : Rd H a (DTx a xs)) (h2 : FRt X.K F xs ks) (h3 : (xs.map (·.1)).Nodup) (h4 : xs.length ≤ sizeLine) (h5 : (a == sysModules) = false)
    (q : ∀ p, H p = none → Q (.ref p) (upd H p (.lst (xs.map fun x => .ref x.2.1)))) : wpAny (model X.prog X.w) X.A (call (.type "list") [.ref a]) (EP X pins σ Q) X.xe s := by
  obtain ⟨o, es, ep, ho, hx, hdt, he, his, hn⟩ := gt_dict I sub h1 h2 h3
  have l1 : es.size = xs.length := size_of_entries he
  refine PySem.W.kdl_call (kdl_raw h5 hx hdt) (I.ok.hd hc) ho (by omega) fun h' tk acc' c' kp e it => ?_
  have ea : acc'.toList = xs.map fun x => Value.ref x.2.1 := by
    have hl : acc'.toList.length = xs.length := by rw [Array.length_toList, it.1]; exact l1
    apply List.ext_getElem?
    intro j
    rw [List.getElem?_map]
    cases hj : acc'.toList[j]? with
    | none =>
      have h1 := List.getElem?_eq_none_iff.mp hj
      rw [List.getElem?_eq_none (by omega)]
      all_goals rfl
    | some v =>
      obtain ⟨en, hen, hv⟩ := it.2 j v (by rw [← Array.getElem?_toList]; exact hj)
      have qe := entry_at he j
      rw [hen] at qe
      cases hb : xs[j]? with
      | none =>
        rw [hb] at qe
        exact nomatch (show some en = none from qe)
      | some b =>
        rw [hb] at qe
        have e2 : en = entryOfKey (tupleKind (numK X.prog X.w)) b := Option.some.inj qe
        rw [hv, e2]
        all_goals rfl
  have eb : acc'.toList = (xs.map fun x => x.2.1).map Value.ref := by rw [ea, List.map_map]; all_goals rfl
  have rv : Vals ((xs.map fun x => x.2.1).map V.ref) acc'.toList := by rw [eb]; exact vals_refs _
  have hz : ((xs.map fun x => x.2.1).map V.ref).length ≤ sizeLine := by rw [List.length_map, List.length_map]; omega
  have em : (xs.map fun x => V.ref x.2.1) = (xs.map fun x => x.2.1).map V.ref := by rw [List.map_map]; all_goals rfl
  refine ⟨.ref s.heap.objs.size, _, I.laid (t' := tk) (o := .lst ((xs.map fun x => x.2.1).map V.ref)) kp (Nat.le_refl _) ?_, rfl, em ▸ q _ (I.hok.fresh (Nat.le_refl _))⟩
  exact ⟨hz, acc'.toList, c', rv, by rw [Array.toArray_toList]; exact e⟩
def gList : D → Option D
  | .list ds => some (.list ds)
  | .tuple ds => some (.list ds)
  | .dict ks => some (.list (ks.map Prod.fst))
  | _ => none
theorem c_list {X : Cx} (hc : X.calm = true) : CallR X (.type "list") (lN X.K (g1 gList)) := c_oneN fun pins s σ H x u Q I ru ⟨F, d, d', sub, gx, e, k⟩ => by
  cases d with
  | list ds =>
    cases e
    obtain ⟨a, xs, rfl, h1, h2, h3⟩ := gx
    exact via call_list_of I ru ⟨a, xs, rfl, .inl h1, fun l hl => k _ _ hl (or_lst h2 h3)⟩
  | tuple ds =>
    cases e
    obtain ⟨a, xs, rfl, h1, h2, h3⟩ := gx
    exact via call_list_of I ru ⟨a, xs, rfl, .inr (sqT_mono sub h1), fun l hl => k _ _ hl (or_lst h2 h3)⟩
  | dict ks =>
    cases e
    rcases gx with ⟨a, kvs, rfl, h1, h2, h3, h4⟩ | ⟨a, rfl, xs, h1, h2, h3, h4, h5, h6⟩
    · exact via (call_listD hc) I ru ⟨a, kvs, rfl, h1, fun l hl => k _ _ hl (or_lst (frs_keys h2) (by rw [List.length_map]; exact h4))⟩
    · cases ru
      exact list_T hc I sub h1 h2 h3 h4 h5 fun l hl => k _ _ hl (or_lst (frt_keysR h2) (by rw [List.length_map]; exact h4))
  | _ => cases e
def gDict : D → Option D
  | .dict ks => if hdK ks = true then some (.dict ks) else if hapT ks = true then some (.dict ks) else none
  | _ => none
theorem c_dict {X : Cx} (hu : X.A.units + 64 < cLine) : CallR X (.type "dict") (lN X.K (g1 gDict)) := c_oneN fun pins s σ H x u Q I ru ⟨F, d, d', sub, gx, e, k⟩ => by
  cases d with
  | dict ks =>
    dsimp only [gDict] at e
    rcases gx with ⟨a, kvs, rfl, h1, h2, h3, h4⟩ | ⟨a, rfl, xs, h1, h2, h3, h4, h5, h6⟩
    · rw [if_pos (frk_hdK h2)] at e
      cases e
      exact via call_dictD I ru ⟨a, kvs, rfl, h1, fun l hl => k _ _ hl (.inl ⟨kvs, upd_same, h2, h3, h4⟩)⟩
    · rw [if_neg (by rw [frt_hdK h2 h6]; exact Bool.false_ne_true)] at e
      split at e
      · rename_i ha
        cases e
        cases ru
        exact dict_T I sub h1 h2 h3 h4 h5 (frt_hap h2 ha) (by omega) fun l hl ok => k _ _ hl (.inr ⟨xs, upd_same, h2, h3, h4, ok, h6⟩)
      · cases e
  | _ => cases e

/-! ### all, any of a list of truths -/
def bools : List D → Option (List Bool)
  | [] => some []
  | .bool b :: r => (bools r).map (b :: ·)
  | _ => none
theorem bools_some : ∀ {ds : List D} {bs : List Bool}, bools ds = some bs → ds = bs.map .bool
  | [], _, h => by cases h; rfl
  | d :: r, bs, h => by
    cases d with
    | bool b =>
      unfold bools at h
      cases q : bools r with
      | none => rw [q] at h; cases h
      | some cs =>
        rw [q] at h
        cases h
        rw [List.map_cons, bools_some q]
    | _ => cases h
theorem frs_bools {K : PySem.W.Frag} {F : Hp} : ∀ {vs : List V} {bs : List Bool}, FRs K F vs (bs.map .bool) → vs = bs.map V.bl
  | _, [], h => by cases h; rfl
  | _, b :: bs, h => by
    cases h with
    | cons h t =>
      cases h
      rw [frs_bools t, List.map_cons]
def gAll : D → Option D
  | .list ds => (bools ds).map fun bs => .bool (bs.all id)
  | _ => none
def gAny : D → Option D
  | .list ds => (bools ds).map fun bs => .bool (bs.any id)
  | _ => none
theorem c_all {X : Cx} (hc : X.calm = true) : CallR X (.builtin "all") (lG X.K (g1 gAll)) := c_one fun pins s σ H x u Q I ru ⟨F, d, d', sub, gx, e, k⟩ => by
  cases d with
  | list ds =>
    dsimp only [gAll] at e
    cases q : bools ds with
    | none => rw [q] at e; cases e
    | some bs =>
      rw [q] at e
      cases e
      obtain ⟨a, xs, rfl, h1, h2, h3⟩ := gx
      rw [bools_some q] at h2
      have ex := frs_bools h2
      subst ex
      exact via (cr_all hc) I ru ⟨a, bs, rfl, h1, k _ H F (Grown.refl sub) (.bl _)⟩
  | _ => cases e
theorem c_any {X : Cx} (hc : X.calm = true) : CallR X (.builtin "any") (lG X.K (g1 gAny)) := c_one fun pins s σ H x u Q I ru ⟨F, d, d', sub, gx, e, k⟩ => by
  cases d with
  | list ds =>
    dsimp only [gAny] at e
    cases q : bools ds with
    | none => rw [q] at e; cases e
    | some bs =>
      rw [q] at e
      cases e
      obtain ⟨a, xs, rfl, h1, h2, h3⟩ := gx
      rw [bools_some q] at h2
      have ex := frs_bools h2
      subst ex
      exact via (cr_any hc) I ru ⟨a, bs, rfl, h1, k _ H F (Grown.refl sub) (.bl _)⟩
  | _ => cases e
end PL
/-! PL5: slices, reversal, sorting, items. -/
namespace PL
open PySem PySem.Spec PyProof.Rows L2

/-! ### slices -/
abbrev FP := AS → Option (Option Int × AS)
def oOf (K : PySem.W.Frag) (f : FP) : TO := fun σ H Q => ∃ W F as o as', St2 K W σ H F as ∧ f as = some (o, as') ∧ ∀ H' F', St2 K W σ H' F' as' → SameH F F' → Q o H'
def pNo : FP := fun as => some (none, as)
def pYes (f : FV) : FP := fun as => match f as with
  | some (.int i, as1) => some (some i, as1)
  | _ => none
abbrev QO (X : Cx) (e : Option Expr) (f : FP) : Prop := PO X e (oOf X.K f)
theorem PO.weak {X : Cx} {e : Option Expr} {t t' : TO} (h : PO X e t) (w : ∀ σ H Q, t' σ H Q → t σ H Q) : PO X e t' := ⟨fun pins s σ H Q I q => h.run pins s σ H Q I (w _ _ _ q)⟩
theorem o_no {X : Cx} : QO X none pNo := PO.weak po_none fun σ H Q ⟨W, F, as, o, as', S, e, k⟩ => by
  cases e
  exact k H F S (Same.refl F)
theorem o_yes {X : Cx} {e : Expr} {f : FV} (h : QV X e f) : QO X (some e) (pYes f) := PO.weak (po_some h) fun σ H Q ⟨W, F, as, o, as', S, e, k⟩ => by
  unfold pYes at e
  cases q : f as with
  | none => rw [q] at e; cases e
  | some p =>
    obtain ⟨d, as1⟩ := p
    rw [q] at e
    cases d with
    | int i =>
      cases e
      exact ⟨W, F, as, .int i, as', S, q, fun v H' F' S' m fr => by cases fr; exact ⟨i, rfl, k H' F' S' m⟩⟩
    | _ => cases e
def cut {α : Type} (xs : List α) (lo hi : Option Int) : List α := (xs.drop (HT.sIx xs.length 0 lo)).take (HT.sIx xs.length xs.length hi - HT.sIx xs.length 0 lo)
theorem FRs.cut {K : PySem.W.Frag} {F : Hp} {vs : List V} {ds : List D} (h : FRs K F vs ds) (lo hi : Option Int) : FRs K F (cutV vs lo hi) (PL.cut ds lo hi) := by
  unfold cutV PL.cut
  rw [h.length]
  exact (h.drop _).take _
theorem cut_whole {α : Type} (xs : List α) (lo hi : Option Int) (h : HT.sIx xs.length 0 lo = 0 ∧ HT.sIx xs.length xs.length hi = xs.length) : cut xs lo hi = xs := by
  unfold cut
  rw [h.1, h.2, List.drop_zero, Nat.sub_zero, List.take_length]
def gSl (d : D) (lo hi : Option Int) : Option D := match d with
  | .list ds => some (.list (cut ds lo hi))
  | .tuple ds => some (.tuple (cut ds lo hi))
  | .str x => if x.length ≤ sizeLine then some (.str (cutS x lo hi)) else none
  | _ => none
def rSl (K : PySem.W.Frag) : V → Option Int → Option Int → Hp → VK → Prop := fun x lo hi H Q => ∃ F dx d, SameH F H ∧ GR K H F x dx ∧ gSl dx lo hi = some d ∧ ∀ z H' F', Grown H F H' F' → FR K F' z d → Q z H'
theorem sl_all {X : Cx} : SlR X (rSl X.K) := by
  intro pins s σ H x v vl vu lo hi sl Q I rx hs pl pu ⟨F, dx, d, sub, gx, e, k⟩
  cases dx with
  | list ds =>
    cases e
    obtain ⟨a, xs, rfl, h1, h2, h3⟩ := gx
    have z : (cutV xs lo hi).length ≤ sizeLine := Nat.le_trans (cutV_length xs lo hi) h3
    exact sl_list pins s σ H _ v vl vu lo hi sl Q I rx hs pl pu ⟨a, xs, rfl, h1, fun p hp => k _ _ _ (Grown.one sub hp) (fr_lst (free_of sub hp) (h2.cut lo hi) z)⟩
  | tuple ds =>
    cases e
    obtain ⟨a, xs, rfl, h1, h2, h3⟩ := gx
    have z : (cutV xs lo hi).length ≤ sizeLine := Nat.le_trans (cutV_length xs lo hi) h3
    refine sl_tupA pins s σ H _ v vl vu lo hi sl Q I rx hs pl pu ⟨a, xs, rfl, sqT_mono sub h1, fun w => ?_, fun w p hp => k _ _ _ (Grown.one sub hp) (fr_tup (free_of sub hp) (h2.cut lo hi) z)⟩
    rw [h2.length] at w
    rw [cut_whole ds lo hi w] at k
    exact k _ H F (Grown.refl sub) (.tup h1 h2 h3)
  | str y =>
    cases gx
    dsimp only [gSl] at e
    split at e
    · rename_i z
      cases e
      exact sl_str pins s σ H _ v vl vu lo hi sl Q I rx hs pl pu ⟨y, rfl, z, k _ H F (Grown.refl sub) (.str _)⟩
    · cases e
  | _ => cases e
def fSl (fa : FE) (lo hi : FP) : FV := fun as => match fa as with
  | none => none
  | some (r, as1) => match lo as1 with
    | none => none
    | some (l, as2) => match hi as2 with
      | none => none
      | some (u, as3) => match rd as3 r with
        | none => none
        | some x => match gSl x l u with
          | some d => some (d, as3)
          | none => none
theorem q_sl {X : Cx} {e : Expr} {lo hi : Option Expr} {f : FE} {fl fh : FP} {p2 pos : Pos} (he : QE X e f) (hl : QO X lo fl) (hh : QO X hi fh) : QV X (.Subscript e (.Slice lo hi none p2) pos) (fSl f fl fh) := PE.weak (pe_slice sl_all he hl hh) fun σ H Q ⟨W, F, as, d, as', S, e, k⟩ => by
  unfold fSl at e
  cases q : f as with
  | none => rw [q] at e; cases e
  | some p =>
    obtain ⟨r, as1⟩ := p
    rw [q] at e
    dsimp only at e
    cases q2 : fl as1 with
    | none => rw [q2] at e; cases e
    | some p2 =>
      obtain ⟨l, as2⟩ := p2
      rw [q2] at e
      dsimp only at e
      cases q3 : fh as2 with
      | none => rw [q3] at e; cases e
      | some p3 =>
        obtain ⟨u, as3⟩ := p3
        rw [q3] at e
        dsimp only at e
        cases q4 : rd as3 r with
        | none => rw [q4] at e; cases e
        | some x =>
          rw [q4] at e
          dsimp only at e
          cases q5 : gSl x l u with
          | none => rw [q5] at e; cases e
          | some d' =>
            rw [q5] at e
            cases e
            exact ⟨W, F, as, r, as1, S, q, fun v H1 F1 S1 m1 r1 => ⟨W, F1, as1, l, as2, S1, q2, fun H2 F2 S2 m2 => ⟨W, F2, as2, u, as', S2, q3, fun H3 F3 S3 m3 =>
              ⟨F3, x, d, S3.sub, S3.rd (r1.mono (m2.trans m3)) q4, q5, fun z H4 F4 G fr => k z H4 F4 (G.st S3) (((m1.trans m2).trans m3).trans G.ff) fr⟩⟩⟩⟩

/-! ### xs[::-1] -/
theorem fm_congr {α β : Type} {f g : α → Option β} : ∀ {l : List α}, (∀ x ∈ l, f x = g x) → l.filterMap f = l.filterMap g
  | [], _ => rfl
  | x :: l, h => by
    rw [List.filterMap_cons, List.filterMap_cons, h x List.mem_cons_self, fm_congr (l := l) fun y hy => h y (List.mem_cons_of_mem _ hy)]
theorem pick_back (xs : Array Value) : (List.range xs.size).filterMap (fun (m : Nat) => xs[(((xs.size : Int) - 1) + (m : Int) * (-1)).toNat]?) = xs.toList.reverse := by
  apply List.ext_getElem?
  intro i
  have key : ∀ (n : Nat) (ys : List Value), ys.length = n → (List.range n).filterMap (fun (m : Nat) => ys[n - 1 - m]?) = ys.reverse := by
    intro n ys hn
    have e : (List.range n).filterMap (fun (m : Nat) => ys[n - 1 - m]?) = (List.range n).filterMap (fun (m : Nat) => ys.reverse[m]?) := by
      apply fm_congr
      intro m hm
      have hm' := List.mem_range.mp hm
      rw [List.getElem?_reverse (by omega), hn]
    rw [e]
    have e2 : ∀ zs : List Value, (List.range zs.length).filterMap (fun (m : Nat) => zs[m]?) = zs := by
      intro zs
      induction zs with
      | nil => rfl
      | cons z zs ih =>
        rw [List.length_cons, List.range_succ_eq_map, List.filterMap_cons, List.getElem?_cons_zero]
        simp only [List.filterMap_map]
        congr 1
    rw [← hn, ← List.length_reverse]
    exact e2 _
  rw [← key xs.size xs.toList (Array.length_toList)]
  congr 1
  apply fm_congr
  intro m hm
  have hm' := List.mem_range.mp hm
  have e3 : (((xs.size : Int) - 1) + (m : Int) * (-1)).toNat = xs.size - 1 - m := by omega
  rw [e3, Array.getElem?_toList]
theorem sliceApplied_back {prog : Program} {w : World} {A : Around} {E : Value → Shared → Prop} {s : Shared} {sl : Addr} {vl vu vs : Value} {n : Nat} {Q : Int × Int × Nat → Shared → Prop} (hs : s.heap.IsSliceOf sl vl vu vs) (pl : IsPart vl none) (pu : IsPart vu none) (ps : IsPart vs (some (-1)))
    (h : Q ((n : Int) - 1, -1, n) s) : wpAny (model prog w) A (Builtin.Slice.sliceApplied (.ref sl) (pure (n : Int))) Q E s := by
  obtain ⟨os, hos, hcs, hds⟩ := id hs
  unfold Builtin.Slice.sliceApplied Builtin.Slice.sliceFields
  refine wpAny_bind (wpAny_bind (wpAny_field hos hds (x := vl) rfl (wpAny_bind (wpAny_field hos hds (x := vu) rfl (wpAny_bind (wpAny_field hos hds (x := vs) rfl (wpAny_pure ?_)))))))
  refine wpAny_bind (HT.slicePart_ ps ?_)
  show wpAny _ _ (if ((-1 : Int) == 0) = true then _ else _) _ _ s
  rw [if_neg (by decide)]
  refine wpAny_bind (HT.slicePart_ pl (wpAny_bind (HT.slicePart_ pu (wpAny_bind (wpAny_pure ?_)))))
  show wpAny _ _ (pure ((n : Int) - 1, (-1 : Int), Builtin.Slice.slicePlaces ((n : Int) - 1) (-1) (-1))) _ _ s
  have e : Builtin.Slice.slicePlaces ((n : Int) - 1) (-1) (-1) = n := by
    unfold Builtin.Slice.slicePlaces
    rw [if_neg (by decide)]
    have e1 : -(-1 : Int) = 1 := by decide
    by_cases z : (n : Int) - 1 > -1
    · rw [if_pos z, e1, Int.ediv_one]
      omega
    · rw [if_neg z]
      have : n = 0 := by omega
      rw [this] <;> rfl
  rw [e]
  exact wpAny_pure h
theorem getItem_tuple_back {prog : Program} {w : World} {A : Around} {E : Value → Shared → Prop} {s : Shared} {t sl : Addr} {items : Array Value} {vl vu vs : Value} {Q : Value → Shared → Prop} (ht : IsTup s.heap t items) (hs : s.heap.IsSliceOf sl vl vu vs) (pl : IsPart vl none) (pu : IsPart vu none) (ps : IsPart vs (some (-1)))
    (h : Q (.ref s.heap.objs.size) { s with heap := s.heap.push { cls := .type "tuple", data := .seq items.toList.reverse.toArray } })
    (hsz : items.size ≤ sizeLine) : wpAny (model prog w) A (getItem (.ref t) (.ref sl)) Q E s := by
  have htake : sizeOk (.seq items.toList.reverse.toArray) := by
    show items.toList.reverse.toArray.size ≤ sizeLine
    rw [List.size_toArray, List.length_reverse, Array.length_toList]
    exact hsz
  obtain ⟨os, hos, hcs, hds⟩ := id hs
  have hTs : s.TypeIs (.ref sl) "slice" := ⟨os, hos, hcs⟩
  unfold getItem
  try with_reducible refine wpAny_holding ?_
  first | refine wpAny_bind (wpAny_pure ?_) | skip
  refine wpAny_bind (wpAny_sequenceKey ht.typeIs (by decide) ?_)
  refine wpAny_bind (wpAny_callSpecial?_slot (name := Str.ofString "__getitem__") ht.typeIs PyProof.Rows.slot_tuple_getitem
    (wpAny_call_entry PyProof.Rows.slot_tuple_getitem ht.typeIs entry_tuple_getitem ?_ (args_tuple_getitem _ _)))
  show wpAny _ _ (Builtin.Tuple.tupleItemsOf (.ref t) >>= _) _ _ s
  refine wpAny_bind (tupleItemsOf_ ht ?_)
  refine wpAny_bind (wpAny_typeOf hTs ?_)
  rw [if_pos (by decide)]
  refine wpAny_bind (sliceApplied_back hs pl pu ps ?_)
  have hno : ¬ ((((items.size : Int) - 1) == 0 && (-1 : Int) == 1 && items.size == items.size) = true) := by
    intro q
    rw [Bool.and_eq_true, Bool.and_eq_true] at q
    exact absurd q.1.2 (by decide)
  show wpAny _ _ (if (((items.size : Int) - 1) == 0 && (-1 : Int) == 1 && items.size == items.size) = true then _ else _) _ _ s
  rw [if_neg hno, pick_back]
  first
    | exact wpAny_bind (m := Builtin.Tuple.tupleExact _) (wpAny_newObj_type (wpAny_pure ⟨_, rfl, wpAny_pure h⟩) htake)
    | exact wpAny_bind (m := Builtin.Tuple.tupleExact _) (wpAny_newObj_type (wpAny_bind (wpAny_pure (wpAny_pure ⟨_, rfl, wpAny_pure h⟩))) htake)
    | exact wpAny_bind (wpAny_bind (m := Builtin.Tuple.tupleExact _) (wpAny_newObj_type (wpAny_pure (wpAny_pure ⟨_, rfl, wpAny_pure h⟩)) htake))
    | exact wpAny_bind (wpAny_bind (m := Builtin.Tuple.tupleExact _) (wpAny_newObj_type (wpAny_pure ⟨_, rfl, wpAny_pure h⟩) htake))
def gRev : D → Option D
  | .list ds => some (.list ds.reverse)
  | .tuple ds => some (.tuple ds.reverse)
  | _ => none
theorem pe_back {X : Cx} {e : Expr} {te : TE} {k : Nat} {p1 p2 p3 pos : Pos} (he : PE X e te) : PE X (.Subscript e (.Slice none none (some (.UnaryOp .USub (.Constant (.int 1) k p1) p2)) p3) pos) (tUn (uG X.K gRev) te) := by
  refine ⟨fun pins s σ H Q I h => ?_⟩
  refine Subscript_ (thn (he.run pins s σ H _ I h) fun v s1 ⟨x, H1, I1, r1, q1⟩ => ?_)
  obtain ⟨F, dx, d, sub, gx, e0, k0⟩ := q1
  have hst : PO X (some (.UnaryOp .USub (.Constant (.int 1) k p1) p2)) (tPart (tUn (rU fun i => .int (-i)) (tC (.int 1)))) := po_some (pe_un un_neg pe_int)
  refine wpAny_Slice (thn (po_none.run pins s1 σ H1 (fun o H2 => o = none ∧ H2 = H1) I1 ⟨rfl, rfl⟩) fun vl s2 ⟨l, H2, I2, pl, el, e2⟩ => ?_)
  subst el e2
  refine thn (po_none.run pins s2 σ H2 (fun o H3 => o = none ∧ H3 = H2) I2 ⟨rfl, rfl⟩) fun vu s3 ⟨u, H3, I3, pu, eu, e3⟩ => ?_
  subst eu e3
  refine thn (hst.run pins s3 σ H3 (fun o H4 => o = some (-1) ∧ H4 = H3) I3 ⟨1, rfl, -1, rfl, rfl, rfl⟩) fun vs s4 ⟨o, H4, I4, ps, eo, e4⟩ => ?_
  subst eo e4
  have I5 : L2.Inv X pins σ H4 { s4 with heap := s4.heap.push { cls := .type "slice", data := .fields #[vl, vu, vs] } } := I4.kept (t' := s4.toks) fun b ob q => Heap.get?_push_of_some _ q
  cases dx with
  | list ds =>
    cases e0
    obtain ⟨a, xs, rfl, h1, h2, h3⟩ := gx
    cases r1
    obtain ⟨its, r, ht, hz⟩ := I5.list h1
    have hlen := r.length
    show wpAny (model X.prog X.w) X.A (subscriptTail e (.Slice none none (some (.UnaryOp .USub (.Constant (.int 1) k p1) p2)) p3) (.ref a) (.ref s4.heap.objs.size)) (EP X pins σ Q) X.xe { s4 with heap := s4.heap.push { cls := .type "slice", data := .fields #[vl, vu, vs] } }
    refine tail_any (ops := [.ref a, .ref s4.heap.objs.size]) ht.isList.typeIs (PySem.slot_list_getitem.lookup) ?_ (by with_unfolding_all rfl)
    refine wpAny_getItem_list_slice ht.isList (Heap.IsSliceOf.new _ vl vu vs) pl pu ps (by decide) ?_ (by rw [List.size_toArray]; omega)
    rw [PySem.W.krv_pick]
    have hp := I5.hok.fresh (Nat.le_refl _)
    have z : xs.reverse.length ≤ sizeLine := by rw [List.length_reverse]; exact hz
    refine ⟨.ref _, _, I5.laid (t' := s4.toks) (o := .lst xs.reverse) (fun b ob q => Heap.get?_push_of_some _ q) (Nat.le_refl _) ?_, rfl, k0 _ _ _ (Grown.one sub hp) (fr_lst (free_of sub hp) h2.reverse z)⟩
    exact ⟨z, _, 0, r.reverse, Heap.get?_push_size _ rfl⟩
  | tuple ds =>
    cases e0
    obtain ⟨a, xs, rfl, h1, h2, h3⟩ := gx
    cases r1
    obtain ⟨its, r, ht, hz⟩ := I5.tuple (sqT_mono sub h1)
    have hlen := r.length
    show wpAny (model X.prog X.w) X.A (subscriptTail e (.Slice none none (some (.UnaryOp .USub (.Constant (.int 1) k p1) p2)) p3) (.ref a) (.ref s4.heap.objs.size)) (EP X pins σ Q) X.xe { s4 with heap := s4.heap.push { cls := .type "slice", data := .fields #[vl, vu, vs] } }
    refine tail_any (ops := [.ref a, .ref s4.heap.objs.size]) ht.typeIs PyProof.Rows.slot_tuple_getitem.lookup ?_ (by with_unfolding_all rfl)
    have hp := I5.hok.fresh (Nat.le_refl _)
    have z : xs.reverse.length ≤ sizeLine := by rw [List.length_reverse]; exact hz
    refine getItem_tuple_back ht (Heap.IsSliceOf.new _ vl vu vs) pl pu ps ?_ (by rw [List.size_toArray]; omega)
    refine ⟨.ref _, _, I5.laid (t' := s4.toks) (o := .tup xs.reverse) (fun b ob q => Heap.get?_push_of_some _ q) (Nat.le_refl _) ?_, rfl, k0 _ _ _ (Grown.one sub hp) (fr_tup (free_of sub hp) h2.reverse z)⟩
    exact ⟨z, _, r.reverse, IsTup.new _ _⟩
  | _ => cases e0
theorem q_back {X : Cx} {e : Expr} {f : FE} {k : Nat} {p1 p2 p3 pos : Pos} (he : QE X e f) : QV X (.Subscript e (.Slice none none (some (.UnaryOp .USub (.Constant (.int 1) k p1) p2)) p3) pos) (fUn gRev f) := PE.weak (pe_back he) un_weak

/-! ### sorted -/
def sortOk (ds : List D) : Bool := PyData.plainAll ds && ds.all (fun x => ds.all fun y => PySem.W.alike x y) && decide (PyData.depthAll ds ≤ 60) &&
  (ds.all (fun x => match x with | .tuple (_ :: _) => true | _ => false) || ds.all (fun x => match x with | .tuple _ => false | .none => false | _ => true))
def sortD (ds : List D) : List D := ds.mergeSort (PySem.W.dataLe false id)
def gSort : D → Option D
  | .list ds => if sortOk ds = true then some (.list (sortD ds)) else none
  | .tuple ds => if sortOk ds = true then some (.list (sortD ds)) else none
  | .dict ks => if (hdK ks && sortOk (ks.map Prod.fst)) = true then some (.list (sortD (ks.map Prod.fst))) else none
  | _ => none
end PL
/-! PL6: sorting. -/
namespace PL
open PySem PySem.Spec PyProof.Rows L2

theorem sortOk_iff {ds : List D} (h : sortOk ds = true) : PyData.plainAll ds = true ∧ PySem.W.AllAlike ds ∧ PyData.depthAll ds ≤ 60 ∧ PySem.W.Sortable ds := by
  simp only [sortOk, Bool.and_eq_true, Bool.or_eq_true, List.all_eq_true, decide_eq_true_eq] at h
  obtain ⟨⟨⟨h1, h2⟩, h3⟩, h4⟩ := h
  refine ⟨h1, fun d hd d' hd' => h2 d hd d' hd', h3, ?_⟩
  rcases h4 with h4 | h4
  · refine .inl fun d hd => ?_
    have z := h4 d hd
    cases d with
    | tuple xs =>
      cases xs with
      | nil => exact absurd z Bool.false_ne_true
      | cons x r => exact ⟨x, r, rfl⟩
    | _ => exact absurd z Bool.false_ne_true
  · refine .inr fun d hd => ?_
    have z := h4 d hd
    cases d with
    | tuple xs => exact absurd z Bool.false_ne_true
    | none => exact absurd z Bool.false_ne_true
    | _ => exact ⟨fun q => (by cases q), fun xs q => (by cases q)⟩
theorem depth_mem : ∀ {ds : List D} {d : D}, d ∈ ds → d.depth ≤ PyData.depthAll ds
  | [], _, h => by cases h
  | x :: r, d, h => by
    rw [PyData.depthAll]
    rcases List.mem_cons.mp h with e | h
    · subst e
      exact Nat.le_max_left _ _
    · exact Nat.le_trans (depth_mem h) (Nat.le_max_right _ _)

section
variable {K : PySem.W.Frag} {F : Hp}
theorem each_of : ∀ {vs : List V} {us : List Value} {ds : List D}, Vals vs us → FRs K F vs ds → PySem.W.EachIs (fun u d => ∃ v, RelV v u ∧ FR K F v d) us ds
  | _, _, _, .nil, .nil => .nil
  | _, _, _, .cons r t, .cons f g => .cons ⟨_, r, f⟩ (each_of t g)
theorem of_each : ∀ {us : List Value} {ds : List D}, PySem.W.EachIs (fun u d => ∃ v, RelV v u ∧ FR K F v d) us ds → ∃ vs, Vals vs us ∧ FRs K F vs ds
  | _, _, .nil => ⟨[], .nil, .nil⟩
  | _, _, .cons ⟨v, r, f⟩ t => by
    obtain ⟨vs, h1, h2⟩ := of_each t
    exact ⟨v :: vs, .cons r h1, .cons f h2⟩
end
theorem plain_mem : ∀ {ds : List D} {d : D}, PyData.plainAll ds = true → d ∈ ds → d.plain = true
  | [], _, _, h => by cases h
  | x :: r, d, p, h => by
    simp only [PyData.plainAll, Bool.and_eq_true] at p
    rcases List.mem_cons.mp h with e | h
    · subst e
      exact p.1
    · exact plain_mem p.2 h
section
variable {X : Cx} {pins : List (Addr × Obj)} {σ : Sg} {H F : Hp} {s : Shared}
/-- the rest of sorted(..) once its items are gathered -/
theorem sort_tail (hu : X.A.units + 64 < cLine) (I : L2.Inv X pins σ H s) (sub : SameH F H) {h' : Heap} {tk : Nat} (hk : ∀ b o, s.heap.get? b = some o → h'.get? b = some o) {its : List Value} {xs : List V} {ds : List D} (rv : Vals xs its) (fr : FRs X.K F xs ds) (ok : sortOk ds = true) (hz : ds.length ≤ sizeLine) {Q : VK}
    (k : ∀ p o, H p = none → OR X.K (upd H p o) F p (.list (sortD ds)) → Q (.ref p) (upd H p o)) :
    wpAny (model X.prog X.w) X.A.in1 (do
      let l ← newList its
      let _ ← holding [l] (call (.builtin "list.sort") [l] [])
      ret l) (fun fin s' => ∃ v, fin = .done (.ret v) ∧ EP X pins σ Q v s') X.xe { s with heap := h', toks := tk } := by
  obtain ⟨h1, h2, h3, h4⟩ := sortOk_iff ok
  have I1 : L2.Inv X pins σ H { s with heap := h', toks := tk } := I.kept hk
  have hl : its.length = ds.length := by rw [← rv.length, fr.length]
  refine wpAny_bind (wpAny_newList ?_ (by rw [hl]; exact hz))
  have hoL : (h'.push (seqObj "list" its.toArray 0)).get? h'.objs.size = some (seqObj "list" its.toArray 0) := Heap.get?_push_size _ rfl
  show wpAny _ _ _ _ _ { s with heap := h'.push (seqObj "list" its.toArray 0), toks := tk }
  have each : PySem.W.EachIs (fun u d => (∃ v, RelV v u ∧ FR X.K F v d)) its ds := each_of rv fr
  have er : PySem.W.EachIs (fun v b => ∃ as, Reads (PySem.W.sortingHeap (h'.push (seqObj "list" its.toArray 0)) h'.objs.size its) v (id b) as) its ds := by
    have e2 := (PySem.W.each_mem each).mono (R' := fun v b => ∃ as, Reads (PySem.W.sortingHeap (h'.push (seqObj "list" its.toArray 0)) h'.objs.size its) v (id b) as) fun u d ⟨⟨v, r, f⟩, hd⟩ => by
      obtain ⟨as, rr⟩ := fr_reads I1 sub f (plain_mem h1 hd) r
      exact ⟨as, PyProof.Rows.Reads.keeps (fun b o q => PySem.W.sortingHeap_old (Nat.ne_of_lt (Heap.lt_size q)) (Heap.get?_push_of_some _ q)) rr⟩
    exact e2
  have S : PySem.W.SortsAt X.prog X.w X.A.in1.in1 { s with heap := PySem.W.sortingHeap (h'.push (seqObj "list" its.toArray 0)) h'.objs.size its, toks := tk } (PySem.W.dataKind (PySem.W.sortingHeap (h'.push (seqObj "list" its.toArray 0)) h'.objs.size its) ds) its :=
    PySem.W.SortsAt.data er h2 h4 fun d hd => by
      have := depth_mem hd
      show X.A.units + 1 + 1 + d.depth < cLine
      omega
  refine wpAny_bind (wpAny_holding (wpAny_call_entry PyProof.Rows.slot_list_sort ⟨_, hoL, rfl⟩ PyProof.Rows.entry_list_sort
    (PySem.W.list_sort_vals hoL S (by rw [hl]; exact hz) ⟨_, rfl, ?_⟩) (PyProof.Rows.args_list_sort _)))
  have h2' : PySem.W.AllAlike (ds.map id) := by rw [List.map_id]; exact h2
  obtain ⟨vs, g1, g2⟩ := of_each (PySem.W.sortVals_data (enc := id) false each er h2')
  rw [List.map_id] at g1
  obtain ⟨e', he'⟩ := PyProof.Rows.sortedHeap_at (vs := its) (out := (PySem.W.sortVals (PySem.W.dataKind (PySem.W.sortingHeap (h'.push (seqObj "list" its.toArray 0)) h'.objs.size its) ds) false its its).toArray) hoL
  have hlen : vs.length ≤ sizeLine := by
    rw [g2.length, List.length_mergeSort]
    exact hz
  refine wpAny_pure ⟨_, rfl, .ref h'.objs.size, upd H h'.objs.size (.lst vs), I1.laid (t' := tk) (fun b u e => ?_) (Nat.le_refl _)
    (show ObjOk X.prog X.w _ _ _ (.lst vs) from ⟨hlen, _, e', g1, he'⟩), rfl, k _ _ (I1.hok.fresh (Nat.le_refl _)) (or_lst g2 hlen)⟩
  have hb : b < h'.objs.size := Heap.lt_size e
  rw [PyProof.Rows.sortedHeap_old (Nat.ne_of_lt hb) (by rw [size_push']; exact Nat.lt_succ_of_lt hb)]
  exact Heap.get?_push_of_some _ e
end
theorem c_sort {X : Cx} (hc : X.calm = true) (hu : X.A.units + 64 < cLine) : CallR X (.builtin "sorted") (lN X.K (g1 gSort)) := c_oneN fun pins s σ H x u Q I ru ⟨F, d, d', sub, gx, e, k⟩ => by
  have start : ∀ (v : Value), wpAny (model X.prog X.w) X.A.in1 (collect v >>= fun its => (do
      let l ← newList its
      let _ ← holding [l] (call (.builtin "list.sort") [l] [])
      ret l)) (fun fin s' => ∃ v, fin = .done (.ret v) ∧ EP X pins σ Q v s') X.xe s → wpAny (model X.prog X.w) X.A (call (.builtin "sorted") [v]) (EP X pins σ Q) X.xe s := fun v h => by
    refine Calls.call_function_entry PyProof.Rows.kind_sorted PyProof.Rows.plain_sorted PyProof.Rows.entry_sorted (PyProof.Rows.args_sorted1 _) ?_
    unfold Builtin.«sorted»
    exact wpAny_bind (m := checkCount "sorted" 1 1 _) (wpAny_pure h)
  cases d with
  | list ds =>
    dsimp only [gSort] at e
    split at e
    · rename_i ok
      cases e
      obtain ⟨a, xs, rfl, h1, h2, h3⟩ := gx
      cases ru
      obtain ⟨its, r, pl, hz⟩ := I.list h1
      obtain ⟨o, ho, hcl, n, hd⟩ := pl.isList
      have hz' : its.toArray.size ≤ sizeLine := by rw [List.size_toArray, ← r.length]; exact hz
      exact start _ (wpAny_bind (wpAny_collect_seq a (.inl rfl) ho hcl hd (fun h' hk => sort_tail hu I sub (tk := s.toks) hk r h2 ok (by rw [← h2.length]; exact h3) k) hz'))
    · cases e
  | tuple ds =>
    dsimp only [gSort] at e
    split at e
    · rename_i ok
      cases e
      obtain ⟨a, xs, rfl, h1, h2, h3⟩ := gx
      cases ru
      obtain ⟨its, r, ⟨o, ho, hcl, n, hd⟩, hz⟩ := I.tuple (sqT_mono sub h1)
      have hz' : its.toArray.size ≤ sizeLine := by rw [List.size_toArray, ← r.length]; exact hz
      exact start _ (wpAny_bind (wpAny_collect_seq a (.inr rfl) ho hcl hd (fun h' hk => sort_tail hu I sub (tk := s.toks) hk r h2 ok (by rw [← h2.length]; exact h3) k) hz'))
    · cases e
  | dict ks =>
    dsimp only [gSort] at e
    split at e
    · rename_i ok
      cases e
      obtain ⟨ok1, ok⟩ := Bool.and_eq_true_iff.mp ok
      rcases gx with ⟨a, kvs, rfl, h1, h2, h3, h4⟩ | ⟨a, rfl, xs, h1, h2, h3, h4, h5, h6⟩
      rotate_left
      · rw [frt_hdK h2 h6] at ok1; cases ok1
      cases ru
      obtain ⟨z, lo, vs, rel, dd⟩ := dk_rd I.hok h1
      obtain ⟨ep, hat⟩ := dd.dictAt
      have ek : (kvs.map fun kv => kV kv.1) = vs.map fun p => kV p.1 := by
        have e := congrArg (List.map kV) rel.keys
        rw [List.map_map, List.map_map] at e
        exact e
      refine start _ (wpAny_bind (PySem.W.kdu_collect (A := X.A.in1) (PySem.W.kdl_dict (knd := mixKind X.prog X.w) (kvs := vs) (ep := ep) lo) (I.ok.hd hc) hat (by rw [← rel.length]; exact h4) fun h' tk acc hk hacc => ?_))
      have hv : Vals (vs.map fun p => kV p.1) acc.toList := keys_at (by rw [Array.length_toList]; exact hacc.1) fun j v e => hacc.2 j v (by rw [← Array.getElem?_toList]; exact e)
      exact sort_tail hu I sub hk hv (by rw [← ek]; exact frs_keys h2) ok (by rw [List.length_map, ← h2.length]; exact h4) k
    · cases e
  | _ => cases e
end PL
/-! PL7: statements. -/
namespace PL
open PySem PySem.Spec PyProof.Rows L2

inductive Fl where
  | nx (as : AS)
  | rt (d : D) (as : AS)
  | bk (as : AS)
  | ct (as : AS)
abbrev FS := AS → Option Fl
def EndOk (K : PySem.W.Frag) (W : W0) (N : Ends) (F : Hp) : Fl → Prop
  | .nx as => ∀ σ' H' F', St2 K W σ' H' F' as → SameH F F' → N.nx σ' H'
  | .rt d as => ∀ v σ' H' F', St2 K W σ' H' F' as → SameH F F' → FR K F' v d → N.rt v H'
  | .bk as => ∀ σ' H' F', St2 K W σ' H' F' as → SameH F F' → N.bk σ' H'
  | .ct as => ∀ σ' H' F', St2 K W σ' H' F' as → SameH F F' → N.ct σ' H'
theorem EndOk.mono {K : PySem.W.Frag} {W : W0} {N : Ends} {F F' : Hp} {fl : Fl} (m : SameH F F') (h : EndOk K W N F fl) : EndOk K W N F' fl := by
  cases fl with
  | nx as => exact fun σ' H' F2 S m2 => h σ' H' F2 S (m.trans m2)
  | rt d as => exact fun v σ' H' F2 S m2 fr => h v σ' H' F2 S (m.trans m2) fr
  | bk as => exact fun σ' H' F2 S m2 => h σ' H' F2 S (m.trans m2)
  | ct as => exact fun σ' H' F2 S m2 => h σ' H' F2 S (m.trans m2)
def sOf (K : PySem.W.Frag) (f : FS) : TS := fun N σ H => ∃ W F as fl, St2 K W σ H F as ∧ f as = some fl ∧ EndOk K W N F fl
abbrev QS (X : Cx) (st : Stmt) (f : FS) : Prop := PS X st (sOf X.K f)
abbrev QSs (X : Cx) (st : List Stmt) (f : FS) : Prop := PSs X st (sOf X.K f)
theorem PS.weak {X : Cx} {st : Stmt} {t t' : TS} (h : PS X st t) (w : ∀ N σ H, t' N σ H → t N σ H) : PS X st t' := ⟨fun pins s σ H N I q => h.run pins s σ H N I (w _ _ _ q)⟩
theorem PSs.weak {X : Cx} {st : List Stmt} {t t' : TS} (h : PSs X st t) (w : ∀ N σ H, t' N σ H → t N σ H) : PSs X st t' := ⟨fun pins s σ H N I q => h.run pins s σ H N I (w _ _ _ q)⟩

def fSkip : FS := fun as => some (.nx as)
def fSeq (f g : FS) : FS := fun as => match f as with
  | some (.nx as1) => g as1
  | r => r
def fIf (c : FB) (f g : FS) : FS := fun as => match c as with
  | some (true, as1) => f as1
  | some (false, as1) => g as1
  | none => none
def fRet (f : FV) : FS := fun as => match f as with
  | some (d, as1) => some (.rt d as1)
  | none => none
def fRetN : FS := fun as => some (.rt .none as)
def fDrop (f : FV) : FS := fun as => match f as with
  | some (_, as1) => some (.nx as1)
  | none => none
def fSet (i : Nat) (f : FV) : FS := fun as => match f as with
  | some (d, as1) => some (.nx (as1.set i (.fz d)))
  | none => none
def fSetN (i : Nat) (f : FV) : FS := fun as => match f as with
  | some (d, as1) => some (.nx (as1.set i (.ow d)))
  | none => none

section
variable {K : PySem.W.Frag} {W : W0} {σ σ' : Sg} {H H' F F' : Hp} {as as' : AS}
theorem set_out {α : Type} {l : List α} {i : Nat} {x : α} (h : ¬ i < l.length) : l.set i x = l := List.set_eq_of_length_le (Nat.le_of_not_lt h)
theorem St2.put (S : St2 K W σ H F as) {i : Nat} {v : V} {d : D} (fr : FR K F v d) : St2 K W (σ.set i (some v)) H F (as.set i (.fz d)) := by
  by_cases l : i < σ.length
  · exact S.store fr l
  · rw [set_out l, set_out (by rw [S.len]; exact l)]
    exact S
theorem St2.putO (S : St2 K W σ H F as) {i : Nat} {p : Addr} {d : D} (fp : F p = none) (old : W.H p = none) (o : OR K H F p d) (no : Nobody σ as p) : St2 K W (σ.set i (some (.ref p))) H F (as.set i (.ow d)) := by
  by_cases l : i < σ.length
  · exact S.storeO fp old o no l
  · rw [set_out l, set_out (by rw [S.len]; exact l)]
    exact S
end

section
variable {X : Cx} {st : Stmt} {rest : List Stmt} {e : Expr} {f g : FS} {fv : FV} {fc : FB} {pos : Pos}
theorem s_nil : QSs X [] fSkip := PSs.weak pss_nil fun N σ H ⟨W, F, as, fl, S, e, k⟩ => by
  cases e
  exact k σ H F S (Same.refl F)
theorem s_one (h : QS X st f) : QSs X [st] f := pss_one h
theorem s_cons (h : QS X st f) (t : QSs X rest g) : QSs X (st :: rest) (fSeq f g) := PSs.weak (pss_cons h t) fun N σ H ⟨W, F, as, fl, S, e, k⟩ => by
  unfold fSeq at e
  cases q : f as with
  | none => rw [q] at e; cases e
  | some f1 =>
    rw [q] at e
    cases f1 with
    | nx as1 => exact ⟨W, F, as, .nx as1, S, q, fun σ' H' F' S' m => ⟨W, F', as1, fl, S', e, k.mono m⟩⟩
    | rt d as1 => cases e; exact ⟨W, F, as, _, S, q, k⟩
    | bk as1 => cases e; exact ⟨W, F, as, _, S, q, k⟩
    | ct as1 => cases e; exact ⟨W, F, as, _, S, q, k⟩
theorem s_pass : QS X (.Pass pos) fSkip := PS.weak ps_pass fun N σ H ⟨W, F, as, fl, S, e, k⟩ => by
  cases e
  exact k σ H F S (Same.refl F)
theorem s_break : QS X (.Break pos) (fun as => some (.bk as)) := PS.weak ps_break fun N σ H ⟨W, F, as, fl, S, e, k⟩ => by
  cases e
  exact k σ H F S (Same.refl F)
theorem s_cont : QS X (.Continue pos) (fun as => some (.ct as)) := PS.weak ps_continue fun N σ H ⟨W, F, as, fl, S, e, k⟩ => by
  cases e
  exact k σ H F S (Same.refl F)
theorem s_if {c : Expr} {a b : List Stmt} (hc : QT X c fc) (ha : QSs X a f) (hb : QSs X b g) : QS X (.If c a b pos) (fIf fc f g) := PS.weak (ps_if hc ha hb) fun N σ H ⟨W, F, as, fl, S, e, k⟩ => by
  unfold fIf at e
  cases q : fc as with
  | none => rw [q] at e; cases e
  | some p =>
    obtain ⟨b, as1⟩ := p
    rw [q] at e
    cases b with
    | true => exact ⟨W, F, as, true, as1, S, q, fun H1 F1 S1 m1 => iteT ⟨W, F1, as1, fl, S1, e, k.mono m1⟩⟩
    | false => exact ⟨W, F, as, false, as1, S, q, fun H1 F1 S1 m1 => iteF ⟨W, F1, as1, fl, S1, e, k.mono m1⟩⟩
theorem s_ret (h : QV X e fv) : QS X (.Return (some e) pos) (fRet fv) := PS.weak (ps_ret h) fun N σ H ⟨W, F, as, fl, S, e, k⟩ => by
  unfold fRet at e
  cases q : fv as with
  | none => rw [q] at e; cases e
  | some p =>
    obtain ⟨d, as1⟩ := p
    rw [q] at e
    cases e
    exact ⟨W, F, as, d, as1, S, q, fun v H1 F1 S1 m1 fr => k v σ H1 F1 S1 m1 fr⟩
theorem s_retN : QS X (.Return none pos) fRetN := PS.weak ps_retN fun N σ H ⟨W, F, as, fl, S, e, k⟩ => by
  cases e
  exact k .non σ H F S (Same.refl F) .non
theorem s_drop (h : QV X e fv) (hs : swapsWith e none pos.line X.env = pure false := by rfl) : QS X (.Expr e pos) (fDrop fv) := PS.weak (ps_expr h hs) fun N σ H ⟨W, F, as, fl, S, e, k⟩ => by
  unfold fDrop at e
  cases q : fv as with
  | none => rw [q] at e; cases e
  | some p =>
    obtain ⟨d, as1⟩ := p
    rw [q] at e
    cases e
    exact ⟨W, F, as, d, as1, S, q, fun v H1 F1 S1 m1 fr => k σ H1 F1 S1 m1⟩
theorem set_weak {i : Nat} : ∀ N σ H, sOf X.K (fSet i fv) N σ H → tAsg (vOf X.K fv) (gName i) N σ H := fun N σ H ⟨W, F, as, fl, S, e, k⟩ => by
  unfold fSet at e
  cases q : fv as with
  | none => rw [q] at e; cases e
  | some p =>
    obtain ⟨d, as1⟩ := p
    rw [q] at e
    cases e
    exact ⟨W, F, as, d, as1, S, q, fun v H1 F1 S1 m1 fr => k _ H1 F1 (S1.put fr) m1⟩
theorem setN_weak {i : Nat} : ∀ N σ H, sOf X.K (fSetN i fv) N σ H → tAsg (nOf X.K fv) (gName i) N σ H := fun N σ H ⟨W, F, as, fl, S, e, k⟩ => by
  unfold fSetN at e
  cases q : fv as with
  | none => rw [q] at e; cases e
  | some p =>
    obtain ⟨d, as1⟩ := p
    rw [q] at e
    cases e
    exact ⟨W, F, as, d, as1, S, q, fun p H1 F1 S1 m1 h1 h2 h3 h4 => k _ H1 F1 (S1.putO h1 h2 h3 h4) m1⟩
theorem s_set (i : Nat) {x : Str} {pos' : Pos} (hN : X.N.Nodup) (hi : X.N[i]? = some x) (hx : Loc X.env.scope x) (h : QV X e fv) (hs : swapsWith e (some (.Name x pos')) pos.line X.env = pure false := by rfl) (hf : X.fn x = true ∨ X.env.scope.names.lookup x = some .local := by first | exact .inl rfl | exact .inr rfl | assumption) :
    QS X (.Assign [.Name x pos'] e pos) (fSet i fv) := PS.weak (ps_set hN hi hx h hs hf) set_weak
theorem s_setN (i : Nat) {x : Str} {pos' : Pos} (hN : X.N.Nodup) (hi : X.N[i]? = some x) (hx : Loc X.env.scope x) (h : QN X e fv) (hs : swapsWith e (some (.Name x pos')) pos.line X.env = pure false := by rfl) (hf : X.fn x = true ∨ X.env.scope.names.lookup x = some .local := by first | exact .inl rfl | exact .inr rfl | assumption) :
    QS X (.Assign [.Name x pos'] e pos) (fSetN i fv) := PS.weak (ps_set hN hi hx h hs hf) setN_weak
end

/-! ### two names at once -/
/-- what is being handed over: a frozen value, or a new object of one's own -/
def xOf (K : PySem.W.Frag) : Bool → FV → TE
  | true, f => nOf K f
  | false, f => vOf K f
def xMk : Bool → D → Sl
  | true, d => .ow d
  | false, d => .fz d
abbrev QX (X : Cx) (o : Bool) (e : Expr) (f : FV) : Prop := PE X e (xOf X.K o f)
section
variable {K : PySem.W.Frag} {W : W0} {σ σ' : Sg} {H H' F F' : Hp} {as as' : AS}
theorem Nobody.stays {p : Addr} (n : Nobody σ as p) (S : St2 K W σ H F as) (hp : H p ≠ none) (S' : St2 K (here σ H F as) σ H' F' as') : Nobody σ as' p := fun i s d h1 h2 h3 => by
  have z := S'.slot i s h1
  cases s with
  | un => cases h2
  | fz _ => cases h2
  | ow d' =>
    obtain ⟨a, q1, q2, q3, _⟩ := z
    rw [h3] at q1
    cases q1
    rcases q3 with q3 | ⟨j, e, q4, q5⟩
    · exact hp q3
    · exact n j _ e q4 rfl q5
  | io d' =>
    obtain ⟨a, q1, q2, ⟨j, t, e, q4, q5, q6⟩, _⟩ := z
    rw [h3] at q1
    cases q1
    exact n j t e q4 q5 q6
/-- a value in hand: frozen, or pending -/
def InH (K : PySem.W.Frag) (W : W0) (σ : Sg) (H F : Hp) (as : AS) (v : V) (d : D) : Bool → Prop
  | true => ∃ p, v = .ref p ∧ F p = none ∧ W.H p = none ∧ OR K H F p d ∧ Nobody σ as p
  | false => FR K F v d
theorem InH.stays {v : V} {d : D} {o : Bool} (h : InH K W σ H F as v d o) (S : St2 K W σ H F as) (S' : St2 K (here σ H F as) σ H' F' as') (m : SameH F F') : InH K W σ H' F' as' v d o := by
  cases o with
  | false => exact FR.mono m h
  | true =>
    obtain ⟨p, e, h1, h2, h3, h4⟩ := h
    obtain ⟨u, eu⟩ := Option.ne_none_iff_exists'.mp h3.there
    obtain ⟨q1, q2⟩ := S.stays S' eu h4
    exact ⟨p, e, q2 h1, h2, h3.step (q1.trans eu.symm) m, h4.stays S h3.there S'⟩
theorem St2.putX (S : St2 K W σ H F as) {i : Nat} {v : V} {d : D} {o : Bool} (h : InH K W σ H F as v d o) : St2 K W (σ.set i (some v)) H F (as.set i (xMk o d)) := by
  cases o with
  | false => exact S.put h
  | true =>
    obtain ⟨p, e, h1, h2, h3, h4⟩ := h
    subst e
    exact S.putO h1 h2 h3 h4
theorem x_use {o : Bool} {f : FV} {Q : VK} (S : St2 K W σ H F as) {d : D} (e : f as = some (d, as')) (k : ∀ v H' F', St2 K W σ H' F' as' → SameH F F' → InH K W σ H' F' as' v d o → Q v H') : xOf K o f σ H Q := by
  cases o with
  | false => exact ⟨W, F, as, d, as', S, e, fun v H' F' S' m fr => k v H' F' S' m fr⟩
  | true => exact ⟨W, F, as, d, as', S, e, fun p H' F' S' m h1 h2 h3 h4 => k _ H' F' S' m ⟨p, rfl, h1, h2, h3, h4⟩⟩
end
def fPar (i j : Nat) (o1 o2 : Bool) (f g : FV) : FS := fun as => match f as with
  | none => none
  | some (d1, as1) => match g as1 with
    | none => none
    | some (d2, as2) => some (.nx ((as2.set i (xMk o1 d1)).set j (xMk o2 d2)))
/-- the pair in hand, the second beside the first -/
theorem InH.beside {K : PySem.W.Frag} {W : W0} {σ : Sg} {H H1 F F1 : Hp} {as as1 : AS} {v w : V} {d e : D} {o o' : Bool} {i : Nat} (S : St2 K W σ H F as) (h : InH K W σ H F as v d o) (S1 : St2 K (here σ H F as) σ H1 F1 as1) (m : SameH F F1) (h1 : InH K (here σ H F as) σ H1 F1 as1 w e o') :
    InH K W (σ.set i (some v)) H1 F1 (as1.set i (xMk o d)) w e o' := by
  cases o' with
  | false => exact h1
  | true =>
    obtain ⟨q, eq, q1, q2, q3, q4⟩ := h1
    refine ⟨q, eq, q1, S.dom q q2, q3, fun j s d' g1 g2 g3 => ?_⟩
    rcases get_set g1 with ⟨rfl, rfl, l⟩ | ⟨ne, g1⟩
    · rw [List.getElem?_set_self (by rw [← S1.len]; exact l)] at g3
      cases o with
      | false => cases g2
      | true =>
        obtain ⟨p, ep, p1, p2, p3, p4⟩ := h
        subst ep
        cases g3
        exact p3.there q2
    · rw [List.getElem?_set_ne (Ne.symm ne)] at g3
      exact q4 j s d' g1 g2 g3
section
variable {X : Cx} {pos : Pos}
theorem s_par (i j : Nat) (o1 o2 : Bool) {f g : FV} {x y : Str} {a b : Expr} {px py pt : Pos} {kt k2 pt2} (hc : X.calm = true) (hN : X.N.Nodup) (hi : X.N[i]? = some x) (hj : X.N[j]? = some y) (hij : i ≠ j)
    (hx : X.env.scope.names.lookup x = some .local) (hy : X.env.scope.names.lookup y = some .local) (ha : QX X o1 a f) (hb : QX X o2 b g)
    (hw : swappedStores [.Tuple [.Name x px, .Name y py] kt pt] (.Tuple [a, b] k2 pt2) X.env = pure (some [x, y]))
    (hs : swapsWithSole [.Tuple [.Name x px, .Name y py] kt pt] (.Tuple [a, b] k2 pt2) pos.line X.env = pure false := by rfl)
    (h1 : starEach [a, b] X.env = (false, eval a X.env) :: starEach [b] X.env := by rfl) (h2 : starEach [b] X.env = (false, eval b X.env) :: starEach [] X.env := by rfl) :
    QS X (.Assign [.Tuple [.Name x px, .Name y py] kt pt] (.Tuple [a, b] k2 pt2) pos) (fPar i j o1 o2 f g) := PS.weak (ps_par hc hN hi hj hij hx hy (pa_cons ha (pa_cons hb pa_nil h2) h1) hw hs) fun N σ H ⟨W, F, as, fl, S, e, k⟩ => by
  unfold fPar at e
  cases q : f as with
  | none => rw [q] at e; cases e
  | some p =>
    obtain ⟨d1, as1⟩ := p
    rw [q] at e
    dsimp only at e
    cases q2 : g as1 with
    | none => rw [q2] at e; cases e
    | some p2 =>
      obtain ⟨d2, as2⟩ := p2
      rw [q2] at e
      cases e
      refine x_use S q fun v H1 F1 S1 m1 h1 => x_use (St2.here S1) q2 fun w H2 F2 S2 m2 h2 => ?_
      have S3 := St2.back S1 S2
      have v3 := h1.stays S1 S2 m2
      refine ⟨v, w, rfl, k _ H2 F2 ((S3.putX v3).putX (InH.beside S1 h1 S2 m2 h2)) (m1.trans m2)⟩
end
end PL
/-! PL8: targets, things that change: append, extend, pop, o[i] = v. -/
namespace PL
open PySem PySem.Spec PyProof.Rows L2

/-! ### targets -/
abbrev FG := D → AS → Option AS
/-- two stores that agree but at the places ws -/
def Agree (ws : List Nat) (σ σ' : Sg) : Prop := σ'.length = σ.length ∧ ∀ j, j ∉ ws → σ'[j]? = σ[j]?
theorem Agree.refl (ws : List Nat) (σ : Sg) : Agree ws σ σ := ⟨rfl, fun _ _ => rfl⟩
theorem Agree.trans {ws ws' : List Nat} {σ σ1 σ2 : Sg} (a : Agree ws σ σ1) (b : Agree ws' σ1 σ2) : Agree (ws ++ ws') σ σ2 := ⟨b.1.trans a.1, fun j h => by
  rw [List.mem_append, not_or] at h
  exact (b.2 j h.2).trans (a.2 j h.1)⟩
def gOf (K : PySem.W.Frag) (ws : List Nat) (g : FG) : TG := fun v σ H Q => ∃ W F as d as', St2 K W σ H F as ∧ FR K F v d ∧ g d as = some as' ∧ ∀ σ' H' F', St2 K W σ' H' F' as' → SameH F F' → Agree ws σ σ' → Q σ' H'
abbrev FGs := List D → AS → Option AS
def gsOf (K : PySem.W.Frag) (ws : List Nat) (g : FGs) : TGs := fun vs σ H Q => ∃ W F as ds as', St2 K W σ H F as ∧ FRs K F vs ds ∧ g ds as = some as' ∧ ∀ σ' H' F', St2 K W σ' H' F' as' → SameH F F' → Agree ws σ σ' → Q σ' H'
abbrev QG (X : Cx) (e : Expr) (ws : List Nat) (g : FG) : Prop := PG X e (gOf X.K ws g)
abbrev QGs (X : Cx) (es : List Expr) (ws : List Nat) (g : FGs) : Prop := PGs X es (gsOf X.K ws g)
theorem PG.weak {X : Cx} {e : Expr} {t t' : TG} (h : PG X e t) (w : ∀ v σ H Q, t' v σ H Q → t v σ H Q) : PG X e t' := ⟨fun pins s σ H v u Q I r q => h.run pins s σ H v u Q I r (w _ _ _ _ q)⟩
theorem PGs.weak {X : Cx} {es : List Expr} {t t' : TGs} (h : PGs X es t) (w : ∀ v σ H Q, t' v σ H Q → t v σ H Q) : PGs X es t' := ⟨fun pins s σ H v u Q I r q => h.run pins s σ H v u Q I r (w _ _ _ _ q)⟩
def gN (i : Nat) : FG := fun d as => some (as.set i (.fz d))
def gT (g : FGs) : FG := fun d as => match d with
  | .tuple ds => g ds as
  | _ => none
def gsNil : FGs := fun ds as => match ds with
  | [] => some as
  | _ => none
def gsCons (g : FG) (r : FGs) : FGs := fun ds as => match ds with
  | d :: t => match g d as with
    | some as1 => r t as1
    | none => none
  | _ => none
def fAsg (f : FV) (g : FG) : FS := fun as => match f as with
  | some (d, as1) => match g d as1 with
    | some as2 => some (.nx as2)
    | none => none
  | none => none
section
variable {X : Cx} {e : Expr} {es : List Expr} {pos : Pos} {g : FG} {gs : FGs} {f : FV} {ws ws' : List Nat}
theorem g_name (i : Nat) {x : Str} (hN : X.N.Nodup) (hi : X.N[i]? = some x) (hx : Loc X.env.scope x) (hf : X.fn x = true ∨ X.env.scope.names.lookup x = some .local := by first | exact .inl rfl | exact .inr rfl | assumption) : QG X (.Name x pos) [i] (gN i) :=
  PG.weak (pg_name hN hi hx hf) fun v σ H Q ⟨W, F, as, d, as', S, fr, e, k⟩ => by
    cases e
    exact k _ H F (S.put fr) (Same.refl F) ⟨List.length_set, fun j h => List.getElem?_set_ne fun z => h (by rw [z]; exact List.mem_singleton.mpr rfl)⟩
theorem g_nil : QGs X [] [] gsNil := PGs.weak pgs_nil fun v σ H Q ⟨W, F, as, ds, as', S, fr, e, k⟩ => by
  cases fr with
  | nil =>
    cases e
    exact ⟨rfl, k σ H F S (Same.refl F) (Agree.refl _ _)⟩
  | cons _ _ => cases e
theorem g_cons (h1 : QG X e ws g) (h2 : QGs X es ws' gs) (hs : (assignEach (e :: es) X.env).map (·.2) = assign e X.env :: (assignEach es X.env).map (·.2) := by rfl) : QGs X (e :: es) (ws ++ ws') (gsCons g gs) := PGs.weak (pgs_cons h1 h2 hs) fun v σ H Q ⟨W, F, as, ds, as', S, fr, e, k⟩ => by
  cases fr with
  | nil => cases e
  | @cons v vs d ds fr frs =>
    dsimp only [gsCons] at e
    cases q : g d as with
    | none => rw [q] at e; cases e
    | some as1 =>
      rw [q] at e
      exact ⟨v, vs, rfl, W, F, as, d, as1, S, fr, q, fun σ1 H1 F1 S1 m1 a1 => ⟨W, F1, as1, ds, as', S1, frs.mono m1, e, fun σ2 H2 F2 S2 m2 a2 => k σ2 H2 F2 S2 (m1.trans m2) (a1.trans a2)⟩⟩
/-- (a, b, ..): n of them -/
def gTn (n : Nat) (g : FGs) : FG := fun d as => match d with
  | .tuple ds => if ds.length = n then g ds as else none
  | _ => none
theorem g_tup (n : Nat) {k : Nat} (hc : X.calm = true) (h : QGs X es ws gs) (hn : (assignEach es X.env).length = n := by rfl) (hst : (assignEach es X.env).findIdx? (·.1) = none := by rfl) : QG X (.Tuple es k pos) ws (gTn n gs) :=
  PG.weak (pg_tup hc h hn hst) fun v σ H Q ⟨W, F, as, d, as', S, fr, e, k⟩ => by
    cases fr with
    | @tup a xs ds h1 h2 h3 =>
      dsimp only [gTn] at e
      split at e
      · rename_i z
        exact ⟨a, xs, rfl, sqT_mono S.sub h1, by rw [h2.length]; exact z, W, F, as, ds, as', S, h2, e, k⟩
      · cases e
    | _ => cases e
theorem s_asg {tg : Expr} (he : QV X e f) (hg : QG X tg ws g) (hs : swapsWithSole [tg] e pos.line X.env = pure false := by rfl) (hw : swappedStores [tg] e X.env = pure none := by rfl)
    (h1 : (assignEach [tg] X.env).map (·.2) = [assign tg X.env] := by rfl) : QS X (.Assign [tg] e pos) (fAsg f g) := PS.weak (ps_asg he hg hs hw h1) fun N σ H ⟨W, F, as, fl, S, e, k⟩ => by
  unfold fAsg at e
  cases q : f as with
  | none => rw [q] at e; cases e
  | some p =>
    obtain ⟨d, as1⟩ := p
    rw [q] at e
    dsimp only at e
    cases q2 : g d as1 with
    | none => rw [q2] at e; cases e
    | some as2 =>
      rw [q2] at e
      cases e
      exact ⟨W, F, as, d, as1, S, q, fun v H1 F1 S1 m1 fr => ⟨W, F1, as1, d, as2, S1, fr, q2, fun σ2 H2 F2 S2 m2 _ => k σ2 H2 F2 S2 (m1.trans m2)⟩⟩
end

/-! ### o[i] = v -/
def putKs (k d : D) : List (D × D) → List (D × D)
  | [] => [(k, d)]
  | (a, b) :: r => match dKey a, dKey k with
    | some x, some y => if x = y then (a, d) :: r else (a, b) :: putKs k d r
    | _, _ => (a, b) :: putKs k d r
theorem putK_hd {j k : Key} {w v : V} {r : List (Key × V)} (nd : (((j, w) :: r).map (·.1)).Nodup) : putK ((j, w) :: r) k v = if j = k then (j, v) :: r else (j, w) :: putK r k v := by
  rw [List.map_cons, List.nodup_cons] at nd
  unfold putK
  rw [List.any_cons, List.map_cons]
  by_cases q : j = k
  · subst q
    rw [if_pos rfl, if_pos rfl, decide_eq_true rfl, Bool.true_or, if_pos rfl]
    have e : ∀ l : List (Key × V), j ∉ l.map (·.1) → (l.map fun kv => if kv.1 = j then (kv.1, v) else kv) = l := by
      intro l
      induction l with
      | nil => intro _; rfl
      | cons p l ih =>
        intro h
        rw [List.map_cons, List.mem_cons, not_or] at h
        rw [List.map_cons, if_neg (fun z => h.1 z.symm), ih h.2]
    rw [e r nd.1]
  · rw [if_neg q, if_neg q, decide_eq_false q, Bool.false_or]
    split
    · rfl
    · rfl
theorem frk_put {K : PySem.W.Frag} {F : Hp} {k : Key} {v : V} {d : D} (fr : FR K F v d) : ∀ {kvs : List (Key × V)} {ks : List (D × D)}, FRk K F kvs ks → (kvs.map (·.1)).Nodup → FRk K F (putK kvs k v) (putKs (keyD k) d ks)
  | _, _, .nil, _ => .cons fr .nil
  | _, _, .cons (k := j) (v := w) (d := e) (r := r) (ds := ds) h t, nd => by
    have e1 : putKs (keyD k) d ((keyD j, e) :: ds) = if j = k then (keyD j, d) :: ds else (keyD j, e) :: putKs (keyD k) d ds := by
      show (match dKey (keyD j), dKey (keyD k) with | some x, some y => if x = y then (keyD j, d) :: ds else (keyD j, e) :: putKs (keyD k) d ds | _, _ => (keyD j, e) :: putKs (keyD k) d ds) = _
      rw [keyD_dKey, keyD_dKey]
    rw [e1, putK_hd nd]
    rw [List.map_cons, List.nodup_cons] at nd
    split
    · exact .cons fr t
    · exact .cons h (frk_put fr t nd.2)
theorem nd_put {k : Key} {v : V} {kvs : List (Key × V)} (nd : (kvs.map (·.1)).Nodup) : ((putK kvs k v).map (·.1)).Nodup := by
  by_cases q : (kvs.any fun kv => decide (kv.1 = k)) = true
  · unfold putK
    rw [if_pos q, List.map_map]
    have e : ((fun kv : Key × V => kv.1) ∘ fun kv => if kv.1 = k then (kv.1, v) else kv) = fun kv => kv.1 := by
      funext kv
      show (if kv.1 = k then (kv.1, v) else kv).1 = kv.1
      split <;> rfl
    rw [e]
    exact nd
  · have h : valV kvs k = none := by
      rw [valV_any] at q
      cases z : valV kvs k with
      | none => rfl
      | some x => rw [z] at q; exact (q rfl).elim
    exact nd_putK v nd h
/-- o[k] = d -/
def putD : D → D → D → Option D
  | .list ds, .int i, d => match ixN ds.length i with
    | some j => some (.list (ds.set j d))
    | none => none
  | .dict ks, k, d => match dKey k with
    | some _ => if ks.length < sizeLine then if hdK ks = true then some (.dict (putKs k d ks)) else none else none
    | none => match tKey k with
      | some q => if ks.length < sizeLine then (putT q k d ks).map .dict else none
      | none => none
  | _, _, _ => none
def rPut (K : PySem.W.Frag) : TSet := fun o i v H Q => ∃ F a dk d d0 d1, o = .ref a ∧ F a = none ∧ SameH F H ∧ OR K H F a d0 ∧ GR K H F i dk ∧ FR K F v d ∧ putD d0 dk d = some d1 ∧ ∀ ob, OR K (upd H a ob) F a d1 → Q (upd H a ob)
theorem set_put {X : Cx} (hu : X.A.units + 64 < cLine) : PSet X (rPut X.K) := by
  intro pins s σ H o i v ov iv u Q I ro ri rv ⟨F, a, dk, d, d0, d1, eo, fa, sub, or, gi, fr, e, k⟩
  subst eo
  cases d0 with
  | list ds =>
    cases dk with
    | int z =>
      obtain ⟨xs, h1, h2, h3⟩ := or
      cases gi
      dsimp only [putD] at e
      cases q : ixN ds.length z with
      | none => rw [q] at e; cases e
      | some j =>
        rw [q] at e
        cases e
        exact set_list pins s σ H _ _ v ov iv u _ I ro ri rv ⟨a, xs, z, j, rfl, rfl, h1, by rw [h2.length]; exact q, k _ ⟨_, upd_same, h2.set j fr, by rw [List.length_set]; exact h3⟩⟩
    | _ => cases e
  | dict ks =>
    cases ro
    dsimp only [putD] at e
    cases q : dKey dk with
    | none =>
      rw [q] at e
      dsimp only at e
      cases dk with
      | tuple kd =>
        cases qt : tKey (.tuple kd) with
        | none => rw [qt] at e; cases e
        | some q =>
          rw [qt] at e
          dsimp only at e
          split at e
          rotate_left
          · cases e
          rename_i z
          have gi' := gi
          obtain ⟨bk, kvs0, rfl, g1, g2, g3⟩ := gi'
          cases (show iv = Value.ref bk from ri)
          have frk : FR X.K F (.ref bk) (.tuple kd) := .tup g1 g2 g3
          have fin : ∀ {xs : TKs} {w : Value}, FRt X.K F xs ks → (xs.map (·.1)).Nodup → xs.length = ks.length → (a == sysModules) = false → Mut (H a) → s.heap.DictOfH (tupleKind (numK X.prog X.w)) a xs → RelV v w → wpAny (model X.prog X.w) X.A (setItem (.ref a) (.ref bk) w) (fun _ s' => ∃ H', L2.Inv X pins σ H' s' ∧ Q H') X.xe s := fun {xs w} f1 nd hl lo mu dd rw' => by
            obtain ⟨ds', p1, p2⟩ := frt_put frk qt rw' fr f1 nd
            rw [p1] at e
            cases e
            exact put_T I sub mu dd (by omega) gi qt (by omega) fun s' I' => ⟨_, I', k _ (.inr ⟨_, upd_same, p2, stored_nd nd, Nat.le_trans stored_len (by omega), lo, stored_ne⟩)⟩
          rcases or with ⟨kvs, h1, h2, h3, h4⟩ | ⟨xs, h1, h2, h3, h4, h5, h6⟩
          · cases h2 with
            | nil =>
              obtain ⟨_, lo, vs, rel, o, es, ep, e1, e2, e3, e4, e5, e6⟩ := dk_of I.hok h1
              cases rel
              refine fin .nil List.nodup_nil rfl lo (by rw [h1]; exact True.intro) ⟨o, es, ep, e1, e2, e3, ?_, (fun _ hx => nomatch hx), List.nodup_nil⟩ rv
              generalize es.toList = l at e5 ⊢
              cases e5
              rfl
            | @cons k0 _ _ _ _ _ _ => cases k0 <;> cases e
          · exact fin h2 h3 h2.length h5 (by rw [h1]; exact True.intro) (gt_dict I sub (.inl h1) h2 h3) rv
      | _ => cases e
    | some k' =>
      rw [q] at e
      dsimp only at e
      split at e
      rotate_left
      · cases e
      split at e
      · rename_i z hk0
        cases e
        rcases or with ⟨kvs, h1, h2, h3, h4⟩ | ⟨xs, h1, h2, h3, h4, h5, h6⟩
        rotate_left
        · rw [frt_hdK h2 h6] at hk0; cases hk0
        have hk := kV_of gi q
        subst hk
        have hl : kvs.length < sizeLine := by rw [h2.length]; exact z
        have hz := length_putK kvs k' v
        refine d_setItem (by omega) I (DPut.k h1 hl) ri rv fun s' I' => ⟨_, I', k _ (.inl ⟨_, upd_same, ?_, nd_put h3, by omega⟩)⟩
        rw [dKey_keyD q]
        exact frk_put fr h2 h3
      · cases e
  | _ => exact or.elim
/-- what a slot holds as its own -/
def heldAt (as : AS) (i : Nat) : Option D := match as[i]? with
  | some s => s.held
  | none => none
def putAt (as : AS) (i : Nat) (d : D) : AS := match as[i]? with
  | some s => as.set i (s.put d)
  | none => as
section
variable {K : PySem.W.Frag} {W : W0} {σ : Sg} {H F : Hp} {as : AS}
theorem St2.heldAt (S : St2 K W σ H F as) {i : Nat} {d : D} (h : PL.heldAt as i = some d) : ∃ a, σ[i]? = some (some (.ref a)) ∧ F a = none ∧ OR K H F a d := by
  unfold PL.heldAt at h
  cases q : as[i]? with
  | none => rw [q] at h; cases h
  | some s =>
    rw [q] at h
    have z := S.slot i s q
    cases s with
    | un => cases h
    | fz _ => cases h
    | ow d' =>
      cases h
      obtain ⟨a, h1, h2, _, h3⟩ := z
      exact ⟨a, h1, h2, h3⟩
    | io d' =>
      cases h
      obtain ⟨a, h1, h2, _, _, _, h3⟩ := z
      exact ⟨a, h1, h2, h3⟩
theorem St2.changeAt (S : St2 K W σ H F as) {i : Nat} {d d' : D} {a : Addr} {o : HO} (h : PL.heldAt as i = some d) (ha : σ[i]? = some (some (.ref a))) (new : OR K (upd H a o) F a d') : St2 K W σ (upd H a o) F (putAt as i d') := by
  unfold PL.heldAt at h
  unfold putAt
  cases q : as[i]? with
  | none => rw [q] at h; cases h
  | some s =>
    rw [q] at h
    exact S.change q h ha new
end
/-- the target x[k], x a name -/
def gPut (i : Nat) (fk : FV) : FG := fun d as => match PL.heldAt as i with
  | none => none
  | some _ => match fk as with
    | none => none
    | some (k, as1) => match PL.heldAt as1 i with
      | none => none
      | some d0 => match putD d0 k d with
        | some d1 => some (putAt as1 i d1)
        | none => none
theorem put_weak {K : PySem.W.Frag} {i : Nat} {fk : FV} : ∀ v σ H Q, gOf K [] (gPut i fk) v σ H Q → L2.gSub (tVar i) (vOf K fk) (rPut K) v σ H Q := fun v σ H Q ⟨W, F, as, d, as', S, fr, e, k⟩ => by
  unfold gPut at e
  cases q0 : PL.heldAt as i with
  | none => rw [q0] at e; cases e
  | some dx =>
  rw [q0] at e
  dsimp only at e
  obtain ⟨a, ea, _, _⟩ := S.heldAt q0
  refine ⟨_, ea, ?_⟩
  cases q : fk as with
  | none => rw [q] at e; cases e
  | some p =>
    obtain ⟨dk, as1⟩ := p
    rw [q] at e
    dsimp only at e
    cases q2 : PL.heldAt as1 i with
    | none => rw [q2] at e; cases e
    | some d0 =>
      rw [q2] at e
      dsimp only at e
      cases q4 : putD d0 dk d with
      | none => rw [q4] at e; cases e
      | some d1 =>
        rw [q4] at e
        cases e
        refine ⟨W, F, as, dk, as1, S, q, fun x H1 F1 S1 m1 fx => ?_⟩
        obtain ⟨b, eb, fb, ob⟩ := S1.heldAt q2
        rw [ea] at eb
        cases eb
        exact ⟨F1, a, dk, d, d0, d1, rfl, fb, S1.sub, ob, fx.gr S1.sub, fr.mono m1, q4, fun ob' new => k σ _ F1 (S1.changeAt q2 ea new) m1 (Agree.refl _ _)⟩
section
variable {X : Cx} {pos : Pos}
theorem g_put (i : Nat) {x : Str} {p : Pos} {ek : Expr} {fk : FV} (hu : X.A.units + 64 < cLine) (ho : PE X (.Name x p) (tVar i)) (hk : QV X ek fk) (ha : ∀ v, assign (.Subscript (.Name x p) ek pos) X.env v = (do
      let ov ← holding [v] (eval (.Name x p) X.env)
      let iv ← holding [v, ov] (eval ek X.env)
      standAt pos
      holding [v, ov, iv] (setItem ov iv v)
      release [v, ov, iv] []) := by intro _; rfl) : QG X (.Subscript (.Name x p) ek pos) [] (gPut i fk) := PG.weak (pg_sub ho hk (set_put hu) ha) put_weak
end

/-! ### x.append(e), x.extend(new), x.pop(), x.pop(i) -/
def heldL (as : AS) (i : Nat) : Option (List D) := match PL.heldAt as i with
  | some (.list ds) => some ds
  | _ => none
theorem heldL_at {as : AS} {i : Nat} {ds : List D} (h : heldL as i = some ds) : PL.heldAt as i = some (.list ds) := by
  unfold heldL at h
  cases q : PL.heldAt as i with
  | none => rw [q] at h; cases h
  | some d =>
    rw [q] at h
    cases d with
    | list xs => cases h; rfl
    | _ => cases h
theorem St2.heldL {K : PySem.W.Frag} {W : W0} {σ : Sg} {H F : Hp} {as : AS} (S : St2 K W σ H F as) {i : Nat} {ds : List D} (h : PL.heldL as i = some ds) : ∃ a xs, σ[i]? = some (some (.ref a)) ∧ F a = none ∧ H a = some (.lst xs) ∧ FRs K F xs ds ∧ xs.length ≤ sizeLine ∧ tyV K "list" (.ref a) H := by
  obtain ⟨a, h1, h2, xs, h3, h4, h5⟩ := S.heldAt (heldL_at h)
  exact ⟨a, xs, h1, h2, h3, h4, h5, .inl ⟨rfl, xs, .inl (.inl h3)⟩⟩
/-- e is put into what slot i holds (a list) -/
def fMut (g : List D → D → Option (D × List D)) (i : Nat) (f : FV) : FV := fun as => match heldL as i with
  | none => none
  | some _ => match f as with
    | none => none
    | some (d, as1) => match heldL as1 i with
      | none => none
      | some ds => match g ds d with
        | some (r, es) => some (r, putAt as1 i (.list es))
        | none => none
theorem fMut_inv {g : List D → D → Option (D × List D)} {i : Nat} {f : FV} {as as' : AS} {r : D} (e : fMut g i f as = some (r, as')) : ∃ d0 d as1 ds es, heldL as i = some d0 ∧ f as = some (d, as1) ∧ heldL as1 i = some ds ∧ g ds d = some (r, es) ∧ as' = putAt as1 i (.list es) := by
  unfold fMut at e
  cases q0 : heldL as i with
  | none => rw [q0] at e; cases e
  | some d0 =>
    rw [q0] at e
    dsimp only at e
    cases q : f as with
    | none => rw [q] at e; cases e
    | some p =>
      obtain ⟨d, as1⟩ := p
      rw [q] at e
      dsimp only at e
      cases q2 : heldL as1 i with
      | none => rw [q2] at e; cases e
      | some ds =>
        rw [q2] at e
        dsimp only at e
        cases q3 : g ds d with
        | none => rw [q3] at e; cases e
        | some p3 =>
          obtain ⟨r', es⟩ := p3
          rw [q3] at e
          cases e
          exact ⟨d0, d, as1, ds, es, rfl, rfl, q2, q3, rfl⟩
def mApp (ds : List D) (d : D) : Option (D × List D) := if ds.length < sizeLine then some (.none, ds ++ [d]) else none
def mExt (ds : List D) : D → Option (D × List D)
  | .list es => if ds.length + es.length ≤ sizeLine then some (.none, ds ++ es) else none
  | _ => none
def mPopAt (ds : List D) : D → Option (D × List D)
  | .int z => match ixN ds.length z with
    | some j => match ds[j]? with
      | some d => some (d, ds.eraseIdx j)
      | none => none
    | none => none
  | _ => none
abbrev fApp := fMut mApp
abbrev fExt := fMut mExt
abbrev fPopAt := fMut mPopAt
def fPop (i : Nat) : FV := fun as => match heldL as i with
  | some ds => match ds[ds.length - 1]? with
    | some d => some (d, putAt as i (.list ds.dropLast))
    | none => none
  | _ => none
section
variable {X : Cx} {o e : Expr} {f : FV} {apos cpos : Pos}
theorem q_app (i : Nat) (ho : PE X o (tVar i)) (h : QV X e f)
    (hbase : attributeBase o "append" X.env (eval o X.env) = eval o X.env := by rfl)
    (hfew : ((backTo cpos (starEach [e] X.env)).all (fun x => !x.1) && (backToKw cpos (keywordEach [] X.env)).all (fun x => x.1.isSome)
      && decide ([e].length + ([] : List Keyword).length + (if ([] : List Keyword).isEmpty then 0 else 1) < 30)) = true := by rfl)
    (hline : (apos.endLine == cpos.line) = true := by rfl) (hs : starEach [e] X.env = (false, eval e X.env) :: starEach [] X.env := by rfl) (hplain : (backTo cpos (starEach [] X.env)).any (·.1) = false := by rfl) :
    QV X (.Call (.Attribute o "append" apos) [e] [] cpos) (fApp i f) := PE.weak (pe_bm PySem.F.plainAttrs_list PySem.F.slot_list_append PySem.F.type_list_append mt_append ho (pa_cons h pa_nil hs) hbase hfew hline hs hplain) fun σ H Q ⟨W, F, as, r, as', S, e, k⟩ => by
  obtain ⟨d0, d, as1, ds, es, q0, q, q2, q3, rfl⟩ := fMut_inv e
  obtain ⟨a, xs0, ea, _, _, _, _, ty⟩ := S.heldL q0
  refine ⟨_, ea, ty, W, F, as, d, as1, S, q, fun x H1 F1 S1 m1 fx => ?_⟩
  obtain ⟨b, xs, eb, fb, h1, h2, h3, _⟩ := S1.heldL q2
  rw [ea] at eb
  cases eb
  unfold mApp at q3
  split at q3
  · rename_i z
    cases q3
    have z' : xs.length < sizeLine := by rw [h2.length]; exact z
    exact ⟨a, xs, x, rfl, rfl, h1, z', k .non _ F1 (S1.changeAt (heldL_at q2) ea ⟨_, upd_same, h2.append (.cons fx .nil), by rw [List.length_append, List.length_singleton]; omega⟩) m1 .non⟩
  · cases q3
theorem q_popAt (i : Nat) (ho : PE X o (tVar i)) (h : QV X e f)
    (hbase : attributeBase o "pop" X.env (eval o X.env) = eval o X.env := by rfl)
    (hfew : ((backTo cpos (starEach [e] X.env)).all (fun x => !x.1) && (backToKw cpos (keywordEach [] X.env)).all (fun x => x.1.isSome)
      && decide ([e].length + ([] : List Keyword).length + (if ([] : List Keyword).isEmpty then 0 else 1) < 30)) = true := by rfl)
    (hline : (apos.endLine == cpos.line) = true := by rfl) (hs : starEach [e] X.env = (false, eval e X.env) :: starEach [] X.env := by rfl) (hplain : (backTo cpos (starEach [] X.env)).any (·.1) = false := by rfl) :
    QV X (.Call (.Attribute o "pop" apos) [e] [] cpos) (fPopAt i f) := PE.weak (pe_bm PySem.F.plainAttrs_list PySem.F.slot_list_pop PySem.F.type_list_pop mt_popAt ho (pa_cons h pa_nil hs) hbase hfew hline hs hplain) fun σ H Q ⟨W, F, as, r, as', S, e, k⟩ => by
  obtain ⟨d0, d, as1, ds, es, q0, q, q2, q3, rfl⟩ := fMut_inv e
  obtain ⟨a, xs0, ea, _, _, _, _, ty⟩ := S.heldL q0
  refine ⟨_, ea, ty, W, F, as, d, as1, S, q, fun x H1 F1 S1 m1 fx => ?_⟩
  obtain ⟨b, xs, eb, fb, h1, h2, h3, _⟩ := S1.heldL q2
  rw [ea] at eb
  cases eb
  cases d with
  | int z =>
    cases fx
    dsimp only [mPopAt] at q3
    cases q4 : ixN ds.length z with
    | none => rw [q4] at q3; cases q3
    | some j =>
      rw [q4] at q3
      dsimp only at q3
      cases q5 : ds[j]? with
      | none => rw [q5] at q3; cases q3
      | some y =>
        rw [q5] at q3
        cases q3
        obtain ⟨v, hv, fv⟩ := h2.get' q5
        rw [← h2.length] at q4
        obtain ⟨g1, g2, g3, g4⟩ := ixN_seq q4
        have hn := line63
        have hz := sizeLine_eq
        have hl := List.length_eraseIdx_le xs j
        exact ⟨a, xs, z, j, v, rfl, rfl, h1, by omega, by omega, g1, hv, k v _ F1 (S1.changeAt (heldL_at q2) ea ⟨_, upd_same, h2.eraseIdx j, by omega⟩) m1 fv⟩
  | _ => cases q3
theorem q_pop (i : Nat) (ho : PE X o (tVar i)) (hbase : attributeBase o "pop" X.env (eval o X.env) = eval o X.env := by rfl) (hline : (apos.endLine == cpos.line) = true := by rfl) :
    QV X (.Call (.Attribute o "pop" apos) [] [] cpos) (fPop i) := PE.weak (pe_bm0 PySem.F.plainAttrs_list PySem.F.slot_list_pop PySem.F.type_list_pop mt_pop ho hbase hline) fun σ H Q ⟨W, F, as, r, as', S, e, k⟩ => by
  unfold fPop at e
  cases q0 : heldL as i with
  | none => rw [q0] at e; cases e
  | some ds =>
    rw [q0] at e
    dsimp only at e
    cases q5 : ds[ds.length - 1]? with
    | none => rw [q5] at e; cases e
    | some y =>
      rw [q5] at e
      cases e
      obtain ⟨a, xs, ea, fb, h1, h2, h3, ty⟩ := S.heldL q0
      obtain ⟨v, hv, fv⟩ := h2.get' q5
      rw [← h2.length] at hv
      exact ⟨_, ea, ty, a, xs, v, rfl, rfl, h1, hv, k v _ F (S.changeAt (heldL_at q0) ea ⟨_, upd_same, h2.dropLast, by rw [List.length_dropLast]; omega⟩) (Same.refl F) fv⟩
/-- x.extend(a new list) -/
theorem q_ext (i : Nat) (ho : PE X o (tVar i)) (h : QN X e f)
    (hbase : attributeBase o "extend" X.env (eval o X.env) = eval o X.env := by rfl)
    (hfew : ((backTo cpos (starEach [e] X.env)).all (fun x => !x.1) && (backToKw cpos (keywordEach [] X.env)).all (fun x => x.1.isSome)
      && decide ([e].length + ([] : List Keyword).length + (if ([] : List Keyword).isEmpty then 0 else 1) < 30)) = true := by rfl)
    (hline : (apos.endLine == cpos.line) = true := by rfl) (hs : starEach [e] X.env = (false, eval e X.env) :: starEach [] X.env := by rfl) (hplain : (backTo cpos (starEach [] X.env)).any (·.1) = false := by rfl) :
    QV X (.Call (.Attribute o "extend" apos) [e] [] cpos) (fExt i f) := PE.weak (pe_bm PySem.F.plainAttrs_list PySem.F.slot_list_extend PySem.F.type_list_extend mt_extend ho (pa_cons h pa_nil hs) hbase hfew hline hs hplain) fun σ H Q ⟨W, F, as, r, as', S, e, k⟩ => by
  obtain ⟨d0, d, as1, ds, es, q0, q, q2, q3, rfl⟩ := fMut_inv e
  obtain ⟨a, xs0, ea, _, _, _, _, ty⟩ := S.heldL q0
  refine ⟨_, ea, ty, W, F, as, d, as1, S, q, fun p H1 F1 S1 m1 fp old op no => ?_⟩
  obtain ⟨b, xs, eb, fb, h1, h2, h3, _⟩ := S1.heldL q2
  rw [ea] at eb
  cases eb
  cases d with
  | list zs =>
    obtain ⟨ys, g1, g2, g3⟩ := op
    dsimp only [mExt] at q3
    split at q3
    · rename_i z
      cases q3
      have z' : xs.length + ys.length ≤ sizeLine := by rw [h2.length, g2.length]; exact z
      exact ⟨a, p, xs, ys, rfl, rfl, h1, g1, z', k .non _ F1 (S1.changeAt (heldL_at q2) ea ⟨_, upd_same, h2.append g2, by rw [List.length_append]; exact z'⟩) m1 .non⟩
    · cases q3
  | _ => cases q3
end
end PL
/-! PL9: what is walked; for, while. -/
namespace PL
open PySem PySem.Spec PyProof.Rows L2

/-! ### what is walked -/
/-- the iterator hands on the data ds -/
def WalkOk (K : PySem.W.Frag) (J : It) (F : Hp) (ds : List D) : Prop := ∀ F' H, SameH F F' → SameH F' H → J.stop ds.length H ∧ ∀ i d, ds[i]? = some d → J.go i H ∧ ∀ x H1, J.yld i H x H1 → ∃ F1, Grown H F' H1 F1 ∧ FR K F1 x d
theorem WalkOk.mono {K : PySem.W.Frag} {J : It} {F F' : Hp} {ds : List D} (h : WalkOk K J F ds) (m : SameH F F') : WalkOk K J F' ds := fun F2 H m2 s => h F2 H (m.trans m2) s
def iOf (K : PySem.W.Frag) (f : FA) : TI := fun σ H R => ∃ W F as ds as', St2 K W σ H F as ∧ f as = some (ds, as') ∧ ∀ J H' F', St2 K W σ H' F' as' → SameH F F' → WalkOk K J F' ds → R J H'
abbrev QI (X : Cx) (tg e : Expr) (f : FA) : Prop := PI X tg e (iOf X.K f)
theorem PI.weak {X : Cx} {tg e : Expr} {t t' : TI} (h : PI X tg e t) (w : ∀ σ H Q, t' σ H Q → t σ H Q) : PI X tg e t' := ⟨fun pins s σ H Q I q => h.run pins s σ H Q I (w _ _ _ q)⟩
def chrD (x : Str) : List D := x.cps.toList.map fun c => .str ⟨#[c]⟩
def seqD : D → Option (List D)
  | .list ds => some ds
  | .tuple ds => some ds
  | .dict ks => if hdK ks = true then some (ks.map Prod.fst) else none
  | .str x => some (chrD x)
  | _ => none
def aSeq (f : FV) : FA := fun as => match f as with
  | some (d, as1) => match seqD d with
    | some ds => some (ds, as1)
    | none => none
  | none => none
theorem frk_get {K : PySem.W.Frag} {F : Hp} : ∀ {kvs : List (Key × V)} {ks : List (D × D)} {i : Nat} {k : Key} {v : V}, FRk K F kvs ks → kvs[i]? = some (k, v) → ∃ d, ks[i]? = some (keyD k, d) ∧ FR K F v d
  | _, _, i, _, _, .nil, e => by simp at e
  | _, _, 0, _, _, .cons r _, e => by
    simp only [List.getElem?_cons_zero, Option.some.injEq] at e
    cases e
    exact ⟨_, rfl, r⟩
  | _, _, i + 1, k, v, .cons _ t, e => by
    obtain ⟨d, h1, h2⟩ := frk_get (i := i) (k := k) (v := v) t (by simpa using e)
    exact ⟨d, by simpa using h1, h2⟩
theorem fr_key {K : PySem.W.Frag} {F : Hp} (k : Key) : FR K F (kV k) (keyD k) := by
  cases k with
  | inl i => exact .int i
  | inr x => exact .str x
section
variable {X : Cx} {tg e : Expr} {f : FV} {p pos apos cpos : Pos}
theorem i_seq (he : QV X e f) : QI X tg e (aSeq f) := by
  refine ⟨fun pins s σ H R I ⟨W, F, as, ds, as', S, e, k⟩ => ?_⟩
  unfold aSeq at e
  cases q : f as with
  | none => rw [q] at e; cases e
  | some p =>
    obtain ⟨d, as1⟩ := p
    rw [q] at e
    dsimp only at e
    cases q2 : seqD d with
    | none => rw [q2] at e; cases e
    | some ds' =>
      rw [q2] at e
      cases e
      refine thn (he.run pins s σ H (fun v H' => ∃ F', St2 X.K W σ H' F' as' ∧ SameH F F' ∧ FR X.K F' v d) I ⟨W, F, as, d, as', S, q, fun v H' F' S' m fr => ⟨F', S', m, fr⟩⟩) fun u s1 ⟨v, H1, I1, rv, F1, S1, m1, fr⟩ => ?_
      cases fr with
      | non => cases q2
      | bl _ => cases q2
      | int _ => cases q2
      | str x =>
        cases q2
        obtain ⟨t, rfl⟩ := rv
        have w : WalkOk X.K (Its x) F1 (chrD x) := fun F2 H2 m2 s2 => by
          refine ⟨?_, fun i d hd => ?_⟩
          · show x.cps.size ≤ (chrD x).length
            unfold chrD
            rw [List.length_map, Array.length_toList]
            exact Nat.le_refl _
          · unfold chrD at hd
            rw [List.getElem?_map, Array.getElem?_toList] at hd
            cases q3 : x.cps[i]? with
            | none => rw [q3] at hd; cases hd
            | some c =>
              rw [q3] at hd
              cases hd
              refine ⟨(Array.getElem?_eq_some_iff.mp q3).1, fun y H3 ⟨e1, c', e2, e3⟩ => ?_⟩
              subst e1 e3
              rw [q3] at e2
              cases e2
              exact ⟨F2, Grown.refl s2, .str _⟩
        cases ha : x.cps.all (· < 128)
        · exact wpAny_pyIter_wide ha (pi_one (tk := s1.toks) I1 _ (turn_str _ x t "str_iterator" (.inr rfl)) ⟨_, Heap.get?_push_size _ rfl, rfl, rfl⟩ (k _ _ F1 S1 m1 w))
        · exact wpAny_pyIter_ascii ha (pi_one (tk := s1.toks) I1 _ (turn_str _ x t "str_ascii_iterator" (.inl rfl)) ⟨_, Heap.get?_push_size _ rfl, rfl, rfl⟩ (k _ _ F1 S1 m1 w))
      | @lst a xs _ h1 h2 h3 =>
        cases q2
        cases rv
        have w : WalkOk X.K (Itl X.K a) F1 ds := fun F2 H2 m2 s2 => by
          have hs : SqL X.K H2 a xs := sqL_mono (m2.trans s2) h1
          refine ⟨⟨xs, hs, by rw [h2.length]; exact Nat.le_refl _⟩, fun i d hd => ?_⟩
          obtain ⟨v, e1, e2⟩ := h2.get' hd
          refine ⟨⟨xs, v, hs, e1⟩, fun y H3 ⟨e3, e4⟩ => ?_⟩
          subst e3
          have e5 := e4 xs hs
          rw [e1] at e5
          cases e5
          exact ⟨F2, Grown.refl s2, e2.mono m2⟩
        obtain ⟨its, r, pl, hz⟩ := I1.list (sqL_mono S1.sub h1)
        exact wpAny_pyIter_list pl.isList (pi_one (tk := s1.toks) I1 _ (turn_list a _) ⟨_, Heap.get?_push_size _ rfl, rfl, rfl⟩ (k _ _ F1 S1 m1 w))
      | @tup a xs _ h1 h2 h3 =>
        cases q2
        cases rv
        have w : WalkOk X.K (Itt X.K a) F1 ds := fun F2 H2 m2 s2 => by
          have hs : SqT X.K H2 a xs := sqT_mono (m2.trans s2) h1
          refine ⟨⟨xs, hs, by rw [h2.length]; exact Nat.le_refl _⟩, fun i d hd => ?_⟩
          obtain ⟨v, e1, e2⟩ := h2.get' hd
          refine ⟨⟨xs, v, hs, e1⟩, fun y H3 ⟨e3, e4⟩ => ?_⟩
          subst e3
          have e5 := e4 xs hs
          rw [e1] at e5
          cases e5
          exact ⟨F2, Grown.refl s2, e2.mono m2⟩
        obtain ⟨its, r, pl, hz⟩ := I1.tuple (sqT_mono S1.sub h1)
        exact wpAny_pyIter_tuple (show s1.heap.IsTuple a its.toArray from pl) (pi_one (tk := s1.toks) I1 _ (turn_tuple a _) ⟨_, Heap.get?_push_size _ rfl, rfl, rfl⟩ (k _ _ F1 S1 m1 w))
      | @dctT a o xs ks h1 h2 h3 h4 h5 h6 =>
        dsimp only [seqD] at q2
        rw [frt_hdK h2 h6] at q2
        cases q2
      | @dct a o kvs ks h1 h2 h3 h4 =>
        dsimp only [seqD] at q2
        rw [if_pos (frk_hdK h2)] at q2
        cases q2
        cases rv
        have w : WalkOk X.K (Itk a o kvs) F1 (ks.map Prod.fst) := fun F2 H2 m2 s2 => by
          have hs : H2 a = some (.frz o (.dK kvs)) := s2 _ _ (m2 _ _ h1)
          refine ⟨⟨hs, by rw [List.length_map, h2.length]; exact Nat.le_refl _⟩, fun i d hd => ?_⟩
          rw [List.getElem?_map] at hd
          cases q3 : ks[i]? with
          | none => rw [q3] at hd; cases hd
          | some p =>
            rw [q3] at hd
            cases hd
            have il : i < kvs.length := by rw [h2.length]; exact (List.getElem?_eq_some_iff.mp q3).1
            refine ⟨⟨hs, il⟩, fun y H3 ⟨e1, kk, v, e2, e3⟩ => ?_⟩
            subst e1 e3
            obtain ⟨d, e4, _⟩ := frk_get h2 e2
            rw [q3] at e4
            cases e4
            exact ⟨F2, Grown.refl s2, fr_key kk⟩
        have hd := S1.sub _ _ h1
        obtain ⟨hs, hgd, hx, es, ep, vs, hdt, hsz, kv, hm⟩ := I1.frzK hd
        refine iter_keys hs hgd hx hdt (pi_one (tk := s1.toks) I1 _ (turn_keys _ hdt) ⟨_, Heap.get?_push_size _ rfl, rfl, ?_⟩ (k _ _ F1 S1 m1 w))
        rw [hsz] <;> rfl
/-! range(j), range(i, j) -/
def rgD (lo : Int) (n : Nat) : List D := (List.range n).map fun i => .int (lo + (i : Nat))
theorem walk_range {K : PySem.W.Frag} {F : Hp} (lo : Int) (n : Nat) : WalkOk K (Itr lo n) F (rgD lo n) := fun F2 H2 m2 s2 => by
  refine ⟨?_, fun i d hd => ?_⟩
  · show n ≤ (rgD lo n).length
    unfold rgD
    rw [List.length_map, List.length_range]
    exact Nat.le_refl _
  · unfold rgD at hd
    rw [List.getElem?_map] at hd
    cases q3 : (List.range n)[i]? with
    | none => rw [q3] at hd; cases hd
    | some j =>
      rw [q3] at hd
      cases hd
      have hl := (List.getElem?_eq_some_iff.mp q3).1
      rw [List.length_range] at hl
      rw [List.getElem?_range hl] at q3
      cases q3
      refine ⟨hl, fun y H3 ⟨e1, e2⟩ => ?_⟩
      subst e1 e2
      exact ⟨F2, Grown.refl s2, .int _⟩
def aRng1 (f : FV) : FA := fun as => match f as with
  | some (.int (.ofNat n), as1) => if n ≤ sizeLine then some (rgD 0 n, as1) else none
  | some (.int (.negSucc n), as1) => if n ≤ sizeLine then some ([], as1) else none
  | _ => none
def aRng2 (f g : FV) : FA := fun as => match f as with
  | some (.int (.ofNat m), as1) => match g as1 with
    | some (.int (.ofNat n), as2) => if m ≤ sizeLine ∧ n ≤ sizeLine then some (rgD m (n - m), as2) else none
    | _ => none
  | _ => none
theorem p62 : (2 : Int) ^ 62 = 4611686018427387904 := by decide
theorem in62 (n : Nat) (h : n ≤ sizeLine) : -(2 ^ 62) ≤ (n : Int) ∧ (n : Int) < 2 ^ 62 := by
  rw [p62]
  rw [sizeLine_eq] at h
  omega
theorem in62n (n : Nat) (h : n ≤ sizeLine) : -(2 ^ 62) ≤ Int.negSucc n ∧ Int.negSucc n < 2 ^ 62 := by
  rw [p62]
  rw [sizeLine_eq] at h
  omega
theorem i_rng1 (hg : Gl X "range") (hm : X.mg "range" = none) (he : QV X e f) (hs : starEach [e] X.env = [(false, eval e X.env)] := by rfl) : QI X tg (.Call (.Name "range" p) [e] [] pos) (aRng1 f) := PI.weak (pi_range1 hg hm (pa_cons he pa_nil (by rw [hs] <;> rfl)) hs) fun σ H R ⟨W, F, as, ds, as', S, e, k⟩ => by
  unfold aRng1 at e
  cases q : f as with
  | none => rw [q] at e; cases e
  | some p =>
    obtain ⟨d, as1⟩ := p
    rw [q] at e
    cases d with
    | int j =>
      cases j with
      | ofNat n =>
        dsimp only at e
        split at e
        · rename_i z
          cases e
          have z2 := in62 n z
          refine ⟨W, F, as, _, as', S, q, fun v H1 F1 S1 m1 fr => ?_⟩
          cases fr
          exact ⟨(n : Int), rfl, z2.1, z2.2, by rw [Int.toNat_natCast]; exact k _ H1 F1 S1 m1 (walk_range 0 n)⟩
        · cases e
      | negSucc n =>
        dsimp only at e
        split at e
        · rename_i z
          cases e
          have z2 := in62n n z
          refine ⟨W, F, as, _, as', S, q, fun v H1 F1 S1 m1 fr => ?_⟩
          cases fr
          exact ⟨Int.negSucc n, rfl, z2.1, z2.2, k _ H1 F1 S1 m1 (walk_range 0 0)⟩
        · cases e
    | _ => cases e
theorem i_rng2 {e2 : Expr} {g : FV} (hg : Gl X "range") (hm : X.mg "range" = none) (he : QV X e f) (he2 : QV X e2 g) (hs : starEach [e, e2] X.env = [(false, eval e X.env), (false, eval e2 X.env)] := by rfl) (hs2 : starEach [e2] X.env = [(false, eval e2 X.env)] := by rfl) :
    QI X tg (.Call (.Name "range" p) [e, e2] [] pos) (aRng2 f g) := PI.weak (pi_range2 hg hm (pa_cons he (pa_cons he2 pa_nil (by rw [hs2] <;> rfl)) (by rw [hs, hs2])) hs hs2) fun σ H R ⟨W, F, as, ds, as', S, e, k⟩ => by
  unfold aRng2 at e
  cases q : f as with
  | none => rw [q] at e; cases e
  | some p =>
    obtain ⟨d, as1⟩ := p
    rw [q] at e
    cases d with
    | int i =>
      cases i with
      | ofNat m =>
        dsimp only at e
        cases q2 : g as1 with
        | none => rw [q2] at e; cases e
        | some p =>
          obtain ⟨d, as2⟩ := p
          rw [q2] at e
          cases d with
          | int j =>
            cases j with
            | ofNat n =>
              dsimp only at e
              split at e
              · rename_i z
                cases e
                have z1 := in62 m z.1
                have z2 := in62 n z.2
                have t : ((n : Int) - (m : Int)).toNat = n - m := by omega
                refine ⟨W, F, as, _, as1, S, q, fun v H1 F1 S1 m1 fr => ⟨W, F1, as1, _, as', S1, q2, fun v2 H2 F2 S2 m2 fr2 => ?_⟩⟩
                cases fr
                cases fr2
                exact ⟨(m : Int), (n : Int), rfl, ⟨z1.1, z1.2, z2.1, z2.2⟩, by rw [t]; exact k _ H2 F2 S2 (m1.trans m2) (walk_range m _)⟩
              · cases e
            | negSucc n => cases e
          | _ => cases e
      | negSucc n => cases e
    | _ => cases e
/-! d.items(), the target a tuple -/
def aItems (f : FV) : FA := fun as => match f as with
  | some (.dict ks, as1) => if hdK ks = true then some (ks.map fun p => .tuple [p.1, p.2], as1) else none
  | _ => none
theorem i_items {elts : List Expr} {kk : Nat} {tpos : Pos} (he : QV X e f) (hbase : attributeBase e "items" X.env (eval e X.env) = eval e X.env := by rfl) (hline : (apos.endLine == cpos.line) = true := by rfl) :
    QI X (.Tuple elts kk tpos) (.Call (.Attribute e "items" apos) [] [] cpos) (aItems f) := PI.weak (pi_items he hbase hline) fun σ H R ⟨W, F, as, ds, as', S, e, k⟩ => by
  unfold aItems at e
  cases q : f as with
  | none => rw [q] at e; cases e
  | some p =>
    obtain ⟨d, as1⟩ := p
    rw [q] at e
    cases d with
    | dict ks =>
      dsimp only at e
      split at e
      rotate_left
      · cases e
      rename_i hk0
      cases e
      refine ⟨W, F, as, _, as', S, q, fun v H1 F1 S1 m1 fr => ?_⟩
      cases fr with
      | dctT h1 h2 h3 h4 h5 h6 => rw [frt_hdK h2 h6] at hk0; cases hk0
      | @dct a o kvs _ h1 h2 h3 h4 =>
        have w : WalkOk X.K (Iti a o kvs) F1 (ks.map fun p => .tuple [p.1, p.2]) := fun F2 H2 m2 s2 => by
          have hs : H2 a = some (.frz o (.dK kvs)) := s2 _ _ (m2 _ _ h1)
          refine ⟨⟨hs, by rw [List.length_map, h2.length]; exact Nat.le_refl _⟩, fun i d hd => ?_⟩
          rw [List.getElem?_map] at hd
          cases q3 : ks[i]? with
          | none => rw [q3] at hd; cases hd
          | some p =>
            rw [q3] at hd
            cases hd
            have il : i < kvs.length := by rw [h2.length]; exact (List.getElem?_eq_some_iff.mp q3).1
            refine ⟨⟨hs, il⟩, fun y H3 ⟨T, kk, v, e1, e2, e3, e4⟩ => ?_⟩
            subst e2 e4
            obtain ⟨d, e5, e6⟩ := frk_get h2 e1
            rw [q3] at e5
            cases e5
            exact ⟨_, Grown.one s2 e3, fr_tup (free_of s2 e3) (.cons (fr_key kk) (.cons (e6.mono m2) .nil)) (by show 2 ≤ sizeLine; decide)⟩
        exact ⟨a, o, kvs, rfl, S1.sub _ _ h1, k _ H1 F1 S1 m1 w⟩
    | _ => cases e
end

/-! ### for -/
def loopF (g : FG) (body : FS) : List D → FS
  | [], as => some (.nx as)
  | d :: r, as => match g d as with
    | none => none
    | some as1 => match body as1 with
      | some (.nx as2) => loopF g body r as2
      | some (.ct as2) => loopF g body r as2
      | some (.bk as2) => some (.nx as2)
      | some (.rt y as2) => some (.rt y as2)
      | none => none
def fFor (it : FA) (g : FG) (body : FS) : FS := fun as => match it as with
  | some (ds, as1) => loopF g body ds as1
  | none => none
theorem for_weak {K : PySem.W.Frag} {it : FA} {g : FG} {body : FS} {ws : List Nat} : ∀ N σ H, sOf K (fFor it g body) N σ H → tFor (iOf K it) (gOf K ws g) (sOf K body) N σ H := fun N σ H ⟨W, F, as, fl, S, e, k⟩ => by
  unfold fFor at e
  cases q : it as with
  | none => rw [q] at e; cases e
  | some p =>
    obtain ⟨ds, as1⟩ := p
    rw [q] at e
    refine ⟨W, F, as, ds, as1, S, q, fun J H1 F1 S1 m1 wk => ?_⟩
    refine ⟨fun i m σ H => i ≤ ds.length ∧ m = ds.length - i ∧ ∃ F' as', St2 K W σ H F' as' ∧ SameH F1 F' ∧ loopF g body (ds.drop i) as' = some fl, ⟨_, Nat.zero_le _, rfl, F1, as1, S1, Same.refl F1, by rw [List.drop_zero]; exact e⟩, ?_⟩
    rintro i m σ' H' ⟨hi, rfl, F', as', S', m', e'⟩
    obtain ⟨w1, w2⟩ := wk F' H' m' S'.sub
    by_cases hl : i < ds.length
    · rw [List.drop_eq_getElem_cons hl] at e'
      unfold loopF at e'
      cases q2 : g ds[i] as' with
      | none => rw [q2] at e'; cases e'
      | some as2 =>
        rw [q2] at e'
        dsimp only at e'
        obtain ⟨g1, g2⟩ := w2 i ds[i] (List.getElem?_eq_getElem hl)
        cases q3 : body as2 with
        | none => rw [q3] at e'; cases e'
        | some f2 =>
          rw [q3] at e'
          refine .inr ⟨g1, fun σ H => ∃ F' as', St2 K W σ H F' as' ∧ SameH F1 F' ∧ loopF g body (ds.drop (i + 1)) as' = some fl, fun σ3 H3 ⟨F3, as3, S3, m3, e3⟩ => ⟨ds.length - (i + 1), by omega, hl, rfl, F3, as3, S3, m3, e3⟩, fun x H2 y => ?_⟩
          obtain ⟨F2, gr, fr⟩ := g2 x H2 y
          refine ⟨W, F2, as', ds[i], as2, gr.st S', fr, q2, fun σ3 H3 F3 S3 m3 _ => ⟨W, F3, as2, f2, S3, q3, ?_⟩⟩
          have mm : SameH F1 F3 := m'.trans (gr.ff.trans m3)
          cases f2 with
          | nx as4 => exact fun σ4 H4 F4 S4 m4 => ⟨F4, as4, S4, mm.trans m4, e'⟩
          | ct as4 => exact fun σ4 H4 F4 S4 m4 => ⟨F4, as4, S4, mm.trans m4, e'⟩
          | bk as4 =>
            cases e'
            exact fun σ4 H4 F4 S4 m4 => k σ4 H4 F4 S4 ((m1.trans mm).trans m4)
          | rt d as4 =>
            cases e'
            exact fun v σ4 H4 F4 S4 m4 fr4 => k v σ4 H4 F4 S4 ((m1.trans mm).trans m4) fr4
    · have ei : i = ds.length := by omega
      subst ei
      rw [List.drop_length] at e'
      unfold loopF at e'
      cases e'
      exact .inl ⟨w1, k σ' H' F' S' (m1.trans m')⟩
theorem s_for {X : Cx} {tg iter : Expr} {body : List Stmt} {it : FA} {g : FG} {ws : List Nat} {fb : FS} {pos : Pos} (hp : PassesOwn (model X.prog X.w) X.A X.env X.xe) (hc : X.calm = true) (hi : QI X tg iter it) (hg : QG X tg ws g) (hb : QSs X body fb)
    (hs : ∀ x, foldedSetIterable iter X.env x = pure x := by intro _; rfl) : QS X (.For tg iter body [] pos) (fFor it g fb) := PS.weak (ps_for hp hc hi hg hb hs) for_weak

/-! ### while -/
def fWhile (c : FB) (body : FS) : Nat → FS
  | 0, _ => none
  | n + 1, as => match c as with
    | none => none
    | some (false, as1) => some (.nx as1)
    | some (true, as1) => match body as1 with
      | some (.nx as2) => fWhile c body n as2
      | some (.ct as2) => fWhile c body n as2
      | some (.bk as2) => some (.nx as2)
      | some (.rt y as2) => some (.rt y as2)
      | none => none
theorem while_weak {K : PySem.W.Frag} {c : FB} {body : FS} {n : Nat} : ∀ N σ H, sOf K (fWhile c body n) N σ H → tWhile (tOf K c) (sOf K body) N σ H := fun N σ H ⟨W, F, as, fl, S, e, k⟩ => by
  refine ⟨fun m σ H => ∃ F' as', St2 K W σ H F' as' ∧ SameH F F' ∧ fWhile c body m as' = some fl, ⟨n, F, as, S, Same.refl F, e⟩, ?_⟩
  rintro m σ' H' ⟨F', as', S', m', e'⟩
  cases m with
  | zero => cases e'
  | succ m =>
    unfold fWhile at e'
    cases q : c as' with
    | none => rw [q] at e'; cases e'
    | some p =>
      obtain ⟨b, as1⟩ := p
      rw [q] at e'
      refine ⟨W, F', as', b, as1, S', q, fun H1 F1 S1 m1 => ?_⟩
      cases b with
      | false =>
        cases e'
        exact iteF (k σ' H1 F1 S1 (m'.trans m1))
      | true =>
        refine iteT ?_
        dsimp only at e'
        cases q3 : body as1 with
        | none => rw [q3] at e'; cases e'
        | some f2 =>
          rw [q3] at e'
          refine ⟨fun σ H => ∃ F' as', St2 K W σ H F' as' ∧ SameH F F' ∧ fWhile c body m as' = some fl, fun σ3 H3 h3 => ⟨m, Nat.lt_succ_self m, h3⟩, W, F1, as1, f2, S1, q3, ?_⟩
          have mm := m'.trans m1
          cases f2 with
          | nx as4 => exact fun σ4 H4 F4 S4 m4 => ⟨F4, as4, S4, mm.trans m4, e'⟩
          | ct as4 => exact fun σ4 H4 F4 S4 m4 => ⟨F4, as4, S4, mm.trans m4, e'⟩
          | bk as4 =>
            cases e'
            exact fun σ4 H4 F4 S4 m4 => k σ4 H4 F4 S4 (mm.trans m4)
          | rt d as4 =>
            cases e'
            exact fun v σ4 H4 F4 S4 m4 fr4 => k v σ4 H4 F4 S4 (mm.trans m4) fr4
theorem s_while (n : Nat) {X : Cx} {c : Expr} {body : List Stmt} {fc : FB} {fb : FS} {pos : Pos} (hp : PassesOwn (model X.prog X.w) X.A X.env X.xe) (hc : QT X c fc) (hb : QSs X body fb) : QS X (.While c body [] pos) (fWhile fc fb n) := PS.weak (ps_while hp hc hb) while_weak
end PL
/-! PL10: comprehensions. -/
namespace PL
open PySem PySem.Spec PyProof.Rows L2

/-! ### the block's own names, forgotten and given back -/
def wipeA (as : AS) : List Nat → AS
  | [] => as
  | v :: vs => (wipeA as vs).set v .un
def okW (as : AS) (vs : List Nat) : Bool := vs.all fun v => (heldAt as v).isNone
def backA (as : AS) : List Nat → AS → AS
  | [], as' => as'
  | v :: vs, as' => match as[v]? with
    | some s => (backA as vs as').set v s
    | none => backA as vs as'
theorem get_out {α : Type} {l : List α} {i j : Nat} {x : α} (h : j ≠ i) : (l.set i x)[j]? = l[j]? := List.getElem?_set_ne (Ne.symm h)
theorem wipe_at {σ : Sg} {vs : List Nat} {j : Nat} (h : j ∉ vs) : (wipe σ vs)[j]? = σ[j]? := wipe_out h
theorem wipe_in {σ : Sg} {j : Nat} : ∀ {vs : List Nat}, j ∈ vs → j < σ.length → (wipe σ vs)[j]? = some none
  | v :: vs, h, l => by
    unfold wipe
    by_cases q : j = v
    · subst q
      rw [List.getElem?_set_self (by rw [wipe_length]; exact l)]
    · rw [get_out q]
      exact wipe_in ((List.mem_cons.mp h).resolve_left q) l
theorem wipe_agree {σ σ' : Sg} {ws vs : List Nat} (a : Agree ws (wipe σ vs) σ') (h : ∀ i ∈ ws, i ∈ vs) : wipe σ' vs = wipe σ vs := by
  have len : σ'.length = σ.length := by rw [a.1, wipe_length]
  apply List.ext_getElem?
  intro j
  by_cases q : j ∈ vs
  · by_cases l : j < σ.length
    · rw [wipe_in q l, wipe_in q (by rw [len]; exact l)]
    · rw [List.getElem?_eq_none (by rw [wipe_length]; omega), List.getElem?_eq_none (by rw [wipe_length]; omega)]
  · rw [wipe_at q, a.2 j fun z => q (h j z)]
theorem wipeA_len (as : AS) : ∀ vs : List Nat, (wipeA as vs).length = as.length
  | [] => rfl
  | v :: vs => by unfold wipeA; rw [List.length_set, wipeA_len as vs]
theorem wipeA_at {as : AS} {j : Nat} : ∀ {vs : List Nat}, j ∉ vs → (wipeA as vs)[j]? = as[j]?
  | [], _ => rfl
  | v :: vs, h => by
    unfold wipeA
    rw [List.mem_cons, not_or] at h
    rw [get_out h.1, wipeA_at h.2]
theorem wipeA_in {as : AS} {j : Nat} {s : Sl} : ∀ {vs : List Nat}, j ∈ vs → (wipeA as vs)[j]? = some s → s = .un
  | v :: vs, h, e => by
    unfold wipeA at e
    by_cases q : j = v
    · subst q
      by_cases l : j < (wipeA as vs).length
      · rw [List.getElem?_set_self l] at e
        exact (Option.some.inj e).symm
      · rw [List.getElem?_eq_none (by rw [List.length_set]; omega)] at e
        cases e
    · rw [get_out q] at e
      exact wipeA_in ((List.mem_cons.mp h).resolve_left q) e
theorem backA_len (as : AS) : ∀ (vs : List Nat) (as' : AS), (backA as vs as').length = as'.length
  | [], _ => rfl
  | v :: vs, as' => by
    unfold backA
    cases as[v]? with
    | none => exact backA_len as vs as'
    | some s => dsimp only; rw [List.length_set]; exact backA_len as vs as'
theorem backA_at {as : AS} {j : Nat} : ∀ {vs : List Nat} {as' : AS}, j ∉ vs → (backA as vs as')[j]? = as'[j]?
  | [], _, _ => rfl
  | v :: vs, as', h => by
    rw [List.mem_cons, not_or] at h
    unfold backA
    cases as[v]? with
    | none => exact backA_at h.2
    | some s => dsimp only; rw [get_out h.1]; exact backA_at h.2
theorem backA_in {as : AS} {j : Nat} {s : Sl} : ∀ {vs : List Nat} {as' : AS}, as'.length = as.length → j ∈ vs → (backA as vs as')[j]? = some s → as[j]? = some s
  | v :: vs, as', hl, h, e => by
    unfold backA at e
    by_cases q : j = v
    · subst q
      cases z : as[j]? with
      | none =>
        rw [z] at e
        dsimp only at e
        have z1 := (List.getElem?_eq_some_iff.mp e).1
        rw [backA_len, hl] at z1
        rw [List.getElem?_eq_getElem z1] at z
        cases z
      | some s' =>
        rw [z] at e
        dsimp only at e
        have z1 := (List.getElem?_eq_some_iff.mp e).1
        rw [List.getElem?_set_self (by rw [List.length_set] at z1; exact z1)] at e
        rw [← e]
    · have h' := (List.mem_cons.mp h).resolve_left q
      cases z : as[v]? with
      | none =>
        rw [z] at e
        exact backA_in hl h' e
      | some s' =>
        rw [z] at e
        dsimp only at e
        rw [get_out q] at e
        exact backA_in hl h' e
section
variable {K : PySem.W.Frag} {W : W0} {σ σ' : Sg} {H H' F F' : Hp} {as as' : AS} {vs : List Nat}
theorem SlOk.at {i : Nat} {s : Sl} (e : σ'[i]? = σ[i]?) (h : SlOk K W σ H F i s) : SlOk K W σ' H F i s := by
  cases s <;> first
    | trivial
    | (unfold SlOk at h ⊢; rw [e]; exact h)
theorem St2.wiped (S : St2 K W σ H F as) : St2 K W (wipe σ vs) H F (wipeA as vs) where
  len := by rw [wipeA_len, wipe_length]; exact S.len
  sub := S.sub
  mono := S.mono
  keep := S.keep
  dom := S.dom
  new := S.new
  zm := S.zm
  slot := fun i s e => by
    by_cases q : i ∈ vs
    · rw [wipeA_in q e]
      trivial
    · rw [wipeA_at q] at e
      exact (S.slot i s e).at (wipe_at q)
  apart := fun i j s t d e a h1 h2 h3 h4 h5 h6 => by
    by_cases q1 : i ∈ vs
    · rw [wipeA_in q1 h1] at h3; cases h3
    by_cases q2 : j ∈ vs
    · rw [wipeA_in q2 h2] at h4; cases h4
    rw [wipeA_at q1] at h1
    rw [wipeA_at q2] at h2
    rw [wipe_at q1] at h5
    rw [wipe_at q2] at h6
    exact S.apart i j s t d e a h1 h2 h3 h4 h5 h6
theorem okW_at {as : AS} {vs : List Nat} (h : okW as vs = true) {v : Nat} (hv : v ∈ vs) {s : Sl} {d : D} (e : as[v]? = some s) (hs : s.held = some d) : False := by
  have z := List.all_eq_true.mp h v hv
  unfold heldAt at z
  rw [e] at z
  dsimp only at z
  rw [hs] at z
  cases z
/-- out of the block: the names as they were -/
theorem St2.unwiped (S : St2 K W σ H F as) (ok : okW as vs = true) (S' : St2 K W (wipe σ vs) H' F' as') (m : SameH F F') : St2 K W σ H' F' (backA as vs as') where
  len := by rw [backA_len, S'.len, wipe_length]
  sub := S'.sub
  mono := S'.mono
  keep := S'.keep
  dom := S'.dom
  new := S'.new
  zm := S'.zm
  slot := fun i s e => by
    by_cases q : i ∈ vs
    · have e1 := backA_in (by rw [S'.len, wipe_length, S.len]) q e
      have z := S.slot i s e1
      cases s with
      | un => trivial
      | fz d =>
        obtain ⟨v, h1, h2⟩ := z
        exact ⟨v, h1, h2.mono m⟩
      | ow d => exact (okW_at ok q e1 rfl).elim
      | io d => exact (okW_at ok q e1 rfl).elim
    · rw [backA_at q] at e
      exact (S'.slot i s e).at (wipe_at q).symm
  apart := fun i j s t d e a h1 h2 h3 h4 h5 h6 => by
    have hl : as'.length = as.length := by rw [S'.len, wipe_length, S.len]
    by_cases q1 : i ∈ vs
    · exact (okW_at ok q1 (backA_in hl q1 h1) h3).elim
    by_cases q2 : j ∈ vs
    · exact (okW_at ok q2 (backA_in hl q2 h2) h4).elim
    rw [backA_at q1] at h1
    rw [backA_at q2] at h2
    rw [← wipe_at (vs := vs) q1] at h5
    rw [← wipe_at (vs := vs) q2] at h6
    exact S'.apart i j s t d e a h1 h2 h3 h4 h5 h6
/-- the object at p, new and nobody's, changes -/
theorem St2.poke (S : St2 K W σ H F as) {p : Addr} {o : HO} (fp : F p = none) (old : W.H p = none) (no : Nobody σ as p) : St2 K W σ (upd H p o) F as where
  len := S.len
  sub := fun b u e => by
    have ne : b ≠ p := fun q => by subst q; rw [fp] at e; cases e
    rw [upd_ne ne]
    exact S.sub _ _ e
  mono := S.mono
  keep := fun b u e m => by
    have ne : b ≠ p := fun q => by subst q; rw [old] at e; cases e
    rw [upd_ne ne]
    exact S.keep b u e m
  dom := fun b e => by
    by_cases q : b = p
    · subst q; exact old
    · rw [upd_ne q] at e; exact S.dom b e
  new := S.new
  zm := S.zm
  slot := fun i s e => by
    have z := S.slot i s e
    cases s with
    | un => trivial
    | fz d => exact z
    | ow d =>
      obtain ⟨a, h1, h2, h3, h4⟩ := z
      exact ⟨a, h1, h2, h3, h4.step (upd_ne fun q => no i _ d e rfl (by rw [h1, q])) (Same.refl F)⟩
    | io d =>
      obtain ⟨a, h1, h2, h3, h4, h5, h6⟩ := z
      exact ⟨a, h1, h2, h3, h4, h5, h6.step (upd_ne fun q => no i _ d e rfl (by rw [h1, q])) (Same.refl F)⟩
  apart := S.apart
theorem Nobody.over {p : Addr} (n : Nobody σ as p) (hp : H p ≠ none) (S' : St2 K (here σ H F as) σ' H' F' as') : Nobody σ' as' p := fun i s d h1 h2 h3 => by
  have z := S'.slot i s h1
  cases s with
  | un => cases h2
  | fz _ => cases h2
  | ow d' =>
    obtain ⟨a, q1, q2, q3, _⟩ := z
    rw [h3] at q1
    cases q1
    rcases q3 with q3 | ⟨j, e, q4, q5⟩
    · exact hp q3
    · exact n j _ e q4 rfl q5
  | io d' =>
    obtain ⟨a, q1, q2, ⟨j, t, e, q4, q5, q6⟩, _⟩ := z
    rw [h3] at q1
    cases q1
    exact n j t e q4 q5 q6
/-- what a comprehension is making: new, nobody's, so far d -/
structure Mk (K : PySem.W.Frag) (W : W0) (σ : Sg) (H F : Hp) (as : AS) (p : Addr) (d : D) : Prop where
  fp : F p = none
  old : W.H p = none
  obj : OR K H F p d
  no : Nobody σ as p
theorem Mk.grown {p : Addr} {d : D} (h : Mk K W σ H F as p d) (g : Grown H F H' F') : Mk K W σ H' F' as p d := by
  obtain ⟨u, eu⟩ := Option.ne_none_iff_exists'.mp h.obj.there
  refine ⟨?_, h.old, h.obj.step ((g.hh _ _ eu).trans eu.symm) g.ff, h.no⟩
  cases q : F' p with
  | none => rfl
  | some w =>
    rcases g.new p (by rw [q]; exact fun z => nomatch z) with r | r
    · exact absurd h.fp r
    · rw [r] at eu; cases eu
theorem Mk.over {p : Addr} {d : D} (h : Mk K W σ H F as p d) (S : St2 K W σ H F as) (S' : St2 K (here σ H F as) σ' H' F' as') (m : SameH F F') : Mk K W σ' H' F' as' p d := by
  obtain ⟨u, eu⟩ := Option.ne_none_iff_exists'.mp h.obj.there
  obtain ⟨q1, q2⟩ := S.stays S' eu h.no
  exact ⟨q2 h.fp, h.old, h.obj.step (q1.trans eu.symm) m, h.no.over h.obj.there S'⟩
theorem Mk.wiped {p : Addr} {d : D} (h : Mk K W σ H F as p d) : Mk K W (wipe σ vs) H F (wipeA as vs) p d := ⟨h.fp, h.old, h.obj, fun i s d h1 h2 h3 => by
  by_cases q : i ∈ vs
  · rw [wipeA_in q h1] at h2; cases h2
  · rw [wipeA_at q] at h1
    rw [wipe_at q] at h3
    exact h.no i s d h1 h2 h3⟩
theorem Mk.poked {p : Addr} {d d' : D} {o : HO} (h : Mk K W σ H F as p d) (new : OR K (upd H p o) F p d') : Mk K W σ (upd H p o) F as p d' := ⟨h.fp, h.old, new, h.no⟩
end

/-! ### [elt for tg in iter if ..] -/
def loopC (g : FG) (tt : FB) (te : FV) (vs : List Nat) : List D → AS → List D → Option (List D × AS)
  | [], as, acc => some (acc, as)
  | d :: r, as, acc => match g d as with
    | none => none
    | some as1 => match tt as1 with
      | none => none
      | some (false, as2) => loopC g tt te vs r (wipeA as2 vs) acc
      | some (true, as2) => match te as2 with
        | none => none
        | some (y, as3) => if acc.length < sizeLine then loopC g tt te vs r (wipeA as3 vs) (acc ++ [y]) else none
def fLc (it : FA) (g : FG) (tt : FB) (te : FV) (vs : List Nat) : FV := fun as => match it as with
  | none => none
  | some (ds, as1) => if okW as1 vs = true then match loopC g tt te vs ds (wipeA as1 vs) [] with
    | some (out, as2) => some (.list out, backA as1 vs as2)
    | none => none else none
def fYes : FB := fun as => some (true, as)
theorem lc_weak {K : PySem.W.Frag} {it : FA} {g : FG} {tt : FB} {te : FV} {vs ws : List Nat} (hw : ∀ i ∈ ws, i ∈ vs) : ∀ σ H Q, nOf K (fLc it g tt te vs) σ H Q → tLc (iOf K it) (gOf K ws g) (tOf K tt) (vOf K te) vs σ H Q := fun σ H Q ⟨W, F, as, d, as', S, e, k⟩ => by
  unfold fLc at e
  cases q : it as with
  | none => rw [q] at e; cases e
  | some p =>
    obtain ⟨ds, as1⟩ := p
    rw [q] at e
    dsimp only at e
    split at e
    · rename_i ok
      cases q2 : loopC g tt te vs ds (wipeA as1 vs) [] with
      | none => rw [q2] at e; cases e
      | some p2 =>
        obtain ⟨out, asN⟩ := p2
        rw [q2] at e
        cases e
        refine ⟨W, F, as, ds, as1, S, q, fun J H1 F1 S1 m1 wk D hD => ?_⟩
        have mk0 : Mk K W (wipe σ vs) (upd H1 D (.lst [])) F1 (wipeA as1 vs) D (.list []) := Mk.wiped ⟨S1.free hD, S1.dom D hD, ⟨[], upd_same, .nil, Nat.zero_le _⟩, Nobody.fresh S1 hD⟩
        refine ⟨fun i m H => i ≤ ds.length ∧ m = ds.length - i ∧ ∃ F' as' acc, St2 K W (wipe σ vs) H F' as' ∧ SameH F1 F' ∧ Mk K W (wipe σ vs) H F' as' D (.list acc) ∧ loopC g tt te vs (ds.drop i) as' acc = some (out, asN),
          ⟨_, Nat.zero_le _, rfl, F1, _, [], (S1.laid hD).wiped, Same.refl F1, mk0, by rw [List.drop_zero]; exact q2⟩, ?_⟩
        rintro i m H' ⟨hi, rfl, F', as', acc, S', m', mk, e'⟩
        obtain ⟨w1, w2⟩ := wk F' H' m' S'.sub
        by_cases hl : i < ds.length
        · rw [List.drop_eq_getElem_cons hl] at e'
          unfold loopC at e'
          obtain ⟨g1, g2⟩ := w2 i ds[i] (List.getElem?_eq_getElem hl)
          cases q3 : g ds[i] as' with
          | none => rw [q3] at e'; cases e'
          | some as2 =>
            rw [q3] at e'
            dsimp only at e'
            cases q4 : tt as2 with
            | none => rw [q4] at e'; cases e'
            | some p4 =>
              obtain ⟨b, as3⟩ := p4
              rw [q4] at e'
              refine .inr ⟨g1, fun H => ∃ F' as' acc, St2 K W (wipe σ vs) H F' as' ∧ SameH F1 F' ∧ Mk K W (wipe σ vs) H F' as' D (.list acc) ∧ loopC g tt te vs (ds.drop (i + 1)) as' acc = some (out, asN), fun H3 h3 => ⟨ds.length - (i + 1), by omega, hl, rfl, h3⟩, fun x H2 y => ?_⟩
              obtain ⟨F2, gr, fr⟩ := g2 x H2 y
              have S2 := gr.st S'
              have mk2 := mk.grown gr
              refine ⟨_, F2, as', ds[i], as2, S2.here, fr, q3, fun σ3 H3 F3 S3 m3 ag => ⟨wipe_agree ag hw, _, F3, as2, b, as3, S3, q4, fun H4 F4 S4 m4 => ?_⟩⟩
              have we := wipe_agree ag hw
              have fin : ∀ {H5 F5 : Hp} {as5 : AS} {acc5 : List PyData}, St2 K (here (wipe σ vs) H2 F2 as') σ3 H5 F5 as5 → SameH F2 F5 → OR K H5 F5 D (.list acc5) → F5 D = none → loopC g tt te vs (ds.drop (i + 1)) (wipeA as5 vs) acc5 = some (out, asN) → ∃ F' as' acc, St2 K W (wipe σ vs) H5 F' as' ∧ SameH F1 F' ∧ Mk K W (wipe σ vs) H5 F' as' D (.list acc) ∧ loopC g tt te vs (ds.drop (i + 1)) as' acc = some (out, asN) := fun {H5 F5 as5 acc5} S5 m5 o5 f5 e5 => by
                have z1 : St2 K W (wipe σ3 vs) H5 F5 (wipeA as5 vs) := (S2.back S5).wiped
                have z2 : Mk K W (wipe σ3 vs) H5 F5 (wipeA as5 vs) D (.list acc5) := Mk.wiped ⟨f5, mk2.old, o5, mk2.no.over mk2.obj.there S5⟩
                rw [we] at z1 z2
                exact ⟨F5, _, acc5, z1, (m'.trans gr.ff).trans m5, z2, e5⟩
              cases b with
              | false =>
                refine iteF ?_
                have mk4 := mk2.over S2 S4 (m3.trans m4)
                exact fin S4 (m3.trans m4) mk4.obj mk4.fp e'
              | true =>
                refine iteT ?_
                dsimp only at e'
                cases q5 : te as3 with
                | none => rw [q5] at e'; cases e'
                | some p5 =>
                  obtain ⟨y5, as4⟩ := p5
                  rw [q5] at e'
                  dsimp only at e'
                  split at e'
                  · rename_i hz
                    refine ⟨_, F4, as3, y5, as4, S4, q5, fun v H5 F5 S5 m5 fr5 => ?_⟩
                    have mm := (m3.trans m4).trans m5
                    have mk5 := mk2.over S2 S5 mm
                    obtain ⟨xs, x1, x2, x3⟩ := mk5.obj
                    have hz' : xs.length < sizeLine := by rw [x2.length]; exact hz
                    have dn : (here (wipe σ vs) H2 F2 as').H D = none → False := fun z => mk2.obj.there z
                    refine ⟨xs, x1, hz', ?_⟩
                    have new : OR K (upd H5 D (.lst (xs ++ [v]))) F5 D (.list (acc ++ [y5])) := ⟨_, upd_same, x2.append (.cons fr5 .nil), by rw [List.length_append, List.length_singleton]; omega⟩
                    have z1 : St2 K W (wipe σ3 vs) (upd H5 D (.lst (xs ++ [v]))) F5 (wipeA as4 vs) := ((S2.back S5).poke mk5.fp mk5.old mk5.no).wiped
                    have z2 : Mk K W (wipe σ3 vs) (upd H5 D (.lst (xs ++ [v]))) F5 (wipeA as4 vs) D (.list (acc ++ [y5])) := Mk.wiped (mk5.poked new)
                    rw [we] at z1 z2
                    exact ⟨F5, _, _, z1, (m'.trans gr.ff).trans mm, z2, e'⟩
                  · cases e'
        · have ei : i = ds.length := by omega
          subst ei
          rw [List.drop_length] at e'
          unfold loopC at e'
          cases e'
          refine .inl ⟨w1, k D H' F' (S1.unwiped ok S' m') (m1.trans m') mk.fp mk.old mk.obj fun j s d h1 h2 h3 => ?_⟩
          by_cases qj : j ∈ vs
          · exact okW_at ok qj (backA_in (by rw [S'.len, wipe_length, S1.len]) qj h1) h2
          · rw [backA_at qj] at h1
            rw [← wipe_at (vs := vs) qj] at h3
            exact mk.no j s d h1 h2 h3
    · cases e
theorem ts_nil {X : Cx} : PTs X [] (tOf X.K fYes) := ⟨fun pins s σ H Q I ⟨W, F, as, b, as', S, e, k⟩ => by
  cases e
  exact pts_nil.run pins s σ H Q I (k H F S (Same.refl F))⟩
theorem ts_one {X : Cx} {c : Expr} {f : FB} (h : QT X c f) : PTs X [c] (tOf X.K f) := pts_one h
theorem q_lc {X : Cx} {elt tg iter : Expr} {ifs : List Expr} {scope : Scope} {own : List (Str × Nat)} {pos : Pos} {it : FA} {g : FG} {ws : List Nat} {tt : FB} {te : FV} (hc : X.calm = true) (hN : X.N.Nodup) (ok : BlkOk X.N X.env.scope scope own) (hw : ∀ i ∈ ws, i ∈ own.map (·.2)) (hi : QI X tg iter it)
    (hg : ∀ (s : Shared) (H : Hp) (C : Addr) (cl : List (Str × Addr)) (fp : List Addr), QG (X.blk s H scope (compEnvC scope cl C X.env) fp) tg ws g) (ht : ∀ (s : Shared) (H : Hp) (C : Addr) (cl : List (Str × Addr)) (fp : List Addr), PTs (X.blk s H scope (compEnvC scope cl C X.env) fp) ifs (tOf X.K tt))
    (he : ∀ (s : Shared) (H : Hp) (C : Addr) (cl : List (Str × Addr)) (fp : List Addr), QV (X.blk s H scope (compEnvC scope cl C X.env) fp) elt te) (hs : ∀ x, foldedSetIterable iter X.env x = pure x := by intro _; rfl) :
    QN X (.ListComp elt [⟨tg, iter, ifs, 0⟩] scope pos) (fLc it g tt te (own.map (·.2))) := PE.weak (pe_lc hc hN hi ok hg ht he hs) (lc_weak hw)
end PL
/-! PL11: dict comprehensions, comprehensions of two clauses. -/
namespace PL
open PySem PySem.Spec PyProof.Rows L2

/-! ### {k: v for tg in iter if ..} -/
theorem hdK_put {k d : D} {kk : Key} (e : dKey k = some kk) : ∀ {ks : List (D × D)}, hdK ks = true → hdK (putKs k d ks) = true
  | [], _ => by
    rw [dKey_keyD e]
    cases kk <;> rfl
  | (a, b) :: r, h => by
    unfold putKs
    split
    · split
      · cases a <;> first | rfl | exact h
      · cases a <;> first | rfl | exact h
    · cases a <;> first | rfl | exact h
def loopK (g : FG) (tt : FB) (tk te : FV) (vs : List Nat) : List D → AS → List (D × D) → Option (List (D × D) × AS)
  | [], as, acc => some (acc, as)
  | d :: r, as, acc => match g d as with
    | none => none
    | some as1 => match tt as1 with
      | none => none
      | some (false, as2) => loopK g tt tk te vs r (wipeA as2 vs) acc
      | some (true, as2) => match tk as2 with
        | none => none
        | some (k, as3) => match te as3 with
          | none => none
          | some (y, as4) => match dKey k with
            | none => none
            | some _ => if acc.length < sizeLine then loopK g tt tk te vs r (wipeA as4 vs) (putKs k y acc) else none
def fDc (it : FA) (g : FG) (tt : FB) (tk te : FV) (vs : List Nat) : FV := fun as => match it as with
  | none => none
  | some (ds, as1) => if okW as1 vs = true then match loopK g tt tk te vs ds (wipeA as1 vs) [] with
    | some (out, as2) => some (.dict out, backA as1 vs as2)
    | none => none else none
theorem dc_weak {K : PySem.W.Frag} {it : FA} {g : FG} {tt : FB} {tk te : FV} {vs ws : List Nat} (hw : ∀ i ∈ ws, i ∈ vs) : ∀ σ H Q, nOf K (fDc it g tt tk te vs) σ H Q → tDc (iOf K it) (gOf K ws g) (tOf K tt) (vOf K tk) (vOf K te) vs σ H Q := fun σ H Q ⟨W, F, as, d, as', S, e, k⟩ => by
  unfold fDc at e
  cases q : it as with
  | none => rw [q] at e; cases e
  | some p =>
    obtain ⟨ds, as1⟩ := p
    rw [q] at e
    dsimp only at e
    split at e
    · rename_i ok
      cases q2 : loopK g tt tk te vs ds (wipeA as1 vs) [] with
      | none => rw [q2] at e; cases e
      | some p2 =>
        obtain ⟨out, asN⟩ := p2
        rw [q2] at e
        cases e
        refine ⟨W, F, as, ds, as1, S, q, fun J H1 F1 S1 m1 wk D hD => ?_⟩
        have mk0 : Mk K W (wipe σ vs) (upd H1 D (.dK [])) F1 (wipeA as1 vs) D (.dict []) := Mk.wiped ⟨S1.free hD, S1.dom D hD, .inl ⟨[], upd_same, .nil, List.nodup_nil, Nat.zero_le _⟩, Nobody.fresh S1 hD⟩
        refine ⟨fun i m H => i ≤ ds.length ∧ m = ds.length - i ∧ ∃ F' as' acc, St2 K W (wipe σ vs) H F' as' ∧ SameH F1 F' ∧ Mk K W (wipe σ vs) H F' as' D (.dict acc) ∧ hdK acc = true ∧ loopK g tt tk te vs (ds.drop i) as' acc = some (out, asN),
          ⟨_, Nat.zero_le _, rfl, F1, _, [], (S1.laid hD).wiped, Same.refl F1, mk0, rfl, by rw [List.drop_zero]; exact q2⟩, ?_⟩
        rintro i m H' ⟨hi, rfl, F', as', acc, S', m', mk, hk0, e'⟩
        obtain ⟨w1, w2⟩ := wk F' H' m' S'.sub
        by_cases hl : i < ds.length
        · rw [List.drop_eq_getElem_cons hl] at e'
          unfold loopK at e'
          obtain ⟨g1, g2⟩ := w2 i ds[i] (List.getElem?_eq_getElem hl)
          cases q3 : g ds[i] as' with
          | none => rw [q3] at e'; cases e'
          | some as2 =>
            rw [q3] at e'
            dsimp only at e'
            cases q4 : tt as2 with
            | none => rw [q4] at e'; cases e'
            | some p4 =>
              obtain ⟨b, as3⟩ := p4
              rw [q4] at e'
              refine .inr ⟨g1, fun H => ∃ F' as' acc, St2 K W (wipe σ vs) H F' as' ∧ SameH F1 F' ∧ Mk K W (wipe σ vs) H F' as' D (.dict acc) ∧ hdK acc = true ∧ loopK g tt tk te vs (ds.drop (i + 1)) as' acc = some (out, asN), fun H3 h3 => ⟨ds.length - (i + 1), by omega, hl, rfl, h3⟩, fun x H2 y => ?_⟩
              obtain ⟨F2, gr, fr⟩ := g2 x H2 y
              have S2 := gr.st S'
              have mk2 := mk.grown gr
              refine ⟨_, F2, as', ds[i], as2, S2.here, fr, q3, fun σ3 H3 F3 S3 m3 ag => ⟨wipe_agree ag hw, _, F3, as2, b, as3, S3, q4, fun H4 F4 S4 m4 => ?_⟩⟩
              have we := wipe_agree ag hw
              have fin : ∀ {H5 F5 : Hp} {as5 : AS} {acc5 : List (PyData × PyData)}, St2 K (here (wipe σ vs) H2 F2 as') σ3 H5 F5 as5 → SameH F2 F5 → OR K H5 F5 D (.dict acc5) → F5 D = none → hdK acc5 = true → loopK g tt tk te vs (ds.drop (i + 1)) (wipeA as5 vs) acc5 = some (out, asN) → ∃ F' as' acc, St2 K W (wipe σ vs) H5 F' as' ∧ SameH F1 F' ∧ Mk K W (wipe σ vs) H5 F' as' D (.dict acc) ∧ hdK acc = true ∧ loopK g tt tk te vs (ds.drop (i + 1)) as' acc = some (out, asN) := fun {H5 F5 as5 acc5} S5 m5 o5 f5 hk5 e5 => by
                have z1 : St2 K W (wipe σ3 vs) H5 F5 (wipeA as5 vs) := (S2.back S5).wiped
                have z2 : Mk K W (wipe σ3 vs) H5 F5 (wipeA as5 vs) D (.dict acc5) := Mk.wiped ⟨f5, mk2.old, o5, mk2.no.over mk2.obj.there S5⟩
                rw [we] at z1 z2
                exact ⟨F5, _, acc5, z1, (m'.trans gr.ff).trans m5, z2, hk5, e5⟩
              cases b with
              | false =>
                refine iteF ?_
                have mk4 := mk2.over S2 S4 (m3.trans m4)
                exact fin S4 (m3.trans m4) mk4.obj mk4.fp hk0 e'
              | true =>
                refine iteT ?_
                dsimp only at e'
                cases q5 : tk as3 with
                | none => rw [q5] at e'; cases e'
                | some p5 =>
                  obtain ⟨k5, as4⟩ := p5
                  rw [q5] at e'
                  dsimp only at e'
                  cases q6 : te as4 with
                  | none => rw [q6] at e'; cases e'
                  | some p6 =>
                    obtain ⟨y6, as5⟩ := p6
                    rw [q6] at e'
                    dsimp only at e'
                    cases q7 : dKey k5 with
                    | none => rw [q7] at e'; cases e'
                    | some kk =>
                      rw [q7] at e'
                      dsimp only at e'
                      split at e'
                      · rename_i hz
                        refine ⟨_, F4, as3, k5, as4, S4, q5, fun u H5 F5 S5 m5 fr5 => ⟨_, F5, as4, y6, as5, S5, q6, fun v H6 F6 S6 m6 fr6 => ?_⟩⟩
                        have mm := ((m3.trans m4).trans m5).trans m6
                        have mk6 := mk2.over S2 S6 mm
                        rcases mk6.obj with ⟨xs, x1, x2, x3, x4⟩ | ⟨_, _, x2, _, _, _, x6⟩
                        rotate_left
                        · rw [frt_hdK x2 x6] at hk0; cases hk0
                        have hz' : xs.length < sizeLine := by rw [x2.length]; exact hz
                        have hl := length_putK xs kk v
                        refine ⟨xs, kk, kV_of (fr5.gr S5.sub) q7, x1, hz', ?_⟩
                        have new : OR K (upd H6 D (.dK (putK xs kk v))) F6 D (.dict (putKs k5 y6 acc)) := .inl ⟨_, upd_same, by rw [dKey_keyD q7]; exact frk_put fr6 x2 x3, nd_put x3, by omega⟩
                        have z1 : St2 K W (wipe σ3 vs) (upd H6 D (.dK (putK xs kk v))) F6 (wipeA as5 vs) := ((S2.back S6).poke mk6.fp mk6.old mk6.no).wiped
                        have z2 : Mk K W (wipe σ3 vs) (upd H6 D (.dK (putK xs kk v))) F6 (wipeA as5 vs) D (.dict (putKs k5 y6 acc)) := Mk.wiped (mk6.poked new)
                        rw [we] at z1 z2
                        exact ⟨F6, _, _, z1, (m'.trans gr.ff).trans mm, z2, hdK_put q7 hk0, e'⟩
                      · cases e'
        · have ei : i = ds.length := by omega
          subst ei
          rw [List.drop_length] at e'
          unfold loopK at e'
          cases e'
          refine .inl ⟨w1, k D H' F' (S1.unwiped ok S' m') (m1.trans m') mk.fp mk.old mk.obj fun j s d h1 h2 h3 => ?_⟩
          by_cases qj : j ∈ vs
          · exact okW_at ok qj (backA_in (by rw [S'.len, wipe_length, S1.len]) qj h1) h2
          · rw [backA_at qj] at h1
            rw [← wipe_at (vs := vs) qj] at h3
            exact mk.no j s d h1 h2 h3
    · cases e
theorem q_dc {X : Cx} {kx vx tg iter : Expr} {ifs : List Expr} {scope : Scope} {own : List (Str × Nat)} {pos : Pos} {it : FA} {g : FG} {ws : List Nat} {tt : FB} {tk te : FV} (hc : X.calm = true) (hN : X.N.Nodup) (ok : BlkOk X.N X.env.scope scope own) (hw : ∀ i ∈ ws, i ∈ own.map (·.2)) (hi : QI X tg iter it)
    (hg : ∀ (s : Shared) (H : Hp) (C : Addr) (cl : List (Str × Addr)) (fp : List Addr), QG (X.blk s H scope (compEnvC scope cl C X.env) fp) tg ws g) (ht : ∀ (s : Shared) (H : Hp) (C : Addr) (cl : List (Str × Addr)) (fp : List Addr), PTs (X.blk s H scope (compEnvC scope cl C X.env) fp) ifs (tOf X.K tt))
    (hk : ∀ (s : Shared) (H : Hp) (C : Addr) (cl : List (Str × Addr)) (fp : List Addr), QV (X.blk s H scope (compEnvC scope cl C X.env) fp) kx tk)
    (he : ∀ (s : Shared) (H : Hp) (C : Addr) (cl : List (Str × Addr)) (fp : List Addr), QV (X.blk s H scope (compEnvC scope cl C X.env) fp) vx te) (hs : ∀ x, foldedSetIterable iter X.env x = pure x := by intro _; rfl) :
    QN X (.DictComp kx vx [⟨tg, iter, ifs, 0⟩] scope pos) (fDc it g tt tk te (own.map (·.2))) := PE.weak (pe_dc hc hN hi ok hg ht hk he hs) (dc_weak hw)
end PL
/-! PL12: defs and their calls. -/
namespace PL
open PySem PySem.Spec PyProof.Rows L2

/-! ### promises -/
/-- arguments frozen, a frozen value back: what g says -/
def spP (K : PySem.W.Frag) (n : Nat) (g : List D → Option D) : Sp := fun vs H Q _ => vs.length = n ∧ ∃ F ds d, SameH F H ∧ FRs K F vs ds ∧ g ds = some d ∧ ∀ v H' F', Grown H F H' F' → FR K F' v d → Q v H'
/-- what a call does that changes the list, the dict at a alone -/
structure Chg (K : PySem.W.Frag) (H F H' F' : Hp) (a : Addr) (d : D) : Prop where
  ff : SameH F F'
  sub : SameH F' H'
  keep : ∀ b o, H b = some o → b ≠ a → H' b = some o
  new : ∀ b, F' b ≠ none → F b ≠ none ∨ H b = none
  obj : OR K H' F' a d
/-- the first argument is a list, a dict of the caller's own: it is changed in its place -/
def spI (K : PySem.W.Frag) (n : Nat) (g : D → List D → Option (D × D)) : Sp := fun vs H Q _ => vs.length = n ∧ ∃ F a ws db ds d db', vs = .ref a :: ws ∧ F a = none ∧ SameH F H ∧ OR K H F a db ∧ FRs K F ws ds ∧ g db ds = some (d, db') ∧ ∀ v H' F', Chg K H F H' F' a db' → FR K F' v d → Q v H'

/-! ### calls -/
def fCallP (g : List D → Option D) (f : FA) : FV := fun as => match f as with
  | none => none
  | some (ds, as1) => match g ds with
    | some d => some (d, as1)
    | none => none
def fCallI (g : D → List D → Option (D × D)) (i : Nat) (f : FA) : FV := fun as => match heldAt as i with
  | none => none
  | some _ => match f as with
    | none => none
    | some (ds, as1) => match heldAt as1 i with
      | none => none
      | some db => match g db ds with
        | none => none
        | some (d, db') => some (d, putAt as1 i db')
section
variable {K : PySem.W.Frag} {W : W0} {σ σ' : Sg} {H H' F F' : Hp} {as as' : AS}
/-- behind such a call -/
theorem St2.moved (S : St2 K W σ H F as) {i : Nat} {s : Sl} {d d' : D} {a : Addr} (hi : as[i]? = some s) (hs : s.held = some d) (ha : σ[i]? = some (some (.ref a))) (fa : F a = none) (mv : Chg K H F H' F' a d') : St2 K W σ H' F' (as.set i (s.put d')) := by
  have other : ∀ (j : Nat) (t : Sl) (e : D) (b : Addr), j ≠ i → as[j]? = some t → t.held = some e → σ[j]? = some (some (.ref b)) → b ≠ a := fun j t e b ne hj ht hb q => by
    subst q
    exact ne (S.apart j i t s e d b hj hi ht hs hb ha)
  have there : H a ≠ none ∧ (W.H a = none ∨ W.M a) := by
    have z := S.slot i s hi
    cases s with
    | un => cases hs
    | fz _ => cases hs
    | ow e =>
      obtain ⟨b, h1, h2, h3, h4⟩ := z
      rw [ha] at h1
      cases h1
      exact ⟨h4.there, h3.imp id (S.zm _)⟩
    | io e =>
      obtain ⟨b, h1, h2, h3, h4, h5, h6⟩ := z
      rw [ha] at h1
      cases h1
      exact ⟨h6.there, .inr h3⟩
  have dom' : ∀ b, H' b = none → H b = none := fun b e => by
    cases q : H b with
    | none => rfl
    | some o =>
      by_cases z : b = a
      · subst z
        exact absurd e mv.obj.there
      · rw [mv.keep b o q z] at e
        cases e
  have fa' : F' a = none := by
    cases q : F' a with
    | none => rfl
    | some w =>
      rcases mv.new a (by rw [q]; exact fun z => nomatch z) with r | r
      · exact absurd fa r
      · exact absurd r there.1
  have step : ∀ {b : Addr} {e : D}, b ≠ a → F b = none → OR K H F b e → F' b = none ∧ OR K H' F' b e := fun {b e} ne fb o => by
    obtain ⟨u, eu⟩ := Option.ne_none_iff_exists'.mp o.there
    refine ⟨?_, o.step ((mv.keep b u eu ne).trans eu.symm) mv.ff⟩
    cases q : F' b with
    | none => rfl
    | some w =>
      rcases mv.new b (by rw [q]; exact fun z => nomatch z) with r | r
      · exact absurd fb r
      · rw [r] at eu; cases eu
  refine ⟨by rw [List.length_set]; exact S.len, mv.sub, S.mono.trans mv.ff, fun b o e m => ?_, fun b e => S.dom b (dom' b e), fun b e => ?_, S.zm, fun j t e => ?_, fun j k t u d1 d2 b g1 g2 g3 g4 g5 g6 => ?_⟩
  · refine mv.keep b o (S.keep b o e m) fun q => ?_
    subst q
    rcases there.2 with z | z
    · rw [z] at e; cases e
    · exact m z
  · rcases mv.new b e with q | q
    · exact S.new b q
    · exact .inr (.inl (S.dom b q))
  · rcases get_set e with ⟨rfl, rfl, _⟩ | ⟨ne, e⟩
    · have z := S.slot j s hi
      cases s with
      | un => cases hs
      | fz _ => cases hs
      | ow e =>
        obtain ⟨b, h1, h2, h3, h4⟩ := z
        rw [ha] at h1
        cases h1
        exact ⟨a, ha, fa', h3, mv.obj⟩
      | io e =>
        obtain ⟨b, h1, h2, h3, h4, h5, h6⟩ := z
        rw [ha] at h1
        cases h1
        exact ⟨a, ha, fa', h3, h4, h5, mv.obj⟩
    · have z := S.slot j t e
      cases t with
      | un => trivial
      | fz d =>
        obtain ⟨v, h1, h2⟩ := z
        exact ⟨v, h1, h2.mono mv.ff⟩
      | ow e' =>
        obtain ⟨b, h1, h2, h3, h4⟩ := z
        obtain ⟨q1, q2⟩ := step (other j _ _ b ne e rfl h1) h2 h4
        exact ⟨b, h1, q1, h3, q2⟩
      | io e' =>
        obtain ⟨b, h1, h2, h3, h4, h5, h6⟩ := z
        obtain ⟨q1, q2⟩ := step (other j _ _ b ne e rfl h1) h2 h6
        exact ⟨b, h1, q1, h3, h4, h5, q2⟩
  · have key : ∀ {j : Nat} {t : Sl} {d1 : D}, (as.set i (s.put d'))[j]? = some t → t.held = some d1 → ∃ t' d1', as[j]? = some t' ∧ t'.held = some d1' := fun {j t d1} g h => by
      rcases get_set g with ⟨rfl, _, _⟩ | ⟨_, g⟩
      · exact ⟨s, d, hi, hs⟩
      · exact ⟨t, d1, g, h⟩
    obtain ⟨t1, e1, p1, p2⟩ := key g1 g3
    obtain ⟨t2, e2, p3, p4⟩ := key g2 g4
    exact S.apart j k t1 t2 e1 e2 b p1 p3 p2 p4 g5 g6
end
section
variable {X : Cx} {k : Nat} {a : Addr} {fd : FuncData} {ps : List Str} {x : Str} {p pos : Pos} {e : Expr} {es : List Expr} {n : Nat}
theorem q_call {g : List D → Option D} {f : FA} (F : FnOk X.prog X.w X.K X.mg X.base CX0 k a fd ps (spP X.K n g)) (hr : Room k X.A) (hm : X.mg x = some (.ref a)) (hk : PySem.W.keepIn X.K (.ref a) = true) (hb : Binds X.K fd ps []) (ha : QA X (e :: es) f) (hl : ∀ as ds as', f as = some (ds, as') → ds.length = n)
    (hg : Gl X x) (hdb : (x == ("__debug__" : Str)) = false := by decide) (he : starEach (e :: es) X.env = (false, eval e X.env) :: starEach es X.env := by rfl) (hpl : (backTo pos (starEach es X.env)).any (·.1) = false := by rfl) : QV X (.Call (.Name x p) (e :: es) [] pos) (fCallP g f) :=
  PE.weak (pe_call F hr hg hm hk hb .nil pass0 ha hdb he hpl) fun σ H Q ⟨W, F, as, d, as', S, e, k⟩ => by
    unfold fCallP at e
    cases q : f as with
    | none => rw [q] at e; cases e
    | some p =>
      obtain ⟨ds, as1⟩ := p
      rw [q] at e
      dsimp only at e
      cases q2 : g ds with
      | none => rw [q2] at e; cases e
      | some d' =>
        rw [q2] at e
        cases e
        refine ⟨W, F, as, ds, as', S, q, fun vs H1 F1 S1 m1 frs => ?_⟩
        show spP X.K n g (vs ++ []) H1 Q E0
        rw [List.append_nil]
        exact ⟨by rw [frs.length]; exact hl _ _ _ q, F1, ds, d, S1.sub, frs, q2, fun v H2 F2 gr fr => k v H2 F2 (gr.st S1) (m1.trans gr.ff) fr⟩
theorem q_callI (i : Nat) {y : Expr} {g : D → List D → Option (D × D)} {f : FA} (F : FnOk X.prog X.w X.K X.mg X.base CX0 k a fd ps (spI X.K (n + 1) g)) (hr : Room k X.A) (hm : X.mg x = some (.ref a)) (hk : PySem.W.keepIn X.K (.ref a) = true) (hb : Binds X.K fd ps []) (hy : PE X y (tVar i)) (ha : QA X es f) (hl : ∀ as ds as', f as = some (ds, as') → ds.length = n)
    (hg : Gl X x) (hdb : (x == ("__debug__" : Str)) = false := by decide) (he : starEach (y :: es) X.env = (false, eval y X.env) :: starEach es X.env := by rfl) (hpl : (backTo pos (starEach es X.env)).any (·.1) = false := by rfl) : QV X (.Call (.Name x p) (y :: es) [] pos) (fCallI g i f) :=
  PE.weak (pe_call F hr hg hm hk hb .nil pass0 (pa_cons hy ha he) hdb he hpl) fun σ H Q ⟨W, F, as, d, as', S, e, k⟩ => by
    unfold fCallI at e
    cases q0 : heldAt as i with
    | none => rw [q0] at e; cases e
    | some db0 =>
    rw [q0] at e
    dsimp only at e
    obtain ⟨b, eb, _, _⟩ := S.heldAt q0
    cases q : f as with
    | none => rw [q] at e; cases e
    | some p =>
      obtain ⟨ds, as1⟩ := p
      rw [q] at e
      dsimp only at e
      cases q1 : heldAt as1 i with
      | none => rw [q1] at e; cases e
      | some db =>
        rw [q1] at e
        dsimp only at e
        cases q2 : g db ds with
        | none => rw [q2] at e; cases e
        | some r =>
          obtain ⟨d', db'⟩ := r
          rw [q2] at e
          cases e
          refine ⟨_, eb, W, F, as, ds, as1, S, q, fun vs H1 F1 S1 m1 frs => ?_⟩
          show spI X.K (n + 1) g ((.ref b :: vs) ++ []) H1 Q E0
          rw [List.append_nil]
          obtain ⟨c, ec, fc, oc⟩ := S1.heldAt q1
          rw [eb] at ec
          cases ec
          refine ⟨by rw [List.length_cons, frs.length, hl _ _ _ q], F1, b, vs, db, ds, d, db', rfl, fc, S1.sub, oc, frs, q2, fun v H2 F2 mv fr => ?_⟩
          unfold PL.heldAt at q1
          cases z : as1[i]? with
          | none => rw [z] at q1; cases q1
          | some s =>
            rw [z] at q1
            have S2 := S1.moved z q1 eb fc mv
            refine k v H2 F2 ?_ (m1.trans mv.ff) fr
            unfold putAt
            rw [z]
            exact S2
/-- how many a written list of arguments gives -/
theorem len_nil : ∀ (as : AS) (ds : List D) (as' : AS), fNil as = some (ds, as') → ds.length = 0 := fun as ds as' e => by cases e; rfl
theorem len_cons {f : FV} {g : FA} {n : Nat} (h : ∀ (as : AS) (ds : List D) (as' : AS), g as = some (ds, as') → ds.length = n) : ∀ (as : AS) (ds : List D) (as' : AS), fCons f g as = some (ds, as') → ds.length = n + 1 := fun as ds as' e => by
  unfold fCons at e
  cases q : f as with
  | none => rw [q] at e; cases e
  | some p =>
    obtain ⟨d, as1⟩ := p
    rw [q] at e
    dsimp only at e
    cases q2 : g as1 with
    | none => rw [q2] at e; cases e
    | some p2 =>
      obtain ⟨ds2, as2⟩ := p2
      rw [q2] at e
      cases e
      rw [List.length_cons, h _ _ _ q2]
end

/-! ### defs -/
def args0 (N n : Nat) (ds : List D) : AS := ds.map .fz ++ List.replicate (N - n) .un
/-- a def's answer, its arguments frozen: N names, n of them parameters -/
def dPure (N n : Nat) (body : FS) (ds : List D) : Option D := if ds.length = n then match body (args0 N n ds) with
  | some (.rt d _) => some d
  | some (.nx _) => some .none
  | _ => none else none
def argsI (N n : Nat) (db : D) (ds : List D) : AS := .io db :: (ds.map .fz ++ List.replicate (N - n) .un)
def endI (d : D) (as : AS) : Option (D × D) := match (as[0]? : Option Sl) with
  | some (.io db) => some (d, db)
  | _ => none
def dIo (N n : Nat) (body : FS) (db : D) (ds : List D) : Option (D × D) := if ds.length + 1 = n then match body (argsI N n db ds) with
  | some (.rt d as) => endI d as
  | some (.nx as) => endI .none as
  | _ => none else none
section
variable {P : Program} {w : World} {K : PySem.W.Frag} {mg : Str → Option Value} {base : Heap}
theorem st_args {F H : Hp} {vs : List V} {ds : List D} (N : List Str) (sub : SameH F H) (fr : FRs K F vs ds) : St2 K ⟨F, H, fun _ => False, fun _ => False⟩ (L2.start N vs) H F (args0 N.length vs.length ds) where
  len := by
    unfold args0 L2.start
    rw [List.length_append, List.length_append, List.length_map, List.length_map, List.length_replicate, List.length_replicate, fr.length]
  sub := sub
  mono := Same.refl F
  keep := fun a o e _ => e
  dom := fun a e => e
  new := fun a e => .inl e
  zm := fun a z => z
  slot := fun i s e => by
    unfold args0 at e
    by_cases q : i < ds.length
    · rw [List.getElem?_append_left (by rw [List.length_map]; exact q), List.getElem?_map] at e
      cases z : ds[i]? with
      | none => rw [z] at e; cases e
      | some d =>
        rw [z] at e
        cases e
        obtain ⟨v, h1, h2⟩ := fr.get' z
        refine ⟨v, ?_, h2⟩
        unfold L2.start
        rw [List.getElem?_append_left (by rw [List.length_map, fr.length]; exact q), List.getElem?_map, h1]
        rfl
    · rw [List.getElem?_append_right (by rw [List.length_map]; omega)] at e
      have z := (List.getElem?_eq_some_iff.mp e).2
      rw [List.getElem_replicate] at z
      rw [← z]
      trivial
  apart := fun i j s t d e a h1 h2 h3 h4 h5 h6 => by
    have no : ∀ (i : Nat) (s : Sl) (d : D), (args0 N.length vs.length ds)[i]? = some s → s.held = some d → False := fun i s d e h => by
      unfold args0 at e
      by_cases q : i < ds.length
      · rw [List.getElem?_append_left (by rw [List.length_map]; exact q), List.getElem?_map] at e
        cases z : ds[i]? with
        | none => rw [z] at e; cases e
        | some d =>
          rw [z] at e
          cases e
          cases h
      · rw [List.getElem?_append_right (by rw [List.length_map]; omega)] at e
        have z := (List.getElem?_eq_some_iff.mp e).2
        rw [List.getElem_replicate] at z
        rw [← z] at h
        cases h
    exact (no i s d h1 h3).elim
theorem grown_of {W : W0} {σ : Sg} {H F : Hp} {as : AS} (S : St2 K W σ H F as) (hm : ∀ a, ¬ W.M a) : Grown W.H W.F H F :=
  ⟨fun a o e => S.keep a o e (hm a), S.mono, S.sub, fun a e => by
    rcases S.new a e with q | q | q
    · exact .inl q
    · exact .inr q
    · exact absurd (S.zm a q) (hm a)⟩
/-- a def of the text, its arguments frozen -/
theorem def_pure {x : Str} {st : Stmt} {f : Addr} {fd : FuncData} {N ps : List Str} {k : Nat} {body : FS} (F : Fun K x x st f fd) (S : FnScope N ps (defScope st))
    (hb : ∀ (cdv : Value) (A : Around) (outer : List Env) (s : Shared) (H : Hp) (E : XK), Room k (A.deeper (envOfC x (defScope st) s.heap.objs.size f cdv)) → QSs (cxOf CX0 P w K mg base N x (defScope st) f cdv A outer s H E).nox (defBody st) body) :
    FnOk P w K mg base CX0 (k + 1) f fd ps (spP K ps.length (dPure N.length ps.length body)) := by
  refine F.ok S (fun vs H Q E h => h.1) fun cdv A outer s H vs Q E hr ⟨hl, F0, ds, d, sub, fr, e, q⟩ => ⟨_, hb cdv A outer s H E hr, ?_⟩
  have S0 := st_args N sub fr
  rw [hl] at S0
  unfold dPure at e
  split at e
  · cases z : body (args0 N.length ps.length ds) with
    | none => rw [z] at e; cases e
    | some fl =>
      rw [z] at e
      refine ⟨_, F0, _, fl, S0, z, ?_⟩
      cases fl with
      | nx as => cases e; exact fun σ' H' F' S' m => q .non H' F' (grown_of S' fun _ z => z) .non
      | rt d' as => cases e; exact fun v σ' H' F' S' m fr' => q v H' F' (grown_of S' fun _ z => z) fr'
      | bk as => cases e
      | ct as => cases e
  · cases e
theorem st_argsI {F H : Hp} {a : Addr} {db : D} {vs : List V} {ds : List D} (N : List Str) (sub : SameH F H) (fa : F a = none) (o : OR K H F a db) (fr : FRs K F vs ds) (hN : 1 ≤ N.length) : St2 K ⟨F, H, fun b => b = a, fun _ => False⟩ (L2.start N (.ref a :: vs)) H F (argsI N.length (vs.length + 1) db ds) := by
  have S0 := st_args (K := K) (N.drop 1) sub fr
  have e1 : L2.start N (.ref a :: vs) = some (.ref a) :: L2.start (N.drop 1) vs := by
    unfold L2.start
    rw [List.map_cons, List.cons_append, List.length_cons, List.length_drop]
    congr 3
    omega
  have e2 : argsI N.length (vs.length + 1) db ds = .io db :: args0 (N.drop 1).length vs.length ds := by
    unfold argsI args0
    rw [List.length_drop]
    congr 3
    omega
  rw [e1, e2]
  have no : ∀ (i : Nat) (s : Sl) (d : D), (args0 (N.drop 1).length vs.length ds)[i]? = some s → s.held = some d → False := fun i s d e h => by
    unfold args0 at e
    by_cases q : i < ds.length
    · rw [List.getElem?_append_left (by rw [List.length_map]; exact q), List.getElem?_map] at e
      cases z : ds[i]? with
      | none => rw [z] at e; cases e
      | some d =>
        rw [z] at e
        cases e
        cases h
    · rw [List.getElem?_append_right (by rw [List.length_map]; omega)] at e
      have z := (List.getElem?_eq_some_iff.mp e).2
      rw [List.getElem_replicate] at z
      rw [← z] at h
      cases h
  refine ⟨by rw [List.length_cons, List.length_cons, S0.len], sub, Same.refl F, fun b o e _ => e, fun b e => e, fun b e => .inl e, fun b z => z.elim, fun i s e => ?_, fun i j s t d e b h1 h2 h3 h4 h5 h6 => ?_⟩
  · cases i with
    | zero =>
      simp only [List.getElem?_cons_zero, Option.some.injEq] at e
      subst e
      exact ⟨a, rfl, fa, rfl, fun z => z, o.there, o⟩
    | succ i =>
      rw [List.getElem?_cons_succ] at e
      have z := S0.slot i s e
      cases s with
      | un => trivial
      | fz d => exact z
      | ow d => exact (no i _ d e rfl).elim
      | io d => exact (no i _ d e rfl).elim
  · cases i with
    | zero =>
      cases j with
      | zero => rfl
      | succ j =>
        rw [List.getElem?_cons_succ] at h2
        exact (no j _ _ h2 h4).elim
    | succ i =>
      rw [List.getElem?_cons_succ] at h1
      exact (no i _ _ h1 h3).elim
theorem def_io {x : Str} {st : Stmt} {f : Addr} {fd : FuncData} {N ps : List Str} {k : Nat} {body : FS} (F : Fun K x x st f fd) (S : FnScope N ps (defScope st)) (hN : 1 ≤ N.length)
    (hb : ∀ (cdv : Value) (A : Around) (outer : List Env) (s : Shared) (H : Hp) (E : XK), Room k (A.deeper (envOfC x (defScope st) s.heap.objs.size f cdv)) → QSs (cxOf CX0 P w K mg base N x (defScope st) f cdv A outer s H E).nox (defBody st) body) :
    FnOk P w K mg base CX0 (k + 1) f fd ps (spI K ps.length (dIo N.length ps.length body)) := by
  refine F.ok S (fun vs H Q E h => h.1) fun cdv A outer s H vs Q E hr ⟨hl, F0, a, ws, db, ds, d, db', ev, fa, sub, o, fr, e, q⟩ => ⟨_, hb cdv A outer s H E hr, ?_⟩
  subst ev
  have S0 := st_argsI N sub fa o fr hN
  have hl' : ws.length + 1 = ps.length := by rw [← hl, List.length_cons]
  rw [hl'] at S0
  have fin : ∀ {d : D} {as : AS} {σ' : Sg} {H' F' : Hp} {v : V}, endI d as = some (d, db') → St2 K ⟨F0, H, fun b => b = a, fun _ => False⟩ σ' H' F' as → Chg K H F0 H' F' a db' := fun {d as σ' H' F' v} he S' => by
    unfold endI at he
    cases z : as[0]? with
    | none => rw [z] at he; cases he
    | some s =>
      rw [z] at he
      cases s with
      | io d' =>
        cases he
        obtain ⟨b, h1, h2, h3, h4, h5, h6⟩ := S'.slot 0 _ z
        have h3' : b = a := h3
        subst h3'
        exact ⟨S'.mono, S'.sub, fun c u e ne => S'.keep c u e ne, fun c e => by
          rcases S'.new c e with q | q | q
          · exact .inl q
          · exact .inr q
          · exact q.elim, h6⟩
      | _ => cases he
  have same : ∀ {d' : D} {as : AS}, endI d' as = some (d, db') → d' = d := fun {d' as} he => by
    unfold endI at he
    cases z : as[0]? with
    | none => rw [z] at he; cases he
    | some s =>
      rw [z] at he
      cases s with
      | io _ => cases he; rfl
      | _ => cases he
  unfold dIo at e
  split at e
  · cases z : body (argsI N.length ps.length db ds) with
    | none => rw [z] at e; cases e
    | some fl =>
      rw [z] at e
      refine ⟨_, F0, _, fl, S0, z, ?_⟩
      cases fl with
      | nx as =>
        have e' : endI .none as = some (d, db') := e
        have z1 := same e'
        subst z1
        exact fun σ' H' F' S' m => q .non H' F' (fin (v := .non) e' S') .non
      | rt d' as =>
        have e' : endI d' as = some (d, db') := e
        have z1 := same e'
        subst z1
        exact fun v σ' H' F' S' m fr' => q v H' F' (fin (v := .non) e' S') fr'
      | bk as => cases e
      | ct as => cases e
  · cases e
end
theorem s_never {X : Cx} {st : Stmt} : QS X st (fun _ => none) := PS.weak ps_never fun N σ H ⟨W, F, as, fl, S, e, k⟩ => by cases e
theorem ss_never {X : Cx} {st : List Stmt} : QSs X st (fun _ => none) := PSs.weak pss_never fun N σ H ⟨W, F, as, fl, S, e, k⟩ => by cases e
end PL
/-! PL13: comprehensions that are stored, of two clauses; list(d.items()); odds and ends. -/
namespace PL
open PySem PySem.Spec PyProof.Rows L2

theorem hu64 {k : Nat} {A : Around} (r : Room k A) : A.units + 64 < cLine := by have := r.un; omega
theorem hu65 {k : Nat} {A : Around} (r : Room k A) : A.units + 65 < cLine := by have := r.un; omega
section
variable {P : Program} {w : World} {K : PySem.W.Frag} {mg : Str → Option Value} {base : Heap} {f : Addr} {fd : FuncData} {ps : List Str}
theorem fn_none {n : Nat} (h : n = ps.length := by rfl) : FnOk P w K mg base CX0 0 f fd ps (spP K n fun _ => none) :=
  ⟨fun vs H Q E q => q.1.trans h, fun A outer s H args us vs Q E _ _ _ _ q => by
    obtain ⟨_, F, ds, d, _, _, e, _⟩ := q
    cases e⟩
theorem io_none {n : Nat} (h : n = ps.length := by rfl) : FnOk P w K mg base CX0 0 f fd ps (spI K n fun _ _ => none) :=
  ⟨fun vs H Q E q => q.1.trans h, fun A outer s H args us vs Q E _ _ _ _ q => by
    obtain ⟨_, F, a, ws, db, ds, d, db', _, _, _, _, _, e, _⟩ := q
    cases e⟩
end

/-! ### y = [..], y = {..} on one line -/
theorem asg_weak {te te' : TE} {g : TG} (h : ∀ σ H Q, te' σ H Q → te σ H Q) : ∀ N σ H, tAsg te' g N σ H → tAsg te g N σ H := fun N σ H q => h σ H _ q
theorem s_setLc (i : Nat) {X : Cx} {y : Str} {py : Pos} {elt tg iter : Expr} {ifs : List Expr} {scope : Scope} {own : List (Str × Nat)} {pos spos : Pos} {it : FA} {g : FG} {ws : List Nat} {tt : FB} {te : FV} (hc : X.calm = true) (hN : X.N.Nodup) (hy : X.N[i]? = some y) (hyl : X.env.scope.names.lookup y = some .local)
    (hsw : swapsWith (.ListComp elt [⟨tg, iter, ifs, 0⟩] scope pos) (some (.Name y py)) spos.line X.env = pure true) (ok : BlkOk X.N X.env.scope scope own) (hw : ∀ i ∈ ws, i ∈ own.map (·.2)) (hi : QI X tg iter it)
    (hg : ∀ (s : Shared) (H : Hp) (C : Addr) (cl : List (Str × Addr)) (fp : List Addr), QG (X.blk s H scope (compEnvC scope cl C X.env) fp) tg ws g) (ht : ∀ (s : Shared) (H : Hp) (C : Addr) (cl : List (Str × Addr)) (fp : List Addr), PTs (X.blk s H scope (compEnvC scope cl C X.env) fp) ifs (tOf X.K tt))
    (he : ∀ (s : Shared) (H : Hp) (C : Addr) (cl : List (Str × Addr)) (fp : List Addr), QV (X.blk s H scope (compEnvC scope cl C X.env) fp) elt te) (hs : ∀ x, foldedSetIterable iter X.env x = pure x := by intro _; rfl) :
    QS X (.Assign [.Name y py] (.ListComp elt [⟨tg, iter, ifs, 0⟩] scope pos) spos) (fSetN i (fLc it g tt te (own.map (·.2)))) :=
  PS.weak (ps_setLc hc hN hy hyl hsw hi ok hg ht he hs) fun N σ H h => asg_weak (lc_weak hw) N σ H (setN_weak (X := X) N σ H h)

/-! ### a comparison as a test -/
theorem q_testC {X : Cx} {a b : Expr} {fa fb : FE} {pos : Pos} {g : D → D → Option D} {op : CmpOp} (ho : OpR X (compareOp op) (rG X.K g)) (ha : QE X a fa) (hb : QE X b fb) (hm : behindInMarks op b = false) : QT X (.Compare a [op] [b] pos) (fBool (fBin g fa fb)) :=
  PT.weak (pt_cmpR ho ha hb hm) fun σ H Q ⟨W, F, as, b, as', S, e, k⟩ => bin_weak σ H _ ⟨W, F, as, .bool b, as', S, fBool_inv e, fun v H' F' S' m fr => by cases fr; exact ⟨b, rfl, k H' F' S' m⟩⟩

/-! ### list(d.items()) -/
def fItems (f : FV) : FV := fun as => match f as with
  | some (.dict ks, as1) => some (.list (ks.map fun p => .tuple [p.1, p.2]), as1)
  | _ => none

/-! ### [elt for tg in iter if .. for tg1 in iter1 if ..] -/
def loopC2 (g : FG) (tt : FB) (it1 : FA) (g1 : FG) (tt1 : FB) (te : FV) (vs vs1 : List Nat) : List D → AS → List D → Option (List D × AS)
  | [], as, acc => some (acc, as)
  | d :: r, as, acc => match g d as with
    | none => none
    | some as1 => match tt as1 with
      | none => none
      | some (false, as2) => loopC2 g tt it1 g1 tt1 te vs vs1 r (wipeA as2 vs) acc
      | some (true, as2) => match it1 as2 with
        | none => none
        | some (es, as3) => match loopC g1 tt1 te vs1 es (wipeA as3 vs1) acc with
          | none => none
          | some (acc', as4) => loopC2 g tt it1 g1 tt1 te vs vs1 r (wipeA as4 vs) acc'
def fLc2 (it : FA) (g : FG) (tt : FB) (it1 : FA) (g1 : FG) (tt1 : FB) (te : FV) (vs vs1 : List Nat) : FV := fun as => match it as with
  | none => none
  | some (ds, as1) => if okW as1 vs = true then match loopC2 g tt it1 g1 tt1 te vs vs1 ds (wipeA as1 vs) [] with
    | some (out, as2) => some (.list out, backA as1 vs as2)
    | none => none else none

/-- the second source's loop -/
theorem lc2_inner {K : PySem.W.Frag} {g1 : FG} {tt1 : FB} {te : FV} {vs1 ws1 : List Nat} (hw1 : ∀ i ∈ ws1, i ∈ vs1) {W : W0} {σ2 : Sg} {p : Addr} {Nx : Hp → Prop} {J : It} {H4 F4 : Hp} {as4 as5 : AS} {es acc acc' : List PyData}
    (S4 : St2 K W σ2 H4 F4 as4) (wk : WalkOk K J F4 es) (mk : Mk K W σ2 H4 F4 as4 p (.list acc)) (e : loopC g1 tt1 te vs1 es (wipeA as4 vs1) acc = some (acc', as5))
    (fin : ∀ H F, St2 K W (wipe σ2 vs1) H F as5 → SameH F4 F → Mk K W (wipe σ2 vs1) H F as5 p (.list acc') → Nx H) :
    ∃ W1 : Nat → Nat → Hp → Prop, (∃ m, W1 0 m H4) ∧ ∀ j k H, W1 j k H →
      (J.stop j H ∧ Nx H) ∨ (J.go j H ∧ ∃ Nx1 : Hp → Prop, (∀ H', Nx1 H' → ∃ k', k' < k ∧ W1 (j + 1) k' H') ∧ ∀ x H', J.yld j H x H' → gOf K ws1 g1 x (wipe σ2 vs1) H' fun σ3 H5 => wipe σ3 vs1 = wipe σ2 vs1 ∧ tOf K tt1 σ3 H5 fun b H6 =>
        if b = true then vOf K te σ3 H6 fun y H7 => ∃ acc, H7 p = some (.lst acc) ∧ acc.length < sizeLine ∧ Nx1 (upd H7 p (.lst (acc ++ [y]))) else Nx1 H6) := by
  refine ⟨fun i m H => i ≤ es.length ∧ m = es.length - i ∧ ∃ F' as' acc1, St2 K W (wipe σ2 vs1) H F' as' ∧ SameH F4 F' ∧ Mk K W (wipe σ2 vs1) H F' as' p (.list acc1) ∧ loopC g1 tt1 te vs1 (es.drop i) as' acc1 = some (acc', as5),
    ⟨_, Nat.zero_le _, rfl, F4, _, acc, S4.wiped, Same.refl F4, mk.wiped, by rw [List.drop_zero]; exact e⟩, ?_⟩
  rintro i m H' ⟨hi, rfl, F', as', acc1, S', m', mk', e'⟩
  obtain ⟨w1, w2⟩ := wk F' H' m' S'.sub
  by_cases hl : i < es.length
  · rw [List.drop_eq_getElem_cons hl] at e'
    unfold loopC at e'
    obtain ⟨g1', g2⟩ := w2 i es[i] (List.getElem?_eq_getElem hl)
    cases q3 : g1 es[i] as' with
    | none => rw [q3] at e'; cases e'
    | some as2 =>
      rw [q3] at e'
      dsimp only at e'
      cases q4 : tt1 as2 with
      | none => rw [q4] at e'; cases e'
      | some p4 =>
        obtain ⟨b, as3⟩ := p4
        rw [q4] at e'
        refine .inr ⟨g1', fun H => ∃ F' as' acc1, St2 K W (wipe σ2 vs1) H F' as' ∧ SameH F4 F' ∧ Mk K W (wipe σ2 vs1) H F' as' p (.list acc1) ∧ loopC g1 tt1 te vs1 (es.drop (i + 1)) as' acc1 = some (acc', as5), fun H3 h3 => ⟨es.length - (i + 1), by omega, hl, rfl, h3⟩, fun x H2 y => ?_⟩
        obtain ⟨F2, gr, fr⟩ := g2 x H2 y
        have S2 := gr.st S'
        have mk2 := mk'.grown gr
        refine ⟨_, F2, as', es[i], as2, S2.here, fr, q3, fun σ3 H3 F3 S3 m3 ag => ⟨wipe_agree ag hw1, _, F3, as2, b, as3, S3, q4, fun H5 F5 S5 m5 => ?_⟩⟩
        have we := wipe_agree ag hw1
        have fin1 : ∀ {H6 F6 : Hp} {as6 : AS} {acc6 : List PyData}, St2 K W σ3 H6 F6 as6 → SameH F2 F6 → Mk K W σ3 H6 F6 as6 p (.list acc6) → loopC g1 tt1 te vs1 (es.drop (i + 1)) (wipeA as6 vs1) acc6 = some (acc', as5) → ∃ F' as' acc1, St2 K W (wipe σ2 vs1) H6 F' as' ∧ SameH F4 F' ∧ Mk K W (wipe σ2 vs1) H6 F' as' p (.list acc1) ∧ loopC g1 tt1 te vs1 (es.drop (i + 1)) as' acc1 = some (acc', as5) := fun {H6 F6 as6 acc6} S6 m6 k6 e6 => by
          have z1 : St2 K W (wipe σ3 vs1) H6 F6 (wipeA as6 vs1) := S6.wiped
          have z2 : Mk K W (wipe σ3 vs1) H6 F6 (wipeA as6 vs1) p (.list acc6) := k6.wiped
          rw [we] at z1 z2
          exact ⟨F6, _, acc6, z1, (m'.trans gr.ff).trans m6, z2, e6⟩
        cases b with
        | false =>
          refine iteF ?_
          exact fin1 (S2.back S5) (m3.trans m5) (mk2.over S2 S5 (m3.trans m5)) e'
        | true =>
          refine iteT ?_
          dsimp only at e'
          cases q5 : te as3 with
          | none => rw [q5] at e'; cases e'
          | some p5 =>
            obtain ⟨y5, as6⟩ := p5
            rw [q5] at e'
            dsimp only at e'
            split at e'
            · rename_i hz
              refine ⟨_, F5, as3, y5, as6, S5, q5, fun v H6 F6 S6 m6 fr6 => ?_⟩
              have mm := (m3.trans m5).trans m6
              have mk6 := mk2.over S2 S6 mm
              obtain ⟨xs, x1, x2, x3⟩ := mk6.obj
              have hz' : xs.length < sizeLine := by rw [x2.length]; exact hz
              refine ⟨xs, x1, hz', fin1 ((S2.back S6).poke mk6.fp mk6.old mk6.no) mm (mk6.poked ⟨_, upd_same, x2.append (.cons fr6 .nil), by rw [List.length_append, List.length_singleton]; omega⟩) e'⟩
            · cases e'
  · have ei : i = es.length := by omega
    subst ei
    rw [List.drop_length] at e'
    unfold loopC at e'
    cases e'
    exact .inl ⟨w1, fin H' F' S' m' mk'⟩
theorem wipe_two {σ : Sg} {vs vs1 : List Nat} (h : ∀ i ∈ vs1, i ∈ vs) : wipe (wipe σ vs1) vs = wipe σ vs := by
  apply List.ext_getElem?
  intro j
  by_cases q : j ∈ vs
  · by_cases l : j < σ.length
    · rw [wipe_in q l, wipe_in q (by rw [wipe_length]; exact l)]
    · rw [List.getElem?_eq_none (by rw [wipe_length, wipe_length]; omega), List.getElem?_eq_none (by rw [wipe_length]; omega)]
  · rw [wipe_at q, wipe_at q, wipe_at fun z => q (h j z)]
theorem lc2_weak {K : PySem.W.Frag} {it it1 : FA} {g g1 : FG} {tt tt1 : FB} {te : FV} {vs vs1 ws ws1 : List Nat} (hw : ∀ i ∈ ws, i ∈ vs) (hw1 : ∀ i ∈ ws1, i ∈ vs1) (hv : ∀ i ∈ vs1, i ∈ vs) : ∀ σ H Q, nOf K (fLc2 it g tt it1 g1 tt1 te vs vs1) σ H Q → tLc2 (iOf K it) (gOf K ws g) (tOf K tt) (iOf K it1) (gOf K ws1 g1) (tOf K tt1) (vOf K te) vs vs1 σ H Q := fun σ H Q ⟨W, F, as, d, as', S, e, k⟩ => by
  unfold fLc2 at e
  cases q : it as with
  | none => rw [q] at e; cases e
  | some p =>
    obtain ⟨ds, as1⟩ := p
    rw [q] at e
    dsimp only at e
    split at e
    · rename_i ok
      cases q2 : loopC2 g tt it1 g1 tt1 te vs vs1 ds (wipeA as1 vs) [] with
      | none => rw [q2] at e; cases e
      | some p2 =>
        obtain ⟨out, asN⟩ := p2
        rw [q2] at e
        cases e
        refine ⟨W, F, as, ds, as1, S, q, fun J H1 F1 S1 m1 wk D hD => ?_⟩
        have mk0 : Mk K W (wipe σ vs) (upd H1 D (.lst [])) F1 (wipeA as1 vs) D (.list []) := Mk.wiped ⟨S1.free hD, S1.dom D hD, ⟨[], upd_same, .nil, Nat.zero_le _⟩, Nobody.fresh S1 hD⟩
        refine ⟨fun i m H => i ≤ ds.length ∧ m = ds.length - i ∧ ∃ F' as' acc, St2 K W (wipe σ vs) H F' as' ∧ SameH F1 F' ∧ Mk K W (wipe σ vs) H F' as' D (.list acc) ∧ loopC2 g tt it1 g1 tt1 te vs vs1 (ds.drop i) as' acc = some (out, asN),
          ⟨_, Nat.zero_le _, rfl, F1, _, [], (S1.laid hD).wiped, Same.refl F1, mk0, by rw [List.drop_zero]; exact q2⟩, ?_⟩
        rintro i m H' ⟨hi, rfl, F', as', acc, S', m', mk, e'⟩
        obtain ⟨w1, w2⟩ := wk F' H' m' S'.sub
        by_cases hl : i < ds.length
        · rw [List.drop_eq_getElem_cons hl] at e'
          unfold loopC2 at e'
          obtain ⟨g1', g2⟩ := w2 i ds[i] (List.getElem?_eq_getElem hl)
          cases q3 : g ds[i] as' with
          | none => rw [q3] at e'; cases e'
          | some as2 =>
            rw [q3] at e'
            dsimp only at e'
            cases q4 : tt as2 with
            | none => rw [q4] at e'; cases e'
            | some p4 =>
              obtain ⟨b, as3⟩ := p4
              rw [q4] at e'
              refine .inr ⟨g1', fun H => ∃ F' as' acc, St2 K W (wipe σ vs) H F' as' ∧ SameH F1 F' ∧ Mk K W (wipe σ vs) H F' as' D (.list acc) ∧ loopC2 g tt it1 g1 tt1 te vs vs1 (ds.drop (i + 1)) as' acc = some (out, asN), fun H3 h3 => ⟨ds.length - (i + 1), by omega, hl, rfl, h3⟩, fun x H2 y => ?_⟩
              obtain ⟨F2, gr, fr⟩ := g2 x H2 y
              have S2 := gr.st S'
              have mk2 := mk.grown gr
              refine ⟨_, F2, as', ds[i], as2, S2.here, fr, q3, fun σ3 H3 F3 S3 m3 ag => ⟨wipe_agree ag hw, _, F3, as2, b, as3, S3, q4, fun H4 F4 S4 m4 => ?_⟩⟩
              have we := wipe_agree ag hw
              have fin : ∀ {H5 F5 : Hp} {as5 : AS} {acc5 : List PyData} {τ : Sg}, wipe τ vs = wipe σ vs → St2 K W τ H5 F5 as5 → SameH F2 F5 → Mk K W τ H5 F5 as5 D (.list acc5) → loopC2 g tt it1 g1 tt1 te vs vs1 (ds.drop (i + 1)) (wipeA as5 vs) acc5 = some (out, asN) → ∃ F' as' acc, St2 K W (wipe σ vs) H5 F' as' ∧ SameH F1 F' ∧ Mk K W (wipe σ vs) H5 F' as' D (.list acc) ∧ loopC2 g tt it1 g1 tt1 te vs vs1 (ds.drop (i + 1)) as' acc = some (out, asN) := fun {H5 F5 as5 acc5 τ} et S5 m5 k5 e5 => by
                have z1 : St2 K W (wipe τ vs) H5 F5 (wipeA as5 vs) := S5.wiped
                have z2 : Mk K W (wipe τ vs) H5 F5 (wipeA as5 vs) D (.list acc5) := k5.wiped
                rw [et] at z1 z2
                exact ⟨F5, _, acc5, z1, (m'.trans gr.ff).trans m5, z2, e5⟩
              cases b with
              | false =>
                refine iteF ?_
                exact fin we (S2.back S4) (m3.trans m4) (mk2.over S2 S4 (m3.trans m4)) e'
              | true =>
                refine iteT ?_
                dsimp only at e'
                cases q5 : it1 as3 with
                | none => rw [q5] at e'; cases e'
                | some p5 =>
                  obtain ⟨es, as4⟩ := p5
                  rw [q5] at e'
                  dsimp only at e'
                  cases q6 : loopC g1 tt1 te vs1 es (wipeA as4 vs1) acc with
                  | none => rw [q6] at e'; cases e'
                  | some p6 =>
                    obtain ⟨acc6, as6⟩ := p6
                    rw [q6] at e'
                    refine ⟨_, F4, as3, es, as4, S4, q5, fun J1 H5 F5 S5 m5 wk1 => ?_⟩
                    have mm := (m3.trans m4).trans m5
                    refine lc2_inner hw1 (S2.back S5) wk1 (mk2.over S2 S5 mm) q6 fun H6 F6 S6 m6 mk6 => fin (by rw [wipe_two hv]; exact we) S6 (mm.trans m6) mk6 e'
        · have ei : i = ds.length := by omega
          subst ei
          rw [List.drop_length] at e'
          unfold loopC2 at e'
          cases e'
          refine .inl ⟨w1, k D H' F' (S1.unwiped ok S' m') (m1.trans m') mk.fp mk.old mk.obj fun j s d h1 h2 h3 => ?_⟩
          by_cases qj : j ∈ vs
          · exact okW_at ok qj (backA_in (by rw [S'.len, wipe_length, S1.len]) qj h1) h2
          · rw [backA_at qj] at h1
            rw [← wipe_at (vs := vs) qj] at h3
            exact mk.no j s d h1 h2 h3
    · cases e
theorem q_lc2 {X : Cx} {elt tg iter tg1 iter1 : Expr} {ifs ifs1 : List Expr} {scope : Scope} {own : List (Str × Nat)} {vs1 : List Nat} {pos : Pos} {it it1 : FA} {g g1 : FG} {ws ws1 : List Nat} {tt tt1 : FB} {te : FV} (hc : X.calm = true) (hN : X.N.Nodup) (ok : BlkOk X.N X.env.scope scope own) (hv : ∀ i ∈ vs1, i ∈ own.map (·.2)) (hw : ∀ i ∈ ws, i ∈ own.map (·.2)) (hw1 : ∀ i ∈ ws1, i ∈ vs1) (hi : QI X tg iter it)
    (hg : ∀ (s : Shared) (H : Hp) (C : Addr) (cl : List (Str × Addr)) (fp : List Addr), QG (X.blk s H scope (compEnvC scope cl C X.env) fp) tg ws g) (ht : ∀ (s : Shared) (H : Hp) (C : Addr) (cl : List (Str × Addr)) (fp : List Addr), PTs (X.blk s H scope (compEnvC scope cl C X.env) fp) ifs (tOf X.K tt)) (hi1 : ∀ (s : Shared) (H : Hp) (C : Addr) (cl : List (Str × Addr)) (fp : List Addr), QI (X.blk s H scope (compEnvC scope cl C X.env) fp) tg1 iter1 it1) (hg1 : ∀ (s : Shared) (H : Hp) (C : Addr) (cl : List (Str × Addr)) (fp : List Addr), QG (X.blk s H scope (compEnvC scope cl C X.env) fp) tg1 ws1 g1) (ht1 : ∀ (s : Shared) (H : Hp) (C : Addr) (cl : List (Str × Addr)) (fp : List Addr), PTs (X.blk s H scope (compEnvC scope cl C X.env) fp) ifs1 (tOf X.K tt1))
    (he : ∀ (s : Shared) (H : Hp) (C : Addr) (cl : List (Str × Addr)) (fp : List Addr), QV (X.blk s H scope (compEnvC scope cl C X.env) fp) elt te) (hs : ∀ x, foldedSetIterable iter X.env x = pure x := by intro _; rfl) (hs1 : ∀ env x, foldedSetIterable iter1 env x = pure x := by intro _ _; rfl) :
    QN X (.ListComp elt [⟨tg, iter, ifs, 0⟩, ⟨tg1, iter1, ifs1, 0⟩] scope pos) (fLc2 it g tt it1 g1 tt1 te (own.map (·.2)) vs1) := PE.weak (pe_lc2 hc hN hi ok hv hg ht hi1 hg1 ht1 he hs hs1) (lc2_weak hw hw1 hv)
theorem s_setLc2 (i : Nat) {X : Cx} {elt tg iter tg1 iter1 : Expr} {ifs ifs1 : List Expr} {scope : Scope} {own : List (Str × Nat)} {vs1 : List Nat} {pos : Pos} {it it1 : FA} {g g1 : FG} {ws ws1 : List Nat} {tt tt1 : FB} {te : FV} {y : Str} {py spos : Pos} (hc : X.calm = true) (hN : X.N.Nodup) (hy : X.N[i]? = some y) (hyl : X.env.scope.names.lookup y = some .local)
    (hsw : swapsWith (.ListComp elt [⟨tg, iter, ifs, 0⟩, ⟨tg1, iter1, ifs1, 0⟩] scope pos) (some (.Name y py)) spos.line X.env = pure true) (ok : BlkOk X.N X.env.scope scope own) (hv : ∀ i ∈ vs1, i ∈ own.map (·.2)) (hw : ∀ i ∈ ws, i ∈ own.map (·.2)) (hw1 : ∀ i ∈ ws1, i ∈ vs1) (hi : QI X tg iter it)
    (hg : ∀ (s : Shared) (H : Hp) (C : Addr) (cl : List (Str × Addr)) (fp : List Addr), QG (X.blk s H scope (compEnvC scope cl C X.env) fp) tg ws g) (ht : ∀ (s : Shared) (H : Hp) (C : Addr) (cl : List (Str × Addr)) (fp : List Addr), PTs (X.blk s H scope (compEnvC scope cl C X.env) fp) ifs (tOf X.K tt)) (hi1 : ∀ (s : Shared) (H : Hp) (C : Addr) (cl : List (Str × Addr)) (fp : List Addr), QI (X.blk s H scope (compEnvC scope cl C X.env) fp) tg1 iter1 it1) (hg1 : ∀ (s : Shared) (H : Hp) (C : Addr) (cl : List (Str × Addr)) (fp : List Addr), QG (X.blk s H scope (compEnvC scope cl C X.env) fp) tg1 ws1 g1) (ht1 : ∀ (s : Shared) (H : Hp) (C : Addr) (cl : List (Str × Addr)) (fp : List Addr), PTs (X.blk s H scope (compEnvC scope cl C X.env) fp) ifs1 (tOf X.K tt1))
    (he : ∀ (s : Shared) (H : Hp) (C : Addr) (cl : List (Str × Addr)) (fp : List Addr), QV (X.blk s H scope (compEnvC scope cl C X.env) fp) elt te) (hs : ∀ x, foldedSetIterable iter X.env x = pure x := by intro _; rfl) (hs1 : ∀ env x, foldedSetIterable iter1 env x = pure x := by intro _ _; rfl) :
    QS X (.Assign [.Name y py] (.ListComp elt [⟨tg, iter, ifs, 0⟩, ⟨tg1, iter1, ifs1, 0⟩] scope pos) spos) (fSetN i (fLc2 it g tt it1 g1 tt1 te (own.map (·.2)) vs1)) :=
  PS.weak (ps_setLc2 hc hN hy hyl hsw hi ok hv hg ht hi1 hg1 ht1 he hs hs1) fun N σ H h => asg_weak (lc2_weak hw hw1 hv) N σ H (setN_weak (X := X) N σ H h)
end PL
/-! PL14: sets of texts that are sorted at once; list(d.items()). -/
namespace PL
open PySem PySem.Spec PyProof.Rows L2

/-! ### a set of texts -/
/-- the set at a holds the texts l, each once -/
def TxtSet (P : Program) (w : World) (h : Heap) (a : Addr) (l : List Str) : Prop :=
  ∃ D : PySem.Froz.SD, h.get? a = some (PySem.Froz.sObj "set" D) ∧ PySem.Froz.TxOk P w D l ∧ l.Nodup ∧ l.length < scanBound ∧ Ris D.2.2.place.toList ∧ (w.params.followText "set-order" = true ∨ D.2.2.led = true)
def insS (x : Str) (l : List Str) : List Str := if x ∈ l then l else x :: l
theorem ris_tail {ep : Nat} {es : Array (Int × Value)} {t : SetTable} {d : Bool} (r : Ris t.place.toList) : Ris (PySem.Froz.tailTx ep es t d).2.2.place.toList := by
  unfold PySem.Froz.tailTx
  split
  · exact relayAll_ris _ _ _
  · exact r
theorem led_tail {ep : Nat} {es : Array (Int × Value)} {t : SetTable} {d : Bool} (r : t.led = true) : (PySem.Froz.tailTx ep es t d).2.2.led = true := by
  unfold PySem.Froz.tailTx
  split
  · show (relayAll t es (SetTable.grown es.size)).2.1.led = true
    rw [relayAll_led]
    exact r
  · exact r
theorem ris_add {h : Int} {v : Value} {D : PySem.Froz.SD} (r : Ris D.2.2.place.toList) : Ris (PySem.Froz.addTx h v D).2.2.place.toList := by
  have r1 := layNew_ris D.2.2 D.1 h v r
  refine ris_tail ?_
  split
  · exact r1
  · exact r1
theorem led_add {h : Int} {v : Value} {D : PySem.Froz.SD} (r : D.2.2.led = true) : (PySem.Froz.addTx h v D).2.2.led = true := by
  have r1 : (layNew D.2.2 D.1 h v).2.1.led = true := by rw [layNew_led]; exact r
  refine led_tail ?_
  split
  · exact r1
  · exact r1
theorem TxtSet.at {P : Program} {w : World} {h h' : Heap} {a : Addr} {l : List Str} (R : TxtSet P w h a l) (k : ∀ o, h.get? a = some o → h'.get? a = some o) : TxtSet P w h' a l := by
  obtain ⟨D, ho, r⟩ := R
  exact ⟨D, k _ ho, r⟩
section
variable {P : Program} {w : World} {A : Around} {E : Value → Shared → Prop} {s : Shared} {a : Addr} {l : List Str}
/-- it is in already -/
theorem add_known {k : Str} {u : Tok} {Q : Bool → Shared → Prop} (R : TxtSet P w s.heap a l) (hk : k ∈ l) (h : Q false s) : wpAny (model P w) A (setAddHashed a (.str k u) (hashStr w k)) Q E s := by
  obtain ⟨⟨es, ep, t⟩, ho, F, nd, hb, _⟩ := R
  have hd : (PySem.Froz.sObj "set" (es, ep, t)).data = .set es ep t := rfl
  have size_es : es.size = l.length := F.sz
  have small : es.size < scanBound := by rw [size_es]; exact hb
  obtain ⟨e0, he0, q0⟩ := (F.mem k).mp hk
  unfold setAddHashed setAddHashedIn
  refine wpAny_holding (wpAny_bind (wpAny_setState_of ho hd F.fit ?_))
  dsimp only
  rw [byScan_of (x := Value.str k u) rfl small F.el]
  simp only [↓reduceIte]
  unfold setAddByScan
  refine wpAny_bind (wpAny_bind (wpAny_rule (wpAny_bind (wpAny_setScan_of (knd := strKind P w) (PySem.Froz.is_str k u) ho hd F.fit F.el ?_))))
  cases hfi : List.findIdx? (fun e => (strKind P w).is k e.2) es.toList with
  | none =>
    have c := List.findIdx?_eq_none_iff.mp hfi e0 he0
    rw [q0] at c
    cases c
  | some j => exact wpAny_pure (wpAny_pure h)
theorem txt_add {k : Str} {u : Tok} {Q : Value → Shared → Prop} (R : TxtSet P w s.heap a l) (room : l.length + 1 < scanBound)
    (hQ : ∀ h', Heap.SameBut a s.heap h' → TxtSet P w h' a (insS k l) → Q .none { s with heap := h', toks := s.toks + 1 }) : wpAny (model P w) A (call (.builtin "set.add") [.ref a, .str k u]) Q E s := by
  have R0 := R
  obtain ⟨D, ho, F, nd, hb, hr, hl⟩ := R
  have is_set : s.TypeIs (.ref a) "set" := ⟨_, ho, rfl⟩
  refine wpAny_call_entry PySem.F.slot_set_add is_set PySem.F.entry_set_add ?_ (PySem.F.args_set_add_2 _ _)
  unfold Builtin.«set.add» Builtin.Frozenset.oneOther
  simp only [List.isEmpty_nil, bind_assoc]
  unfold Builtin.Frozenset.addrOf setAdd
  refine wpAny_bind (wpAny_pure ?_)
  try dsimp only
  refine wpAny_bind (wpAny_pure ?_)
  try dsimp only
  refine wpAny_bind (wpAny_holding (wpAny_bind ((strKind P w).pyHash (PySem.Froz.is_str k u) ?_)))
  have fin : ∀ h', Heap.SameBut a s.heap h' → TxtSet P w h' a (insS k l) → wpAny (model P w) A.in1 (ret Value.none) (fun fin s' => ∃ v, fin = .done (.ret v) ∧ Q v s') E { s with heap := h', toks := s.toks + 1 } := fun h' sb r => wpAny_pure ⟨_, rfl, hQ h' sb r⟩
  by_cases hk : k ∈ l
  · refine add_known (s := { s with toks := s.toks + 1 }) R0 hk ?_
    refine fin s.heap (Heap.SameBut.refl a s.heap) ?_
    unfold insS
    rw [if_pos hk]
    exact R0
  · refine PySem.Froz.add_x (s := { s with toks := s.toks + 1 }) ho F hk room ?_
    refine fin _ (Heap.SameBut.update s.heap a _) ?_
    unfold insS
    rw [if_neg hk]
    exact ⟨_, PySem.Froz.get_upd _ ho rfl, PySem.Froz.add_ok u F, List.nodup_cons.mpr ⟨hk, nd⟩, by rw [List.length_cons]; exact room, ris_add hr, hl.imp id led_add⟩
theorem txt_fresh {h : Heap} (w : World) : TxtSet P w (h.push { cls := .type "set", dict := none, data := .set #[] 0 (.fresh 0 0 (!w.params.followText "set-order")) }) h.objs.size [] :=
  ⟨(#[], 0, .fresh 0 0 (!w.params.followText "set-order")), Heap.get?_push_size _ rfl, PySem.Froz.TxOk.nil (by rfl), List.nodup_nil, by decide, List.Pairwise.nil, by
    show _ ∨ (!w.params.followText "set-order") = true
    cases w.params.followText "set-order"
    · exact .inr rfl
    · exact .inl rfl⟩
/-- what walking the set gives -/
theorem txt_perm : ∀ {l ys : List Str}, l.Nodup → (∀ k ∈ l, k ∈ ys) → ys.length = l.length → ys.Perm l
  | [], ys, _, _, e => by
    have : ys = [] := List.eq_nil_of_length_eq_zero e
    rw [this]
  | x :: l, ys, nd, sub, e => by
    obtain ⟨h1, h2⟩ := List.nodup_cons.mp nd
    have hx := sub x List.mem_cons_self
    refine (List.perm_cons_erase hx).trans (List.Perm.cons x (txt_perm h2 (fun k hk => ?_) ?_))
    · have ne : k ≠ x := fun z => h1 (z ▸ hk)
      exact (List.mem_erase_of_ne ne).mpr (sub k (List.mem_cons_of_mem _ hk))
    · rw [List.length_erase_of_mem hx, e, List.length_cons]
      rfl
theorem txt_vals : ∀ (vs : List Value), (∀ v ∈ vs, ∃ k : Str, (strKind P w).is k v = true) → ∃ ys : List Str, Vals (ys.map V.str) vs ∧ ∀ v k, v ∈ vs → (strKind P w).is k v = true → k ∈ ys
  | [], _ => ⟨[], .nil, fun v k h => by cases h⟩
  | v :: vs, h => by
    obtain ⟨k, hk⟩ := h v List.mem_cons_self
    obtain ⟨ys, h1, h2⟩ := txt_vals vs fun u hu => h u (List.mem_cons_of_mem _ hu)
    obtain ⟨t, ev⟩ := Value.isStrOf_shape (x := k) (v := v) hk
    refine ⟨k :: ys, .cons ⟨t, ev⟩ h1, fun u j hu hj => ?_⟩
    rcases List.mem_cons.mp hu with e | hu
    · subst e
      rw [(strKind P w).inj u j k hj hk]
      exact List.mem_cons_self
    · exact List.mem_cons_of_mem _ (h2 u j hu hj)
end
def TxtO (P : Program) (w : World) (a : Addr) (l : List Str) : HO := .ext fun h => TxtSet P w h a l
theorem txtO_new {P P' : Program} {w w' : World} {H : Hp} {h : Heap} {a : Addr} {l : List Str} (R : TxtSet P w h a l) : ObjOk P' w' H h a (TxtO P w a l) := by
  have ⟨D, ho, _⟩ := R
  exact ⟨R, ⟨_, ho⟩, fun h1 h2 p k => TxtSet.at p k⟩

/-! ### sorted(that) -/
theorem frs_strs {K : PySem.W.Frag} {F : Hp} : ∀ ys : List Str, FRs K F (ys.map V.str) (ys.map PyData.str)
  | [] => .nil
  | y :: ys => .cons (.str y) (frs_strs ys)
end PL
/-! PL15: sorted({..}); list(d.items()). -/
namespace PL
open PySem PySem.Spec PyProof.Rows L2

/-! ### the order of texts -/
theorem le_strs (x y : Str) : PySem.W.dataLe false (id : PyData → PyData) (.str x) (.str y) = decide (x.cps.toList ≤ y.cps.toList) := by
  have e : PySem.W.dataLe false (id : PyData → PyData) (.str x) (.str y) = PySem.W.dataLe false (fun s : Str => PyData.str s) x y := rfl
  rw [e, PySem.W.dataLe_str (fun s : Str => s)]
/-- whichever way the texts lie, sorted they are the same -/
theorem sort_perm {xs ys : List Str} (p : xs.Perm ys) : sortD (xs.map PyData.str) = sortD (ys.map PyData.str) := by
  have mem : ∀ {zs : List Str} {d : PyData}, d ∈ sortD (zs.map PyData.str) → ∃ z, z ∈ zs ∧ d = .str z := fun {zs d} h => by
    have h1 := (List.mergeSort_perm (zs.map PyData.str) (PySem.W.dataLe false id)).mem_iff.mp h
    obtain ⟨z, hz, e⟩ := List.mem_map.mp h1
    exact ⟨z, hz, e.symm⟩
  -- over the texts themselves
  have key : ∀ zs : List Str, sortD (zs.map PyData.str) = (zs.mergeSort fun a b => decide (a.cps.toList ≤ b.cps.toList)).map PyData.str := fun zs => by
    unfold sortD
    rw [List.map_mergeSort]
    intro a _ b _
    exact (le_strs a b).symm
  rw [key, key]
  congr 1
  have tot : ∀ a b : Str, (decide (a.cps.toList ≤ b.cps.toList) || decide (b.cps.toList ≤ a.cps.toList)) = true := fun a b => by
    rw [Bool.or_eq_true, decide_eq_true_eq, decide_eq_true_eq]
    exact Std.Total.total _ _
  have tr : ∀ a b c : Str, decide (a.cps.toList ≤ b.cps.toList) = true → decide (b.cps.toList ≤ c.cps.toList) = true → decide (a.cps.toList ≤ c.cps.toList) = true := fun a b c h1 h2 => by
    rw [decide_eq_true_eq] at *
    exact Trans.trans h1 h2
  have s1 := List.pairwise_mergeSort (le := fun a b : Str => decide (a.cps.toList ≤ b.cps.toList)) tr tot xs
  have s2 := List.pairwise_mergeSort (le := fun a b : Str => decide (a.cps.toList ≤ b.cps.toList)) tr tot ys
  refine List.Perm.eq_of_pairwise (fun a b _ _ h1 h2 => ?_) s1 s2 (((List.mergeSort_perm xs _).trans p).trans (List.mergeSort_perm ys _).symm)
  rw [decide_eq_true_eq] at h1 h2
  exact PySem.W.str_of_cps (List.le_antisymm h1 h2)

/-! ### sorted(a set of texts) -/
def rTxtS (P : Program) (w : World) (K : PySem.W.Frag) : List V → Hp → VK → Prop := fun xs H Q => ∃ (a : Addr) (l : List Str) (F : Hp), xs = [.ref a] ∧ H a = some (TxtO P w a l) ∧ SameH F H ∧ sortOk (l.map PyData.str) = true ∧
  ∀ p o, H p = none → OR K (upd H p o) F p (.list (sortD (l.map PyData.str))) → Q (.ref p) (upd H p o)
theorem sortOk_perm {xs ys : List D} (p : xs.Perm ys) (h : sortOk ys = true) (e : PyData.plainAll xs = PyData.plainAll ys) (d : PyData.depthAll xs = PyData.depthAll ys) : sortOk xs = true := by
  have al : ∀ q : D → Bool, xs.all q = ys.all q := fun q => by
    rw [Bool.eq_iff_iff, List.all_eq_true, List.all_eq_true]
    exact ⟨fun z x hx => z x (p.mem_iff.mpr hx), fun z x hx => z x (p.mem_iff.mp hx)⟩
  unfold sortOk at h ⊢
  rw [e, d, al, al, al]
  have e2 : (fun x => xs.all fun y => PySem.W.alike x y) = fun x => ys.all fun y => PySem.W.alike x y := by
    funext x
    exact al _
  rw [e2]
  exact h
theorem plain_strs : ∀ l : List Str, PyData.plainAll (l.map PyData.str) = true
  | [] => rfl
  | x :: l => by
    rw [List.map_cons, PyData.plainAll, plain_strs l]
    rfl
theorem depth_strs : ∀ l : List Str, PyData.depthAll (l.map PyData.str) = 0
  | [] => rfl
  | x :: l => by
    rw [List.map_cons, PyData.depthAll, depth_strs l]
    rfl
theorem sortOk_strs (l : List Str) : sortOk (l.map PyData.str) = true := by
  unfold sortOk
  rw [plain_strs, depth_strs]
  simp only [Bool.and_eq_true, Bool.or_eq_true, List.all_eq_true, decide_eq_true_eq]
  refine ⟨⟨⟨trivial, fun x hx y hy => ?_⟩, by omega⟩, .inr fun x hx => ?_⟩
  · obtain ⟨a, _, rfl⟩ := List.mem_map.mp hx
    obtain ⟨b, _, rfl⟩ := List.mem_map.mp hy
    rfl
  · obtain ⟨a, _, rfl⟩ := List.mem_map.mp hx
    rfl
theorem c_sortTxt {X : Cx} (hc : X.calm = true) (hu : X.A.units + 64 < cLine) : CallR X (.builtin "sorted") (rTxtS X.prog X.w X.K) := by
  intro pins s σ H xs us Q I r ⟨a, l, F, ex, ha, sub, ok, k⟩
  subst ex
  obtain ⟨u, rfl, ru⟩ := vals1 r
  cases ru
  obtain ⟨⟨es, ep, t⟩, ho, Fx, nd, hb, hr, hl⟩ := (I.hok a _ ha).1
  have size_es : es.size = l.length := Fx.sz
  refine Calls.call_function_entry PyProof.Rows.kind_sorted PyProof.Rows.plain_sorted PyProof.Rows.entry_sorted (PyProof.Rows.args_sorted1 _) ?_
  unfold Builtin.«sorted»
  refine wpAny_bind (m := checkCount "sorted" 1 1 _) (wpAny_pure ?_)
  refine wpAny_bind (collect_set (A := X.A.in1) (I.ok.hd hc) ⟨_, ho, rfl, rfl⟩ Fx.fit (by rw [size_es]; exact hb) hr hl fun s1 out kk hz hg hos pm => ?_)
  have I1 : L2.Inv X pins σ H s1 := I.call' (ch := []) hos (Un.kept kk) (I.hok.kept kk) (by rw [hg]; exact I.bare) (fun _ z => nomatch z)
  obtain ⟨ys, v1, v2⟩ := txt_vals (P := X.prog) (w := X.w) out fun v hv => by
    obtain ⟨e, he, q⟩ := List.mem_map.mp (pm.mem_iff.mp hv)
    obtain ⟨⟨k, hk, _⟩, _⟩ := Fx.el e he
    exact ⟨k, by rw [← q]; exact hk⟩
  have hlen : ys.length = l.length := by
    have e1 := v1.length
    rw [List.length_map] at e1
    rw [e1, pm.length_eq, List.length_map, Array.length_toList, size_es]
  have py : ys.Perm l := txt_perm nd (fun k hk => by
    obtain ⟨e, he, q⟩ := (Fx.mem k).mp hk
    exact v2 e.2 k (pm.mem_iff.mpr (List.mem_map.mpr ⟨e, he, rfl⟩)) q) hlen
  have sz : (ys.map PyData.str).length ≤ sizeLine := by
    rw [List.length_map, hlen]
    have : scanBound ≤ sizeLine := by decide
    omega
  refine sort_tail (s := s1) (h' := s1.heap) (tk := s1.toks) hu I1 sub (fun _ _ q => q) v1 (frs_strs ys) (sortOk_strs ys) sz fun p o hp oo => ?_
  rw [sort_perm py] at oo
  exact k p o hp oo

/-! ### the comprehension, its things texts -/
def tScT (P : Program) (w : World) (wi : TI) (g : TG) (tt : TT) (te : TE) (vs : List Nat) : TE := fun σ H Q => wi σ H fun J H1 => ∀ p, H1 p = none → ∃ B : Nat → Nat → Hp → Prop, (∃ m, B 0 m (upd H1 p (TxtO P w p []))) ∧ ∀ i m H, B i m H →
  (J.stop i H ∧ Q (.ref p) H) ∨ (J.go i H ∧ ∃ Nx : Hp → Prop, (∀ H', Nx H' → ∃ m', m' < m ∧ B (i + 1) m' H') ∧ ∀ x H', J.yld i H x H' → g x (wipe σ vs) H' fun σ2 H2 => wipe σ2 vs = wipe σ vs ∧ tt σ2 H2 fun b H3 =>
    if b = true then te σ2 H3 fun y H4 => ∃ (c : Str) (l : List Str), y = .str c ∧ H4 p = some (TxtO P w p l) ∧ l.length + 1 < scanBound ∧ Nx (upd H4 p (TxtO P w p (insS c l))) else Nx H3)
section
variable {X : Cx}
theorem sc_run {pins : List (Addr × Obj)} {s : Shared} {σ : Sg} {H : Hp} {Q : VK} {elt tg iter : Expr} {ifs : List Expr} {scope : Scope} {own : List (Str × Nat)} {pos : Pos} {wi : TI} {g : TG} {tt : TT} {te : TE}
    (hc : X.calm = true) (hN : X.N.Nodup) (I : L2.Inv X pins σ H s) (hi : PI X tg iter wi) (ok : BlkOk X.N X.env.scope scope own)
    (hg : ∀ (s : Shared) (H : Hp) (C : Addr) (cl : List (Str × Addr)) (fp : List Addr), PG (X.blk s H scope (compEnvC scope cl C X.env) fp) tg g) (ht : ∀ (s : Shared) (H : Hp) (C : Addr) (cl : List (Str × Addr)) (fp : List Addr), PTs (X.blk s H scope (compEnvC scope cl C X.env) fp) ifs tt)
    (he : ∀ (s : Shared) (H : Hp) (C : Addr) (cl : List (Str × Addr)) (fp : List Addr), PE (X.blk s H scope (compEnvC scope cl C X.env) fp) elt te) (hs : ∀ x, foldedSetIterable iter X.env x = pure x)
    (h : tScT X.prog X.w wi g tt te (own.map (·.2)) σ H Q) :
    wpAny (model X.prog X.w) X.A (eval (.SetComp elt [⟨tg, iter, ifs, 0⟩] scope pos) X.env) (EP X pins σ Q) X.xe s := by
  rw [PpSet.eval_SetComp]
  have cells : ∀ y ∈ scope.names, y.2 = .free → ∃ c, X.env.cells.lookup y.1 = some c := fun y hy e => I.ok.has _ ((ok.free y hy e).imp id id)
  refine wpAny_comprehension_free (use := none) rfl hs (closure_ok cells) ok.kind (fun y hy e => by rw [ok.uniq y hy, e]) (thn (hi.run pins s σ H _ I h) fun xv s1 hx => thn hx fun itv s2 ⟨it, fp, tn, J, H2, eit, I2, T, st2, f2, q⟩ => ?_)
  subst eit
  refine PpSet.newSet_ok (newEnv_comp ?_)
  -- the new set, at p
  have pn : H2 s2.heap.objs.size = none := I2.hok.fresh (Nat.le_refl _)
  obtain ⟨B, ⟨m0, b0⟩, turn⟩ := q _ pn
  have new : L2.Inv X pins σ (upd H2 s2.heap.objs.size (TxtO X.prog X.w s2.heap.objs.size [])) { s2 with heap := s2.heap.push { cls := .type "set", dict := none, data := .set #[] 0 (.fresh 0 0 (!X.w.params.followText "set-order")) } } :=
    I2.laid (t' := s2.toks) (fun b o e => Heap.get?_push_of_some _ e) (Nat.le_refl _) (txtO_new (txt_fresh X.w))
  have below : ∀ b ∈ fp, b < s2.heap.objs.size := fun b hb => let ⟨_, e, _⟩ := T.obj _ _ st2 b hb; Heap.lt_size e
  generalize hs3 : ({ s2 with heap := s2.heap.push { cls := .type "set", dict := none, data := .set #[] 0 (.fresh 0 0 (!X.w.params.followText "set-order")) } } : Shared) = s3 at new
  have hp3 : s3.heap = s2.heap.push { cls := .type "set", dict := none, data := .set #[] 0 (.fresh 0 0 (!X.w.params.followText "set-order")) } := by rw [← hs3]
  generalize hp : s2.heap.objs.size = p at new turn b0 pn below
  have free3 : ∀ b ∈ fp, FpOk X pins (upd H2 p (TxtO X.prog X.w p [])) b ∧ b < s3.heap.objs.size := fun b hb =>
    ⟨⟨by rw [upd_ne (Nat.ne_of_lt (below b hb))]; exact (f2 b hb).1, (f2 b hb).2⟩, by rw [hp3, Heap.size_push, hp]; exact Nat.lt_succ_of_lt (below b hb)⟩
  have st3 : tn 0 s3.heap := T.keep _ _ _ st2 fun b _ o e => by rw [hp3]; exact Heap.get?_push_of_some _ e
  have I4 := block_start new ok hN free3
  have pg := hg s3 (upd H2 p (TxtO X.prog X.w p [])) s3.heap.objs.size (cellsFrom (s3.heap.objs.size + 1) scope.names (cloFrom X.env.cells scope.names [])) fp
  have pt := ht s3 (upd H2 p (TxtO X.prog X.w p [])) s3.heap.objs.size (cellsFrom (s3.heap.objs.size + 1) scope.names (cloFrom X.env.cells scope.names [])) fp
  have pe := he s3 (upd H2 p (TxtO X.prog X.w p [])) s3.heap.objs.size (cellsFrom (s3.heap.objs.size + 1) scope.names (cloFrom X.env.cells scope.names [])) fp
  have clear3 : ∀ b ∈ fp, (upd H2 p (TxtO X.prog X.w p [])) b = none := fun b hb => (free3 b hb).1.1
  show codeAny _ _ (.compStart (.SetComp elt [⟨tg, iter, ifs, 0⟩] scope pos) 0 (.ref it) (.ref p) (compEnvC scope (cellsFrom (s3.heap.objs.size + 1) scope.names (cloFrom X.env.cells scope.names [])) s3.heap.objs.size X.env)) (compPost (model X.prog X.w) X.A X.xe none (EP X pins σ Q) (.ref p) s3.heap.objs.size) { s3 with heap := pushCells (s3.heap.push { cls := .type "dict", data := .dict #[] }) scope.names }
  have st4 : tn 0 ({ s3 with heap := pushCells (s3.heap.push { cls := .type "dict", data := .dict #[] }) scope.names } : Shared).heap := T.keep _ _ _ st3 fun b _ o e => pushCells_keeps _ _ _ _ (Heap.get?_push_of_some _ e)
  generalize ({ s3 with heap := pushCells (s3.heap.push { cls := .type "dict", data := .dict #[] }) scope.names } : Shared) = s4 at I4 st4 ⊢
  generalize ece : compEnvC scope (cellsFrom (s3.heap.objs.size + 1) scope.names (cloFrom X.env.cells scope.names [])) s3.heap.objs.size X.env = ce at I4 pg pt pe ⊢
  have at_ce : ce.locals = s3.heap.objs.size := by rw [← ece]; rfl
  generalize upd H2 p (TxtO X.prog X.w p []) = H3 at new I4 pg pt pe b0 clear3 free3
  have stat : ∀ {τ : Sg} {G : Hp} {u : Shared}, L2.Inv (X.blk s3 H3 scope ce fp) [] τ G u → (∀ b ∈ fp, G b = none) → ∀ b ∈ fp, FpOk (X.blk s3 H3 scope ce fp) [] G b := fun {τ G u} J' hn b hb =>
    ⟨hn b hb, (J'.ok.exf b hb).1, J'.ok.exfs b hb, .inl hb, fun x c e => (J'.ok.exf b hb).2 x c e, fun r hr => absurd (show r ∈ ([] : List (Addr × Obj)) ++ [] from hr) (by simp)⟩
  have loop : codeAny (model X.prog X.w) X.A (.compLoop (.SetComp elt [⟨tg, iter, ifs, 0⟩] scope pos) 0 (.ref it) (.ref p) ce) (compPost (model X.prog X.w) X.A X.xe none (EP X pins σ Q) (.ref p) s3.heap.objs.size) s4 := by
    refine PpSet.compLoopS_any (fun m u => ∃ i G, L2.Inv (X.blk s3 H3 scope ce fp) [] (wipe σ (own.map (·.2))) G u ∧ tn i u.heap ∧ (∀ b ∈ fp, G b = none) ∧ B i m G) ?_ m0 ⟨0, H3, I4, st4, clear3, b0⟩
    rintro m s5 ⟨i, H5, I5, st5, n5, b5⟩
    rcases turn i m H5 b5 with ⟨stop, last⟩ | ⟨go, Nx, again, step⟩
    · refine thnF (T.done (X.blk s3 H3 scope ce fp) rfl rfl rfl hc i [] s5 _ H5 (fun _ _ => False) I5 (stat I5 n5) st5 stop) fun r s6 ⟨er, I6⟩ => ?_
      subst er
      have I7 : L2.Inv X pins σ H5 s6 := new.call' (ch := fp) I6.os I6.base I6.hok I6.bare fun b hb => ⟨(free3 b hb).1.2.2.2.1, (free3 b hb).1.2.1, (free3 b hb).1.2.2.2.2.1, (free3 b hb).1.2.2.2.2.2⟩
      have noC : H5 s3.heap.objs.size = none := at_ce ▸ (show H5 ce.locals = none from I6.free)
      obtain ⟨mm, hn, _⟩ := I6.loc
      have hn' : s6.heap.Ns s3.heap.objs.size mm := at_ce ▸ (show s6.heap.Ns ce.locals mm from hn)
      obtain ⟨c0, c1, c2, c3, c4, c5⟩ := new.fpOk (Nat.le_refl _) noC
      exact ⟨mm, hn', fun h'' sb => ⟨.ref p, H5, I7.turned (t' := s6.toks) (fun b o hb e => (sb.2 b hb).trans e) c0 c1 c3 c4 c5, rfl, last⟩⟩
    · refine thnF (T.item (X.blk s3 H3 scope ce fp) rfl rfl rfl hc i [] s5 _ H5 (fun _ _ => False) I5 (stat I5 n5) st5 go) fun r s6 ⟨u, er, h6⟩ => ?_
      subst er
      refine thnF h6 fun _ s7 ⟨x, H7, I7, r7, y7, st7, n7⟩ => ?_
      have pinned := I7.pinned (stat I7 n7) (T.obj _ _ st7)
      refine thnF (pg.run _ s7 _ H7 x u _ pinned r7 (step x H7 y7)) fun _ s8 ⟨τ, H8, I8, same, q8⟩ => thnF (pt.run _ s8 τ H8 _ I8 q8) fun b s9 ⟨H9, I9, q9⟩ => ?_
      have close : ∀ {u : Shared} {G : Hp}, L2.Inv (X.blk s3 H3 scope ce fp) ([] ++ pinsAt fp s7.heap) τ G u → Nx G → ∃ m', m' < m ∧ ∃ i G, L2.Inv (X.blk s3 H3 scope ce fp) [] (wipe σ (own.map (·.2))) G u ∧ tn i u.heap ∧ (∀ b ∈ fp, G b = none) ∧ B i m' G := fun {u G} J' nx => by
        obtain ⟨m', lt, b'⟩ := again G nx
        have there : ∀ b ∈ fp, ∀ o, s7.heap.get? b = some o → u.heap.get? b = some o ∧ G b = none := fun b hb o e =>
          let z := J'.pin (b, o) (List.mem_append_right _ (List.mem_append_right _ (mem_pinsAt hb e)))
          ⟨z.1, z.2.1⟩
        have len : (wipe σ (own.map (·.2))).length = τ.length := by rw [← same, wipe_length]
        exact ⟨m', lt, i + 1, G, (J'.unpinned (pins := [])).weak len (fun j v e => (wipe_some (by rw [same]; exact e)).1), T.keep _ _ _ st7 fun b hb o e => (there b hb o e).1,
          fun b hb => let ⟨o, e, _⟩ := T.obj _ _ st7 b hb; (there b hb o e).2, b'⟩
      cases b with
      | false =>
        simp only [Bool.false_eq_true, if_false] at q9 ⊢
        exact close I9 q9
      | true =>
        simp only [if_true] at q9 ⊢
        refine thnF (pe.run _ s9 τ H9 _ I9 q9) fun z s10 ⟨yv, H10, I10, r10, c, l, ey, at10, room, nx⟩ => ?_
        subst ey
        obtain ⟨tk, rfl⟩ := r10
        have R : TxtSet X.prog X.w s10.heap p l := (I10.hok p _ at10).1
        refine txt_add (P := X.prog) (w := X.w) R room fun h' sb more => close ?_ nx
        have ex : ∃ v, h'.get? p = some v := let ⟨_, ho, _⟩ := more; ⟨_, ho⟩
        exact I10.write (e := p) (t' := s10.toks + 1) (by rw [at10]; trivial) (.inl rfl) (fun b v hb hv => (sb.2 b hb).trans hv) ex (txtO_new more)
  exact PpSet.codeAny_compStart_set loop (T.self X.A 0 _ _ _ st4 loop)
end
end PL
/-! PL16: sorted({..}) and sorted(set(..)) as one thing; list(d.items()). -/
namespace PL
open PySem PySem.Spec PyProof.Rows L2

/-! ### a thing that is being made and that is no list, no dict -/
structure MkO (K : PySem.W.Frag) (W : W0) (σ : Sg) (H F : Hp) (as : AS) (p : Addr) (o : HO) : Prop where
  fp : F p = none
  old : W.H p = none
  obj : H p = some o
  no : Nobody σ as p
section
variable {K : PySem.W.Frag} {W : W0} {σ σ' : Sg} {H H' F F' : Hp} {as as' : AS} {vs : List Nat} {p : Addr} {o o' : HO}
theorem MkO.grown (h : MkO K W σ H F as p o) (g : Grown H F H' F') : MkO K W σ H' F' as p o := by
  refine ⟨?_, h.old, g.hh _ _ h.obj, h.no⟩
  cases q : F' p with
  | none => rfl
  | some w =>
    rcases g.new p (by rw [q]; exact fun z => nomatch z) with r | r
    · exact absurd h.fp r
    · rw [h.obj] at r; cases r
theorem MkO.there (h : MkO K W σ H F as p o) : H p ≠ none := by rw [h.obj]; exact fun z => nomatch z
theorem MkO.over (h : MkO K W σ H F as p o) (S : St2 K W σ H F as) (S' : St2 K (here σ H F as) σ' H' F' as') : MkO K W σ' H' F' as' p o := by
  obtain ⟨q1, q2⟩ := S.stays S' h.obj h.no
  exact ⟨q2 h.fp, h.old, q1, h.no.over h.there S'⟩
theorem MkO.wiped (h : MkO K W σ H F as p o) : MkO K W (wipe σ vs) H F (wipeA as vs) p o := ⟨h.fp, h.old, h.obj, fun i s d h1 h2 h3 => by
  by_cases q : i ∈ vs
  · rw [wipeA_in q h1] at h2; cases h2
  · rw [wipeA_at q] at h1
    rw [wipe_at q] at h3
    exact h.no i s d h1 h2 h3⟩
theorem MkO.poked (h : MkO K W σ H F as p o) : MkO K W σ (upd H p o') F as p o' := ⟨h.fp, h.old, upd_same, h.no⟩
end

/-! ### sorted({elt for tg in iter if ..}) -/
def loopS (g : FG) (tt : FB) (te : FV) (vs : List Nat) : List D → AS → List Str → Option (List Str × AS)
  | [], as, acc => some (acc, as)
  | d :: r, as, acc => match g d as with
    | none => none
    | some as1 => match tt as1 with
      | none => none
      | some (false, as2) => loopS g tt te vs r (wipeA as2 vs) acc
      | some (true, as2) => match te as2 with
        | some (.str x, as3) => if acc.length + 1 < scanBound then loopS g tt te vs r (wipeA as3 vs) (insS x acc) else none
        | _ => none
def fSc (it : FA) (g : FG) (tt : FB) (te : FV) (vs : List Nat) : FV := fun as => match it as with
  | none => none
  | some (ds, as1) => if okW as1 vs = true then match loopS g tt te vs ds (wipeA as1 vs) [] with
    | some (out, as2) => some (.list (sortD (out.map PyData.str)), backA as1 vs as2)
    | none => none else none
theorem sc_weak {P : Program} {w : World} {K : PySem.W.Frag} {it : FA} {g : FG} {tt : FB} {te : FV} {vs ws : List Nat} (hw : ∀ i ∈ ws, i ∈ vs) : ∀ σ H Q, nOf K (fSc it g tt te vs) σ H Q → tScT P w (iOf K it) (gOf K ws g) (tOf K tt) (vOf K te) vs σ H (fun v H' => rTxtS P w K [v] H' Q) := fun σ H Q ⟨W, F, as, d, as', S, e, k⟩ => by
  unfold fSc at e
  cases q : it as with
  | none => rw [q] at e; cases e
  | some pr =>
    obtain ⟨ds, as1⟩ := pr
    rw [q] at e
    dsimp only at e
    split at e
    · rename_i ok
      cases q2 : loopS g tt te vs ds (wipeA as1 vs) [] with
      | none => rw [q2] at e; cases e
      | some p2 =>
        obtain ⟨out, asN⟩ := p2
        rw [q2] at e
        cases e
        refine ⟨W, F, as, ds, as1, S, q, fun J H1 F1 S1 m1 wk p hD => ?_⟩
        have mk0 : MkO K W (wipe σ vs) (upd H1 p (TxtO P w p [])) F1 (wipeA as1 vs) p (TxtO P w p []) := MkO.wiped ⟨S1.free hD, S1.dom p hD, upd_same, Nobody.fresh S1 hD⟩
        refine ⟨fun i m H => i ≤ ds.length ∧ m = ds.length - i ∧ ∃ F' as' acc, St2 K W (wipe σ vs) H F' as' ∧ SameH F1 F' ∧ MkO K W (wipe σ vs) H F' as' p (TxtO P w p acc) ∧ loopS g tt te vs (ds.drop i) as' acc = some (out, asN),
          ⟨_, Nat.zero_le _, rfl, F1, _, [], (S1.laid hD).wiped, Same.refl F1, mk0, by rw [List.drop_zero]; exact q2⟩, ?_⟩
        rintro i m H' ⟨hi, rfl, F', as', acc, S', m', mk, e'⟩
        obtain ⟨w1, w2⟩ := wk F' H' m' S'.sub
        by_cases hl : i < ds.length
        · rw [List.drop_eq_getElem_cons hl] at e'
          unfold loopS at e'
          obtain ⟨g1, g2⟩ := w2 i ds[i] (List.getElem?_eq_getElem hl)
          cases q3 : g ds[i] as' with
          | none => rw [q3] at e'; cases e'
          | some as2 =>
            rw [q3] at e'
            dsimp only at e'
            cases q4 : tt as2 with
            | none => rw [q4] at e'; cases e'
            | some p4 =>
              obtain ⟨b, as3⟩ := p4
              rw [q4] at e'
              refine .inr ⟨g1, fun H => ∃ F' as' acc, St2 K W (wipe σ vs) H F' as' ∧ SameH F1 F' ∧ MkO K W (wipe σ vs) H F' as' p (TxtO P w p acc) ∧ loopS g tt te vs (ds.drop (i + 1)) as' acc = some (out, asN), fun H3 h3 => ⟨ds.length - (i + 1), by omega, hl, rfl, h3⟩, fun x H2 y => ?_⟩
              obtain ⟨F2, gr, fr⟩ := g2 x H2 y
              have S2 := gr.st S'
              have mk2 := mk.grown gr
              refine ⟨_, F2, as', ds[i], as2, S2.here, fr, q3, fun σ3 H3 F3 S3 m3 ag => ⟨wipe_agree ag hw, _, F3, as2, b, as3, S3, q4, fun H4 F4 S4 m4 => ?_⟩⟩
              have we := wipe_agree ag hw
              have fin : ∀ {H5 F5 : Hp} {as5 : AS} {acc5 : List Str}, St2 K W σ3 H5 F5 as5 → SameH F2 F5 → MkO K W σ3 H5 F5 as5 p (TxtO P w p acc5) → loopS g tt te vs (ds.drop (i + 1)) (wipeA as5 vs) acc5 = some (out, asN) → ∃ F' as' acc, St2 K W (wipe σ vs) H5 F' as' ∧ SameH F1 F' ∧ MkO K W (wipe σ vs) H5 F' as' p (TxtO P w p acc) ∧ loopS g tt te vs (ds.drop (i + 1)) as' acc = some (out, asN) := fun {H5 F5 as5 acc5} S5 m5 k5 e5 => by
                have z1 : St2 K W (wipe σ3 vs) H5 F5 (wipeA as5 vs) := S5.wiped
                have z2 : MkO K W (wipe σ3 vs) H5 F5 (wipeA as5 vs) p (TxtO P w p acc5) := k5.wiped
                rw [we] at z1 z2
                exact ⟨F5, _, acc5, z1, (m'.trans gr.ff).trans m5, z2, e5⟩
              cases b with
              | false =>
                refine iteF ?_
                exact fin (S2.back S4) (m3.trans m4) (mk2.over S2 S4) e'
              | true =>
                refine iteT ?_
                dsimp only at e'
                cases q5 : te as3 with
                | none => rw [q5] at e'; cases e'
                | some p5 =>
                  obtain ⟨y5, as4⟩ := p5
                  rw [q5] at e'
                  cases y5 with
                  | str x5 =>
                    dsimp only at e'
                    split at e'
                    · rename_i hz
                      refine ⟨_, F4, as3, .str x5, as4, S4, q5, fun v H5 F5 S5 m5 fr5 => ?_⟩
                      cases fr5
                      have mk5 := mk2.over S2 S5
                      exact ⟨x5, acc, rfl, mk5.obj, hz, fin ((S2.back S5).poke mk5.fp mk5.old mk5.no) ((m3.trans m4).trans m5) mk5.poked e'⟩
                    · cases e'
                  | _ => cases e'
        · have ei : i = ds.length := by omega
          subst ei
          rw [List.drop_length] at e'
          unfold loopS at e'
          cases e'
          have SN := S1.unwiped ok S' m'
          refine .inl ⟨w1, p, out, F', rfl, mk.obj, S'.sub, sortOk_strs out, fun q o hq oo => ?_⟩
          exact k q _ F' (SN.laid hq) (m1.trans m') (SN.free hq) (SN.dom q hq) oo (Nobody.fresh SN hq)
    · cases e
theorem q_sc {X : Cx} {elt tg iter : Expr} {ifs : List Expr} {scope : Scope} {own : List (Str × Nat)} {pos p2 pos2 : Pos} {it : FA} {g : FG} {ws : List Nat} {tt : FB} {te : FV} (hc : X.calm = true) (hN : X.N.Nodup) (hu : X.A.units + 64 < cLine) (hgl : Gl X "sorted") (hm : X.mg "sorted" = none) (ok : BlkOk X.N X.env.scope scope own) (hw : ∀ i ∈ ws, i ∈ own.map (·.2)) (hi : QI X tg iter it)
    (hg : ∀ (s : Shared) (H : Hp) (C : Addr) (cl : List (Str × Addr)) (fp : List Addr), QG (X.blk s H scope (compEnvC scope cl C X.env) fp) tg ws g) (ht : ∀ (s : Shared) (H : Hp) (C : Addr) (cl : List (Str × Addr)) (fp : List Addr), PTs (X.blk s H scope (compEnvC scope cl C X.env) fp) ifs (tOf X.K tt))
    (he : ∀ (s : Shared) (H : Hp) (C : Addr) (cl : List (Str × Addr)) (fp : List Addr), QV (X.blk s H scope (compEnvC scope cl C X.env) fp) elt te) (hs : ∀ x, foldedSetIterable iter X.env x = pure x := by intro _; rfl)
    (hst : starEach [.SetComp elt [⟨tg, iter, ifs, 0⟩] scope pos] X.env = (false, eval (.SetComp elt [⟨tg, iter, ifs, 0⟩] scope pos) X.env) :: starEach [] X.env := by rfl) (hpl : (backTo pos2 (starEach [] X.env)).any (·.1) = false := by rfl) :
    QN X (.Call (.Name "sorted" p2) [.SetComp elt [⟨tg, iter, ifs, 0⟩] scope pos] [] pos2) (fSc it g tt te (own.map (·.2))) := by
  have set : PE X (.SetComp elt [⟨tg, iter, ifs, 0⟩] scope pos) (tScT X.prog X.w (iOf X.K it) (gOf X.K ws g) (tOf X.K tt) (vOf X.K te) (own.map (·.2))) := ⟨fun pins s σ H Q I h => sc_run hc hN I hi ok hg ht he hs h⟩
  exact PE.weak (pe_callB (c_sortTxt hc hu) hgl hm (by rfl) (pa_cons set pa_nil hst) (by decide) (by decide) hst hpl) (sc_weak hw)
end PL
/-! PL17: sorted(set(a list of texts)); list(d.items()). -/
namespace PL
open PySem PySem.Spec PyProof.Rows L2

/-- the texts of a list, the later ones ahead, each once -/
def gather : List Str → List Str → List Str
  | [], l => l
  | x :: r, l => gather r (insS x l)
theorem insS_len (x : Str) (l : List Str) : (insS x l).length ≤ l.length + 1 := by
  unfold insS
  split
  · omega
  · exact Nat.le_refl _
theorem gather_drop : ∀ (xs : List Str) (i : Nat) (l : List Str) (x : Str), xs[i]? = some x → gather (xs.drop i) l = gather (xs.drop (i + 1)) (insS x l) := fun xs i l x h => by
  obtain ⟨h1, h2⟩ := List.getElem?_eq_some_iff.mp h
  rw [List.drop_eq_getElem_cons h1, h2]
  rfl
section
variable {P : Program} {w : World} {A : Around} {E : Value → Shared → Prop} {s : Shared}
/-- set.add's inner step -/
theorem txt_put {a : Addr} {l : List Str} {k : Str} {u : Tok} {Q : Bool → Shared → Prop} (R : TxtSet P w s.heap a l) (room : l.length + 1 < scanBound) (hQ : ∀ b h', Heap.SameBut a s.heap h' → TxtSet P w h' a (insS k l) → Q b { s with heap := h', toks := s.toks + 1 }) :
    wpAny (model P w) A (setAdd a (.str k u)) Q E s := by
  have R0 := R
  obtain ⟨D, ho, F, nd, hb, hr, hl⟩ := R
  unfold setAdd
  refine wpAny_holding (wpAny_bind ((strKind P w).pyHash (PySem.Froz.is_str k u) ?_))
  by_cases hk : k ∈ l
  · refine add_known (s := { s with toks := s.toks + 1 }) R0 hk (hQ _ s.heap (Heap.SameBut.refl a s.heap) ?_)
    unfold insS
    rw [if_pos hk]
    exact R0
  · refine PySem.Froz.add_x (s := { s with toks := s.toks + 1 }) ho F hk room (hQ _ _ (Heap.SameBut.update s.heap a _) ?_)
    unfold insS
    rw [if_neg hk]
    exact ⟨_, PySem.Froz.get_upd _ ho rfl, PySem.Froz.add_ok u F, List.nodup_cons.mpr ⟨hk, nd⟩, by rw [List.length_cons]; exact room, ris_add hr, hl.imp id led_add⟩
theorem txt_loop {I : Addr} {fp wr : List Addr} {G : Array GenState → Array GenState → Prop} {n : Nat} {Pv : Nat → Value → Prop} {St : Nat → Shared → Prop} {R : Result → Shared → Prop}
    (W : WalksS P w A.in1 I fp wr G n Pv St) (a : Addr) (out : a ∉ fp) (xs : List Str) (hn : n = xs.length) (hb : xs.length + 1 < scanBound) (hval : ∀ i v, Pv i v → ∃ k t, xs[i]? = some k ∧ v = .str k t) :
    ∀ (k i : Nat) (s : Shared) (l : List Str), n - i = k → i ≤ n → St i s → l.length ≤ i → TxtSet P w s.heap a l →
      (∀ s', Moved (a :: wr) G s s' → TxtSet P w s'.heap a (gather (xs.drop i) l) → R (.ok (.ret .none)) s') →
      codeAny (model P w) A (.builtin "set.update.loop" ⟨[.ref a, .ref I], []⟩) R s := by
  have out2 : a ∉ wr := fun h => out (W.sub _ h)
  have more : ∀ b ∈ wr, b ∈ a :: wr := fun b hb => List.mem_cons_of_mem _ hb
  intro k
  induction k with
  | zero =>
    intro i s l hk hi st hl R0 hR
    have e : i = n := by omega
    subst e
    refine codeAny_builtin PyProof.Rows.F.entry_set_update_loop ?_
    rw [Around.under_plainId PyProof.Rows.F.plain_set_update_loop _]
    show wpAny _ A.in1 (pyNext (.ref I) >>= _) _ _ s
    refine wpAny_bind (W.done s _ _ st fun s' hm => ?_)
    show wpAny _ A.in1 (ret Value.none) _ _ s'
    refine wpAny_pure (hR s' (hm.mono more) ?_)
    rw [List.drop_eq_nil_of_le (by omega)]
    exact R0.at fun o e => hm.heap a o out2 e
  | succ k ih =>
    intro i s l hk hi st hl R0 hR
    have lt : i < n := by omega
    refine codeAny_builtin PyProof.Rows.F.entry_set_update_loop ?_
    rw [Around.under_plainId PyProof.Rows.F.plain_set_update_loop _]
    show wpAny _ A.in1 (pyNext (.ref I) >>= _) _ _ s
    refine wpAny_bind (W.item i s _ _ lt st fun v s' hP st' hm => ?_)
    obtain ⟨z, t, hz, rfl⟩ := hval i v hP
    have R1 : TxtSet P w s'.heap a l := R0.at fun o e => hm.heap a o out2 e
    show wpAny _ A.in1 (holding [Value.str z t] (setAdd a (.str z t)) >>= _) _ _ s'
    refine wpAny_bind (wpAny_holding (txt_put R1 (by omega) fun b h' sb R2 => ?_))
    have len := insS_len z l
    refine wpAny_pure ⟨plainId_quiet PyProof.Rows.F.plain_set_update_loop _, ih (i + 1) _ _ (by omega) lt (W.frame _ s' _ _ st' (Nat.le_succ _) fun b hb o e => ?_) (by omega) R2 fun s'' hm'' R3 => ?_⟩
    · rw [sb.2 b fun z : b = a => out (by rw [← z]; exact hb)]
      exact e
    · refine hR s'' (Moved.trans W.gtrans ((hm.mono more).then_heap (Nat.le_succ _) fun b o hb e => ?_) hm'') (by rw [gather_drop xs i l z hz]; exact R3)
      rw [sb.2 b fun z : b = a => hb (by rw [z]; exact List.mem_cons_self)]
      exact e
set_option maxHeartbeats 3200000 in
/-- set(xs) of a list of texts -/
theorem call_set_txts {l : Addr} {items : Array Value} (xs : List Str) {Q : Value → Shared → Prop} (hh : A.handled = none) (hl : s.heap.IsList l items) (hit : Vals (xs.map V.str) items.toList) (hb : xs.length + 1 < scanBound)
    (h : ∀ (h' : Heap) (tk : Nat), TxtSet P w h' s.heap.objs.size (gather xs []) → (∀ b o, s.heap.get? b = some o → h'.get? b = some o) → Q (.ref s.heap.objs.size) { s with heap := h', toks := tk }) :
    wpAny (model P w) A (call (.type "set") [.ref l]) Q E s := by
  have isz : items.size = xs.length := by
    have q := hit.length
    rw [List.length_map, Array.length_toList] at q
    exact q.symm
  obtain ⟨c, tl, hmro⟩ := PySem.F.called_set.mro
  have hmade := PySem.F.called_set.made
  have hsub := PySem.F.called_set.sub
  refine wpAny_call (codeAny_of_tree ?_)
  show wpAny _ _ (callAny (.type "set") _) _ _ _
  refine wpAny_pure ⟨Code.quiet_builtin _ (by decide +kernel), codeAny_builtin PySem.F.entry_type_call ?_⟩
  rw [Around.under_plain (weight_type_call_type "set" [.ref l] []) rfl]
  have h1 := PySem.F.called_set.notType
  have h2 := PySem.F.called_set.canCreate
  have hct := PySem.F.typeCall_set_1 (.ref l)
  repeat (any_goals (first | assumption | wp_step))
  refine codeAny_mono (code_set_led1 (.ref l) (E := E) (Q₁ := fun obj s₁ => obj = .ref s.heap.objs.size ∧ s₁ = { s with heap := s.heap.push { cls := .type "set", dict := none, data := .set #[] 0 (.fresh 0 0 (!w.params.followText "set-order")) } }) ⟨rfl, rfl⟩) fun r s₁ hr => ?_
  cases r with
  | error e => exact hr
  | ok fl =>
    cases fl with
    | ret obj =>
      obtain ⟨rfl, rfl⟩ := hr
      have hS : (s.heap.push { cls := .type "set", dict := none, data := .set #[] 0 (.fresh 0 0 (!w.params.followText "set-order")) }).get? s.heap.objs.size = some { cls := .type "set", dict := none, data := .set #[] 0 (.fresh 0 0 (!w.params.followText "set-order")) } := Heap.get?_push_size _ rfl
      have hT : Shared.TypeIs { s with heap := s.heap.push { cls := .type "set", dict := none, data := .set #[] 0 (.fresh 0 0 (!w.params.followText "set-order")) } } (.ref s.heap.objs.size) "set" := ⟨_, hS, rfl⟩
      have hli := PySem.F.called_set.init.lookup
      have hbi := PySem.F.called_set.init.bind (.ref s.heap.objs.size)
      repeat (any_goals (first | assumption | wp_step))
      refine codeAny_mono (codeAny_call_builtin (R := wants (fun r s₂ => r = .none ∧ ∃ h' tk, s₂ = { s with heap := h', toks := tk } ∧ TxtSet P w h' s.heap.objs.size (gather xs []) ∧
          (∀ b o, s.heap.get? b = some o → h'.get? b = some o)) E) PySem.F.called_set.init.plain PySem.F.entry_set_init (check_set_init_1 hT ?_)) fun r₂ s₂ hr₂ => ?_
      · obtain ⟨ol, hol, hcl, nl, hdl⟩ := hl
        obtain ⟨ocls, odict, odata, oslots⟩ := ol
        simp only at hcl hdl
        subst hcl
        subst hdl
        have hol' : (s.heap.push { cls := .type "set", dict := none, data := .set #[] 0 (.fresh 0 0 (!w.params.followText "set-order")) }).get? l = some { cls := .type "list", dict := odict, data := .seq items nl, slots := oslots } := Heap.get?_push_of_some _ hol
        have hsls := PySem.F.sub_list_set
        have hslf := PySem.F.sub_list_frozenset
        have hne : (Value.type "list" == Value.type "dict") = false := by decide
        have hl1 : (s.heap.push { cls := .type "set", dict := none, data := .set #[] 0 (.fresh 0 0 (!w.params.followText "set-order")) }).IsList l items := ⟨_, hol', rfl, nl, rfl⟩
        unfold Builtin.«set.__init__» noKeywords Builtin.Frozenset.updateFrom
        generalize hPI : pyIter = PI
        wp_walk
        subst hPI
        refine wpAny_pyIter_list hl1 ?_
        refine wpAny_bind (wpAny_runValue ?_)
        have lt0 : l < s.heap.objs.size := Heap.lt_size hol
        have hh3 : A.in1.in1.in1.handled = none := by simp [hh]
        have hz1 : (s.heap.push { cls := .type "set", dict := none, data := .set #[] 0 (.fresh 0 0 (!w.params.followText "set-order")) }).objs.size = s.heap.objs.size + 1 := Heap.size_push ..
        have neI : l ≠ (s.heap.push { cls := .type "set", dict := none, data := .set #[] 0 (.fresh 0 0 (!w.params.followText "set-order")) }).objs.size := by
          rw [hz1]
          exact Nat.ne_of_lt (Nat.lt_succ_of_lt lt0)
        have away : s.heap.objs.size ∉ [(s.heap.push { cls := .type "set", dict := none, data := .set #[] 0 (.fresh 0 0 (!w.params.followText "set-order")) }).objs.size, l] := by
          rw [hz1]
          simp only [List.mem_cons, List.not_mem_nil, or_false, not_or]
          exact ⟨Nat.ne_of_lt (Nat.lt_succ_self _), Nat.ne_of_gt lt0⟩
        have hval : ∀ (i : Nat) (v : Value), items[i]? = some v → ∃ k t, xs[i]? = some k ∧ v = .str k t := fun i v hv => by
          have hi : i < xs.length := by rw [← isz]; exact (Array.getElem?_eq_some_iff.mp hv).1
          obtain ⟨u, e1, t, e2⟩ := hit.get (i := i) (x := .str xs[i]) (by rw [List.getElem?_map, List.getElem?_eq_getElem hi]; rfl)
          rw [Array.getElem?_toList, hv] at e1
          cases e1
          exact ⟨xs[i], t, List.getElem?_eq_getElem hi, e2⟩
        refine txt_loop ((Walks.list hh3 _ l neI items).toS) s.heap.objs.size away xs isz hb hval (items.size - 0) 0 _ [] (by omega) (Nat.zero_le _)
          ⟨⟨_, Heap.get?_push_size _ rfl, rfl, rfl⟩, (hl1.push _)⟩ (Nat.le_refl _) ((txt_fresh w).at fun o e => Heap.get?_push_of_some _ e) fun s' hm R => ?_
        obtain ⟨h', g2, d', tk', os'⟩ := s'
        have eg : g2 = s.gens := hm.gens
        have ed : d' = s.drawn := hm.drawn
        have eo : os' = s.os := hm.os
        subst eg
        subst ed
        subst eo
        show wpAny _ _ _ _ _ _
        refine wpAny_pure ?_
        show wpAny _ _ (ret Value.none) _ _ _
        refine wpAny_pure ⟨rfl, h', tk', rfl, R, fun b o e => ?_⟩
        have lt : b < s.heap.objs.size := Heap.lt_size e
        exact hm.heap b o (by
          simp only [List.mem_cons, List.not_mem_nil, or_false, not_or, hz1]
          exact ⟨Nat.ne_of_lt lt, Nat.ne_of_lt (Nat.lt_succ_of_lt lt)⟩) (Heap.get?_push_of_some _ (Heap.get?_push_of_some _ e))
      · cases r₂ with
        | error e => exact hr₂
        | ok fl₂ =>
          cases fl₂ with
          | ret r =>
            obtain ⟨rfl, h', tk, rfl, R, kk⟩ := hr₂
            repeat (any_goals (first | assumption | wp_step))
            exact h _ _ R kk
          | _ => exact hr₂.elim
    | _ => exact hr.elim
end

/-! ### sorted(set(e)) -/
def strsD : List D → Option (List Str)
  | [] => some []
  | .str x :: r => (strsD r).map (x :: ·)
  | _ => none
theorem strsD_some : ∀ {ds : List D} {xs : List Str}, strsD ds = some xs → ds = xs.map PyData.str
  | [], _, h => by cases h; rfl
  | d :: r, xs, h => by
    cases d with
    | str x =>
      unfold strsD at h
      cases q : strsD r with
      | none => rw [q] at h; cases h
      | some ys =>
        rw [q] at h
        cases h
        rw [List.map_cons, strsD_some q]
    | _ => cases h
theorem frs_vals {K : PySem.W.Frag} {F : Hp} : ∀ {vs : List V} {xs : List Str}, FRs K F vs (xs.map PyData.str) → vs = xs.map V.str
  | _, [], h => by cases h; rfl
  | _, x :: xs, h => by
    cases h with
    | cons h t =>
      cases h
      rw [frs_vals t, List.map_cons]
def sSet : D → Option (List Str)
  | .list ds => match strsD ds with
    | some xs => if xs.length + 1 < scanBound then some (gather xs []) else none
    | none => none
  | _ => none
def fSortSet (f : FV) : FV := fun as => match f as with
  | some (d, as1) => match sSet d with
    | some l => some (.list (sortD (l.map PyData.str)), as1)
    | none => none
  | none => none
def rSetT (P : Program) (w : World) (K : PySem.W.Frag) : List V → Hp → VK → Prop := fun vs H Q => ∃ (F : Hp) (v : V) (d : D) (l : List Str), vs = [v] ∧ SameH F H ∧ GR K H F v d ∧ sSet d = some l ∧ ∀ p, H p = none → Q (.ref p) (upd H p (TxtO P w p l))
theorem c_setT {X : Cx} (hc : X.calm = true) : CallR X (.type "set") (rSetT X.prog X.w X.K) := by
  intro pins s σ H vs us Q I r ⟨F, v, d, l, ev, sub, g, e, k⟩
  subst ev
  obtain ⟨u, rfl, ru⟩ := vals1 r
  cases d with
  | list ds =>
    dsimp only [sSet] at e
    cases q : strsD ds with
    | none => rw [q] at e; cases e
    | some xs =>
      rw [q] at e
      dsimp only at e
      split at e
      · rename_i hb
        cases e
        obtain ⟨a, zs, rfl, h1, h2, h3⟩ := g
        rw [strsD_some q] at h2
        have ez := frs_vals h2
        subst ez
        cases ru
        obtain ⟨its, rv, pl, hz⟩ := I.list h1
        refine call_set_txts xs (I.ok.hd hc) pl.isList rv hb fun h' tk R kk => ?_
        exact ⟨.ref s.heap.objs.size, _, I.laid (t' := tk) kk (Nat.le_refl _) (txtO_new R), rfl, k _ (I.hok.fresh (Nat.le_refl _))⟩
      · cases e
  | _ => cases e
theorem q_sortSet {X : Cx} {e : Expr} {f : FV} {p1 p2 pos1 pos2 : Pos} (hc : X.calm = true) (hu : X.A.units + 64 < cLine) (he : QV X e f) (hg : Gl X "sorted") (hm : X.mg "sorted" = none) (hg2 : Gl X "set") (hm2 : X.mg "set" = none)
    (h1 : starEach [.Call (.Name "set" p1) [e] [] pos1] X.env = (false, eval (.Call (.Name "set" p1) [e] [] pos1) X.env) :: starEach [] X.env := by rfl) (h2 : starEach [e] X.env = (false, eval e X.env) :: starEach [] X.env := by rfl)
    (hpl : (backTo pos2 (starEach [] X.env)).any (·.1) = false := by rfl) (hpl1 : (backTo pos1 (starEach [] X.env)).any (·.1) = false := by rfl) :
    QN X (.Call (.Name "sorted" p2) [.Call (.Name "set" p1) [e] [] pos1] [] pos2) (fSortSet f) := by
  refine PE.weak (pe_callB (c_sortTxt hc hu) hg hm (by rfl) (pa_cons (pe_callTy (c_setT hc) hg2 hm2 (by rfl) (pa_cons he pa_nil h2) (by decide) (by decide) h2 hpl1) pa_nil h1) (by decide) (by decide) h1 hpl) fun σ H Q ⟨W, F, as, d, as', S, e, k⟩ => ?_
  unfold fSortSet at e
  cases q : f as with
  | none => rw [q] at e; cases e
  | some pr =>
    obtain ⟨d1, as1⟩ := pr
    rw [q] at e
    dsimp only at e
    cases q2 : sSet d1 with
    | none => rw [q2] at e; cases e
    | some l =>
      rw [q2] at e
      cases e
      refine ⟨W, F, as, d1, as', S, q, fun v H1 F1 S1 m1 fr => ⟨F1, v, d1, l, rfl, S1.sub, fr.gr S1.sub, q2, fun p hp => ?_⟩⟩
      have S2 : St2 X.K W σ (upd H1 p (TxtO X.prog X.w p l)) F1 as' := S1.laid hp
      exact ⟨p, l, F1, rfl, upd_same, S2.sub, sortOk_strs l, fun r o hr oo => k r _ F1 (S2.laid hr) m1 (S2.free hr) (S2.dom r hr) oo (Nobody.fresh S2 hr)⟩
end PL
/-! PL18: list(d.items()); {k: v ..} stored. -/
namespace PL
open PySem PySem.Spec PyProof.Rows L2

def rItemsR (K : PySem.W.Frag) : V → Hp → VK → Prop := fun x H Q => ∃ (d : Addr) (kvs : List (Key × V)), x = .ref d ∧ Rd H d (.dK kvs) ∧
  ∀ (H' : Hp) (p : Addr) (ts : List Addr), SameH H H' → H p = none → (∀ t ∈ ts, H t = none) → p ∉ ts → H' p = some (.lst (ts.map V.ref)) → Paired (fun (t : Addr) (q : Key × V) => H' t = some (.tup [kV q.1, q.2])) ts kvs → kvs.length ≤ sizeLine → Q (.ref p) H'
theorem pe_itemsR {X : Cx} {e : Expr} {te : TE} {p apos cpos pos : Pos} (hc : X.calm = true) (he : PE X e te) (hg : Gl X "list") (hm : X.mg "list" = none) (hv : bootBuiltins "list" = some (.type "list")) (hbase : attributeBase e "items" X.env (eval e X.env) = eval e X.env) (hline : (apos.endLine == cpos.line) = true)
    (hs : starEach [.Call (.Attribute e "items" apos) [] [] cpos] X.env = (false, eval (.Call (.Attribute e "items" apos) [] [] cpos) X.env) :: starEach [] X.env) :
    PE X (.Call (.Name "list" p) [.Call (.Attribute e "items" apos) [] [] cpos] [] pos) (fun σ H Q => te σ H fun x H1 => rItemsR X.K x H1 Q) := by
  refine ⟨fun pins s σ H Q I hq => wpAny_Call_Name_kw (ld_blt I hg hm hv (PyProof.Rows.callWith_type1 ?_ hs rfl))⟩
  rw [hs]
  show wpAny _ _ (spliced ((false, eval (.Call (.Attribute e "items" apos) [] [] cpos) X.env) :: backTo pos (starEach [] X.env))) _ _ s
  refine Calls.spliced_cons (wpAny_Call_method (T := "dict") (id := "dict.items") hbase rfl hline PySem.F.plainAttrs_dict PySem.F.slot_dict_items PySem.F.type_dict_items (thn (he.run pins s σ H _ I hq) fun u s1 ⟨x, H1, I1, rx, d, kvs, ex, hd, q⟩ => ?_))
  subst ex
  obtain rfl : u = Value.ref d := rx
  obtain ⟨hz, away, vs, kv, dic⟩ := dk_rd I1.hok hd
  obtain ⟨ep, at_⟩ := dic.dictAt
  have len : kvs.length = vs.length := Paired.length kv
  refine ⟨dic.typeIs, dic.mapOf.noDict, ?_⟩
  show wpAny _ _ (callWith cpos (.builtin "dict.items") [.ref d] [] []) _ X.xe s1
  have view : L2.Inv X pins σ H1 { s1 with heap := s1.heap.push { cls := .type "dict_items", data := .fields #[.ref d] } } := I1.kept (t' := s1.toks) fun b ob q => Heap.get?_push_of_some _ q
  refine method_meetsIn PySem.F.slot_dict_items PySem.F.entry_dict_items rfl (PySem.evalArgs_none ⟨rfl, dic.typeIs, PySem.F.args_dict_items_1 _, _, meets_dict_items (mixKind X.prog X.w) d away, ⟨vs, dic⟩, Calls.spliced_nil ?_⟩)
  refine PySem.W.kdx_call (knd := mixKind X.prog X.w) (kvs := vs) (ep := ep) (I1.ok.hd hc) ⟨_, Heap.get?_push_size _ rfl, rfl, rfl⟩ (at_.push _) (by omega) fun h' tk acc c as hk hS hl hG hacc => ?_
  obtain ⟨H', k1, k2, k3, k4, k5, k6, J⟩ := LiI.items_laid (tk := tk) view hz kv hk hS hl hG hacc
  exact ⟨.ref _, H', J, rfl, q H' _ as k1 k2 k3 k4 k5 k6 hz⟩

def fItems2 (f : FE) : FV := fun as => match f as with
  | none => none
  | some (r, as1) => match rd as1 r with
    | some (.dict ks) => if hdK ks = true then some (.list (ks.map fun p => .tuple [p.1, p.2]), as1) else none
    | _ => none
theorem frs_pairs {K : PySem.W.Frag} {F F' : Hp} (m : SameH F F') : ∀ {ts : List Addr} {kvs : List (Key × V)} {ks : List (D × D)}, FRk K F kvs ks → Paired (fun (t : Addr) (q : Key × V) => F' t = some (.tup [kV q.1, q.2])) ts kvs → FRs K F' (ts.map V.ref) (ks.map fun p => .tuple [p.1, p.2])
  | _, _, _, .nil, .nil => .nil
  | _, _, _, .cons (k := k) fr r, .cons h t => .cons (.tup (.inl (.inl h)) (.cons (fr_key k) (.cons (fr.mono m) .nil)) (by show 2 ≤ sizeLine; decide)) (frs_pairs m r t)
theorem paired_imp {α β : Type} {R S : α → β → Prop} : ∀ {xs : List α} {ys : List β}, Paired R xs ys → (∀ x ∈ xs, ∀ y, R x y → S x y) → Paired S xs ys
  | _, _, .nil, _ => .nil
  | _, _, .cons h t, i => .cons (i _ List.mem_cons_self _ h) (paired_imp t fun x hx y r => i x (List.mem_cons_of_mem _ hx) y r)
theorem q_items {X : Cx} {e : Expr} {f : FE} {p apos cpos pos : Pos} (hc : X.calm = true) (he : QE X e f) (hg : Gl X "list") (hm : X.mg "list" = none) (hv : bootBuiltins "list" = some (.type "list")) (hbase : attributeBase e "items" X.env (eval e X.env) = eval e X.env := by rfl) (hline : (apos.endLine == cpos.line) = true := by rfl)
    (hs : starEach [.Call (.Attribute e "items" apos) [] [] cpos] X.env = (false, eval (.Call (.Attribute e "items" apos) [] [] cpos) X.env) :: starEach [] X.env := by rfl) :
    QN X (.Call (.Name "list" p) [.Call (.Attribute e "items" apos) [] [] cpos] [] pos) (fItems2 f) := PE.weak (pe_itemsR hc he hg hm hv hbase hline hs) fun σ H Q ⟨W, F, as, d, as', S, e, k⟩ => by
  unfold fItems2 at e
  cases q : f as with
  | none => rw [q] at e; cases e
  | some pr =>
    obtain ⟨r, as1⟩ := pr
    rw [q] at e
    dsimp only at e
    cases q2 : rd as1 r with
    | none => rw [q2] at e; cases e
    | some dd =>
      rw [q2] at e
      cases dd with
      | dict ks =>
        dsimp only at e
        split at e
        rotate_left
        · cases e
        rename_i hk0
        cases e
        refine ⟨W, F, as, r, as', S, q, fun v H1 F1 S1 m1 rr => ?_⟩
        rcases S1.rd rr q2 with ⟨a, kvs, ev, h1, h2, h3, h4⟩ | ⟨_, _, _, _, h2, _, _, _, h6⟩
        rotate_left
        · rw [frt_hdK h2 h6] at hk0; cases hk0
        refine ⟨a, kvs, ev, h1, fun H' b ts same hb hts nin atb pr hz => ?_⟩
        -- the new pairs are frozen as they stand
        have fr_of : ∀ t ∈ ts, F1 t = none := fun t ht => S1.free (hts t ht)
        let F2 : Hp := fun t => if t ∈ ts then H' t else F1 t
        have m2 : SameH F1 F2 := fun t u q => by
          have : t ∉ ts := fun z => by rw [fr_of t z] at q; cases q
          show (if t ∈ ts then H' t else F1 t) = some u
          rw [if_neg this]
          exact q
        have sub2 : SameH F2 H' := fun t u q => by
          have q' : (if t ∈ ts then H' t else F1 t) = some u := q
          split at q'
          · exact q'
          · exact same _ _ (S1.sub _ _ q')
        have S2 : St2 X.K W σ H' F2 as' := S1.grow same m2 sub2 fun t q => by
          by_cases z : t ∈ ts
          · exact .inr (hts t z)
          · have q' : (if t ∈ ts then H' t else F1 t) ≠ none := q
            rw [if_neg z] at q'
            exact .inl q'
        have f2 : F2 b = none := by
          show (if b ∈ ts then H' b else F1 b) = none
          rw [if_neg nin]
          exact S1.free hb
        have pr2 : Paired (fun (t : Addr) (q : Key × V) => F2 t = some (.tup [kV q.1, q.2])) ts kvs := paired_imp pr fun t ht y z => by
          show (if t ∈ ts then H' t else F1 t) = _
          rw [if_pos ht]
          exact z
        have len : ts.length = kvs.length := Paired.length pr
        refine k b H' F2 S2 (m1.trans m2) f2 (S1.dom b hb) ⟨_, atb, frs_pairs m2 h2 pr2, by rw [List.length_map, len]; exact hz⟩ (Nobody.fresh S1 hb)
      | _ => cases e

/-! ### y = {k: v for ..} on one line -/
theorem s_setDc (i : Nat) {X : Cx} {y : Str} {py : Pos} {kx vx tg iter : Expr} {ifs : List Expr} {scope : Scope} {own : List (Str × Nat)} {pos spos : Pos} {it : FA} {g : FG} {ws : List Nat} {tt : FB} {tk te : FV} (hc : X.calm = true) (hN : X.N.Nodup) (hy : X.N[i]? = some y) (hyl : X.env.scope.names.lookup y = some .local)
    (hsw : swapsWith (.DictComp kx vx [⟨tg, iter, ifs, 0⟩] scope pos) (some (.Name y py)) spos.line X.env = pure true) (ok : BlkOk X.N X.env.scope scope own) (hw : ∀ i ∈ ws, i ∈ own.map (·.2)) (hi : QI X tg iter it)
    (hg : ∀ (s : Shared) (H : Hp) (C : Addr) (cl : List (Str × Addr)) (fp : List Addr), QG (X.blk s H scope (compEnvC scope cl C X.env) fp) tg ws g) (ht : ∀ (s : Shared) (H : Hp) (C : Addr) (cl : List (Str × Addr)) (fp : List Addr), PTs (X.blk s H scope (compEnvC scope cl C X.env) fp) ifs (tOf X.K tt))
    (hk : ∀ (s : Shared) (H : Hp) (C : Addr) (cl : List (Str × Addr)) (fp : List Addr), QV (X.blk s H scope (compEnvC scope cl C X.env) fp) kx tk)
    (he : ∀ (s : Shared) (H : Hp) (C : Addr) (cl : List (Str × Addr)) (fp : List Addr), QV (X.blk s H scope (compEnvC scope cl C X.env) fp) vx te) (hs : ∀ x, foldedSetIterable iter X.env x = pure x := by intro _; rfl) :
    QS X (.Assign [.Name y py] (.DictComp kx vx [⟨tg, iter, ifs, 0⟩] scope pos) spos) (fSetN i (fDc it g tt tk te (own.map (·.2)))) := by
  refine ⟨fun pins s σ H N I h => ?_⟩
  have h' := asg_weak (dc_weak hw) N σ H (setN_weak (X := X) N σ H h)
  rw [exec_Assign_Name_used _ _ _ _ hsw]
  refine wpAny_bind (wpAny_standAt (wpAny_bind ?_))
  show wpAny _ X.A (do let _ ← comprehension (.DictComp kx vx [⟨tg, iter, ifs, 0⟩] scope pos) scope X.env (firstIterPos [⟨tg, iter, ifs, 0⟩] pos) newDict false (eval iter X.env) (some (assign (.Name y py) X.env))) _ _ s
  refine wpAny_bind (thn (dc_core (Q := fun x H1 => gName i x σ H1 N.nx) (Qf := fun _ s' => SP X pins N .next s') hc hN I hi ok hg ht hk he hs h' fun L C s' m H' I' q hn f => ?_) fun _ s' hq => wpAny_pure (wpAny_pure hq))
  show wpAny _ _ (assign (.Name y py) X.env (.ref L)) _ _ _
  refine wpAny_assign_Name (store_ok2 (v := V.ref L) I' hN hy (.inl hyl) rfl (fun s2 I2 ⟨a, sb, ha⟩ => ?_) (.inr hyl))
  obtain ⟨c0, c1, c2, c3, c4, c5⟩ := f
  have ne : C ≠ a := by
    rcases ha with z | z
    · rw [z]; exact c1
    · exact fun e => c4 y a z e.symm
  exact ⟨m, hn.sameBut sb ne, fun h3 sb3 => ⟨_, H', I2.turned (t' := s2.toks) (fun b o hb e => (sb3.2 b hb).trans e) c0 c1 c3 c4 c5, q⟩⟩
theorem sw_dict {kx vx : Expr} {gs : List Comprehension} {scope : Scope} {pos py : Pos} {y : Str} {l : Nat} {env : Env} (hk : env.scope.kind = .function) (hy : env.scope.names.lookup y = some .local) (hl : (py.line == pos.line) = true)
    (ha : (scope.names.any fun (n, k) => n == y && (k == .local || k == .cell)) = false) : swapsWith (.DictComp kx vx gs scope pos) (some (.Name y py)) l env = pure true := by
  have ky : env.kindOf y = some .local := hy
  have hb : env.blockKind = .function := by unfold Env.blockKind; rw [hk]; rfl
  unfold swapsWith
  simp only [hb, ky, ha, Expr.pos, hl]
  rfl
end PL
/-! PL19: what the operations are, in plain words (for the laws' mathematics). -/
namespace PL
open PySem PySem.Spec PyProof.Rows L2

theorem gEq_str (a b : Str) : gEq (.str a) (.str b) = some (.bool (decide (a = b))) := by
  have e : eqOk (.str a) (.str b) = true := rfl
  unfold gEq
  rw [if_pos e]
  show some (PyData.bool (a == b)) = _
  by_cases h : a = b
  · subst h; simp
  · simp [h]
theorem gNe_str (a b : Str) : gNe (.str a) (.str b) = some (.bool (!decide (a = b))) := by
  have e : eqOk (.str a) (.str b) = true := rfl
  unfold gNe
  rw [if_pos e]
  show some (PyData.bool (!(a == b))) = _
  by_cases h : a = b
  · subst h; simp
  · simp [h]
theorem gEq_int (a b : Int) : gEq (.int a) (.int b) = some (.bool (decide (a = b))) := by
  have e : eqOk (.int a) (.int b) = true := rfl
  unfold gEq
  rw [if_pos e]
  show some (PyData.bool (a == b)) = _
  by_cases h : a = b
  · subst h; simp
  · simp [h]
theorem gNe_int (a b : Int) : gNe (.int a) (.int b) = some (.bool (!decide (a = b))) := by
  have e : eqOk (.int a) (.int b) = true := rfl
  unfold gNe
  rw [if_pos e]
  show some (PyData.bool (!(a == b))) = _
  by_cases h : a = b
  · subst h; simp
  · simp [h]
theorem gEq_bool (a b : Bool) : gEq (.bool a) (.bool b) = some (.bool (a == b)) := by cases a <;> cases b <;> rfl
theorem gNe_bool (a b : Bool) : gNe (.bool a) (.bool b) = some (.bool (a != b)) := by cases a <;> cases b <;> rfl
theorem atI_nat' {α : Type} (xs : List α) (i : Nat) : atI xs (i : Int) = xs[i]? := by
  unfold atI ixN
  rw [if_pos (by omega)]
  by_cases h : i < xs.length
  · rw [if_pos (by omega)]
    show xs[(i : Int).toNat]? = _
    rw [Int.toNat_natCast]
  · rw [if_neg (by omega), List.getElem?_eq_none (by omega)]
    rfl
theorem gIx_t0 (ds : List D) : gIx (.tuple ds) (.int 0) = ds[0]? := atI_nat' ds 0
theorem gIx_t1 (ds : List D) : gIx (.tuple ds) (.int 1) = ds[1]? := atI_nat' ds 1
theorem gIx_t2 (ds : List D) : gIx (.tuple ds) (.int 2) = ds[2]? := atI_nat' ds 2
theorem gIx_tn (ds : List D) (i : Nat) : gIx (.tuple ds) (.int (i : Int)) = ds[i]? := atI_nat' ds i
theorem gIx_l0 (ds : List D) : gIx (.list ds) (.int 0) = ds[0]? := atI_nat' ds 0
theorem gIx_l1 (ds : List D) : gIx (.list ds) (.int 1) = ds[1]? := atI_nat' ds 1
theorem gIx_l2 (ds : List D) : gIx (.list ds) (.int 2) = ds[2]? := atI_nat' ds 2
theorem gIx_ln (ds : List D) (i : Nat) : gIx (.list ds) (.int (i : Int)) = ds[i]? := atI_nat' ds i
/-- in a row of texts -/
theorem inD_strs (x : Str) (xs : List Str) (h : True) : gIn (.str x) (.tuple (xs.map PyData.str)) = some (.bool (decide (x ∈ xs))) := by
  have e : (PyData.plain (.str x) && PyData.plainAll (xs.map PyData.str) && decide (min (PyData.depthAll (xs.map PyData.str)) (PyData.depth (.str x)) ≤ 60)) = true := by
    rw [plain_strs, depth_strs]
    rfl
  have e2 : ((xs.map PyData.str).any fun y => y.eqv (.str x)) = decide (x ∈ xs) := by
    rw [List.any_map]
    induction xs with
    | nil => rfl
    | cons y ys ih =>
      rw [List.any_cons, ih (by rw [plain_strs, depth_strs]; rfl)]
      show ((y == x) || _) = _
      by_cases q : x = y
      · subst q; simp
      · have q' : ¬ y = x := fun z => q z.symm
        simp [q, q']
  unfold gIn
  show Option.map PyData.bool (if _ = true then some ((xs.map PyData.str).any fun y => y.eqv (.str x)) else none) = _
  rw [if_pos e, e2]
  rfl
theorem inL_strs (x : Str) (xs : List Str) : gIn (.str x) (.list (xs.map PyData.str)) = some (.bool (decide (x ∈ xs))) := inD_strs x xs trivial
theorem gIn2 (x a b : Str) : gIn (.str x) (.tuple [.str a, .str b]) = some (.bool (decide (x = a) || decide (x = b))) := by
  rw [show ([.str a, .str b] : List PyData) = [a, b].map PyData.str from rfl, inD_strs x [a, b] trivial]
  congr 2
  by_cases h1 : x = a
  · simp [h1]
  · by_cases h2 : x = b
    · simp [h2]
    · simp [h1, h2]
theorem gInL2 (x a b : Str) : gIn (.str x) (.list [.str a, .str b]) = some (.bool (decide (x = a) || decide (x = b))) := gIn2 x a b
end PL
/-! PL20: loops of mirrors, in general. -/
namespace PL
open PySem PySem.Spec PyProof.Rows L2

theorem loopC_pure {α : Type} {g : FG} {tt : FB} {te : FV} {vs : List Nat} {st : AS} (F : α → Option D) (enc : α → D) : ∀ (xs : List α) (acc : List D),
    (∀ x ∈ xs, ∃ as1, g (enc x) st = some as1 ∧ ((∃ as2, tt as1 = some (false, as2) ∧ wipeA as2 vs = st ∧ F x = none) ∨ (∃ as2 y as3, tt as1 = some (true, as2) ∧ te as2 = some (y, as3) ∧ wipeA as3 vs = st ∧ F x = some y))) →
    acc.length + xs.length ≤ sizeLine → loopC g tt te vs (xs.map enc) st acc = some (acc ++ xs.filterMap F, st)
  | [], acc, _, _ => by rw [List.map_nil, List.filterMap_nil, List.append_nil]; rfl
  | x :: xs, acc, h, hl => by
    rw [List.length_cons] at hl
    obtain ⟨as1, h1, h2⟩ := h x List.mem_cons_self
    have hx := fun y hy => h y (List.mem_cons_of_mem _ hy)
    rw [List.map_cons]
    unfold loopC
    rw [h1]
    dsimp only
    rcases h2 with ⟨as2, q1, q2, q3⟩ | ⟨as2, y, as3, q1, q2, q3, q4⟩
    · rw [q1]
      dsimp only
      rw [q2, loopC_pure F enc xs acc hx (by omega), List.filterMap_cons, q3]
    · rw [q1]
      dsimp only
      rw [q2]
      dsimp only
      rw [if_pos (by omega), q3, loopC_pure F enc xs (acc ++ [y]) hx (by rw [List.length_append, List.length_singleton]; omega), List.filterMap_cons, q4, List.append_assoc]
      rfl
/-- a loop whose state is told by a relation -/
theorem loopF_inv {α : Type} {g : FG} {body : FS} (enc : α → D) (R : List α → AS → Prop) (out : AS → Prop)
    (hd : ∀ st, R [] st → out st) (hs : ∀ x r st, R (x :: r) st → ∃ as1 as2, g (enc x) st = some as1 ∧ body as1 = some (.nx as2) ∧ R r as2) :
    ∀ (xs : List α) (st : AS), R xs st → ∃ st', out st' ∧ loopF g body (xs.map enc) st = some (.nx st')
  | [], st, h => ⟨st, hd st h, rfl⟩
  | x :: xs, st, h => by
    obtain ⟨as1, as2, h1, h2, h3⟩ := hs x xs st h
    obtain ⟨st', h4, h5⟩ := loopF_inv enc R out hd hs xs as2 h3
    refine ⟨st', h4, ?_⟩
    rw [List.map_cons]
    unfold loopF
    rw [h1]
    dsimp only
    rw [h2]
    exact h5
theorem cut_take {α : Type} (xs : List α) (m : Nat) : cut xs none (some (m : Int)) = xs.take m := by
  unfold cut
  rw [HT.sIx_none, HT.sIx_nat, List.drop_zero, Nat.sub_zero]
  by_cases h : m ≤ xs.length
  · rw [Nat.min_eq_left h]
  · rw [Nat.min_eq_right (by omega), List.take_of_length_le (Nat.le_refl _), List.take_of_length_le (by omega)]
theorem cut_drop1 {α : Type} (xs : List α) : cut xs (some 1) none = xs.drop 1 := by
  unfold cut
  rw [HT.sIx_none, show HT.sIx xs.length 0 (some 1) = min 1 xs.length from HT.sIx_nat _ _ 1]
  cases xs with
  | nil => rfl
  | cons x xs =>
    rw [List.length_cons, Nat.min_eq_left (by omega), List.drop_one, List.tail_cons, Nat.add_sub_cancel, List.take_length]
/-- a loop that looks for the first x with p x -/
theorem loopF_find {α : Type} {g : FG} {body : FS} (enc : α → D) (p : α → Bool) (res : α → D) (R : AS → Prop) :
    ∀ (xs : List α), (∀ x ∈ xs, ∀ st, R st → ∃ as1, g (enc x) st = some as1 ∧ ((p x = true ∧ ∃ st', body as1 = some (.rt (res x) st')) ∨ (p x = false ∧ ∃ st', body as1 = some (.nx st') ∧ R st'))) → ∀ st, R st →
    match xs.find? p with
    | some x => ∃ st', loopF g body (xs.map enc) st = some (.rt (res x) st')
    | none => ∃ st', R st' ∧ loopF g body (xs.map enc) st = some (.nx st')
  | [], _, st, h => ⟨st, h, rfl⟩
  | x :: xs, hs, st, h => by
    obtain ⟨as1, h1, h2⟩ := hs x List.mem_cons_self st h
    rw [List.find?_cons, List.map_cons]
    unfold loopF
    rw [h1]
    dsimp only
    rcases h2 with ⟨q, st', e⟩ | ⟨q, st', e, r⟩
    · rw [q, e]
      exact ⟨st', rfl⟩
    · rw [q, e]
      exact loopF_find enc p res R xs (fun y hy => hs y (List.mem_cons_of_mem _ hy)) st' r
theorem sort_strs (zs : List Str) : ∃ ys : List Str, sortD (zs.map PyData.str) = ys.map PyData.str ∧ ys.Perm zs := by
  refine ⟨zs.mergeSort fun a b => decide (a.cps.toList ≤ b.cps.toList), ?_, List.mergeSort_perm _ _⟩
  unfold sortD
  rw [List.map_mergeSort]
  intro a _ b _
  exact (le_strs a b).symm
theorem insS_mem {x y : Str} {l : List Str} (h : y ∈ insS x l) : y = x ∨ y ∈ l := by
  unfold insS at h
  split at h
  · exact .inr h
  · exact List.mem_cons.mp h
theorem gather_mem {y : Str} : ∀ {xs l : List Str}, y ∈ gather xs l → y ∈ xs ∨ y ∈ l
  | [], l, h => .inr h
  | x :: r, l, h => by
    rcases gather_mem (xs := r) (l := insS x l) h with h | h
    · exact .inl (List.mem_cons_of_mem _ h)
    · rcases insS_mem h with h | h
      · exact .inl (by rw [h]; exact List.mem_cons_self)
      · exact .inr h
theorem gather_len : ∀ (xs l : List Str), (gather xs l).length ≤ xs.length + l.length
  | [], l => by
    show l.length ≤ _
    omega
  | x :: r, l => by
    have h1 := gather_len r (insS x l)
    have h2 := insS_len x l
    show (gather r (insS x l)).length ≤ _
    rw [List.length_cons]
    omega
theorem strsD_map : ∀ xs : List Str, strsD (xs.map PyData.str) = some xs
  | [] => rfl
  | x :: xs => by
    rw [List.map_cons]
    unfold strsD
    rw [strsD_map xs]
    rfl
theorem gNe_nil (xs : List Str) : gNe (.list (xs.map PyData.str)) (.list []) = some (.bool (!xs.isEmpty)) := by
  have e : eqOk (.list (xs.map PyData.str)) (.list []) = true := by
    unfold eqOk
    have p1 : PyData.plain (.list (xs.map PyData.str)) = true := by
      unfold PyData.plain
      exact plain_strs xs
    have d1 : PyData.depth (.list (xs.map PyData.str)) ≤ 60 := by
      unfold PyData.depth
      rw [depth_strs]
      decide
    rw [p1]
    have p2 : PyData.plain (.list []) = true := rfl
    rw [p2, Bool.true_and, Bool.true_and, decide_eq_true_eq]
    exact Nat.le_trans (Nat.min_le_left _ _) d1
  unfold gNe
  rw [if_pos e]
  cases xs <;> rfl
theorem gEq_nil (xs : List Str) : gEq (.list (xs.map PyData.str)) (.list []) = some (.bool xs.isEmpty) := by
  have h := gNe_nil xs
  unfold gNe at h
  unfold gEq
  split at h
  · rename_i c
    rw [if_pos c]
    have h' := Option.some.inj h
    have h2 : (!(PyData.list (xs.map PyData.str)).eqv (.list [])) = !xs.isEmpty := PyData.bool.inj h'
    rw [Bool.not_inj_iff] at h2
    rw [h2]
  · cases h
theorem for_rng {f : FV} {g : FG} {body : FS} {as as1 : AS} {n : Nat} (h : f as = some (.int (n : Int), as1)) (hn : n ≤ sizeLine) : fFor (aRng1 f) g body as = loopF g body (rgD 0 n) as1 := by
  have e : aRng1 f as = some (rgD 0 n, as1) := by
    unfold aRng1
    rw [h]
    exact if_pos hn
  unfold fFor
  rw [e]
theorem for_rng2 {f f2 : FV} {g : FG} {body : FS} {as as1 as2 : AS} {m n : Nat} (h : f as = some (.int (m : Int), as1)) (h2 : f2 as1 = some (.int (n : Int), as2)) (hm : m ≤ sizeLine) (hn : n ≤ sizeLine) : fFor (aRng2 f f2) g body as = loopF g body (rgD m (n - m)) as2 := by
  have e : aRng2 f f2 as = some (rgD m (n - m), as2) := by
    unfold aRng2
    rw [h]
    show (match f2 as1 with | some (.int (.ofNat n), as2) => _ | _ => none) = _
    rw [h2]
    exact if_pos ⟨hm, hn⟩
  unfold fFor
  rw [e]
end PL
/-! PL21: max, min of two ints; str; name += int. -/
namespace PL
open PySem PySem.Spec PyProof.Rows L2

def g2 (f : D → D → Option D) : List D → Option D
  | [x, y] => f x y
  | _ => none
def gMax2 : D → D → Option D
  | .int i, .int j => some (.int (if j > i then j else i))
  | _, _ => none
def gMin2 : D → D → Option D
  | .int i, .int j => some (.int (if j < i then j else i))
  | _, _ => none
theorem ints2 {K : PySem.W.Frag} {H F : Hp} {xs : List V} {f : Int → Int → Int} {ds : List D} {d : D} (g : D → D → Option D) (hg : ∀ x y d, g x y = some d → ∃ i j, x = .int i ∧ y = .int j ∧ d = .int (f i j)) (h : GRs K H F xs ds) (e : g2 g ds = some d) : ∃ i j, xs = [.int i, .int j] ∧ d = .int (f i j) := by
  match ds, e with
  | [x, y], e =>
    obtain ⟨i, j, rfl, rfl, rfl⟩ := hg _ _ _ e
    cases h with
    | cons h t =>
      cases t with
      | cons h2 t =>
        cases t
        cases h
        cases h2
        exact ⟨i, j, rfl, rfl⟩
theorem gMax2_inv (x y d : D) (e : gMax2 x y = some d) : ∃ i j, x = .int i ∧ y = .int j ∧ d = .int ((fun i j : Int => if j > i then j else i) i j) := by
  cases x <;> cases y <;> first
    | (cases e; done)
    | (cases e; exact ⟨_, _, rfl, rfl, rfl⟩)
theorem gMin2_inv (x y d : D) (e : gMin2 x y = some d) : ∃ i j, x = .int i ∧ y = .int j ∧ d = .int ((fun i j : Int => if j < i then j else i) i j) := by
  cases x <;> cases y <;> first
    | (cases e; done)
    | (cases e; exact ⟨_, _, rfl, rfl, rfl⟩)
section
variable {X : Cx}
theorem c_max2 (hc : X.calm = true) : CallR X (.builtin "max") (lG X.K (g2 gMax2)) := by
  intro pins s σ H xs us Q I r ⟨F, ds, d, sub, gs, e, k⟩
  obtain ⟨i, j, rfl, rfl⟩ := ints2 gMax2 gMax2_inv gs e
  exact call_max2 hc pins s σ H _ us Q I r ⟨i, j, rfl, k _ H F (Grown.refl sub) (.int _)⟩
theorem c_min2 (hc : X.calm = true) : CallR X (.builtin "min") (lG X.K (g2 gMin2)) := by
  intro pins s σ H xs us Q I r ⟨F, ds, d, sub, gs, e, k⟩
  obtain ⟨i, j, rfl, rfl⟩ := ints2 gMin2 gMin2_inv gs e
  exact call_min2 hc pins s σ H _ us Q I r ⟨i, j, rfl, k _ H F (Grown.refl sub) (.int _)⟩
def gStr : D → Option D
  | .int i => if i.natAbs.log2 < 1920 then some (.str (toString i)) else none
  | .str x => some (.str x)
  | _ => none
theorem c_str : CallR X (.type "str") (lG X.K (g1 gStr)) := c_one fun pins s σ H x u Q I ru ⟨F, d, d', sub, gx, e, k⟩ => by
  cases d with
  | int i =>
    cases gx
    dsimp only [gStr] at e
    split at e
    · rename_i z
      cases e
      exact via call_str_int I ru ⟨i, rfl, z, k _ H F (Grown.refl sub) (.str _)⟩
    · cases e
  | str y =>
    cases gx
    cases e
    exact via SkE.call_str_str I ru ⟨y, rfl, k _ H F (Grown.refl sub) (.str _)⟩
  | _ => cases e
end
/-! ### name += e -/
def fAug (g : Int → Int → Int) (i : Nat) (f : FV) : FS := fun as => match as[i]? with
  | some (.fz (.int x)) => match f as with
    | some (.int y, as1) => some (.nx (as1.set i (.fz (.int (g x y)))))
    | _ => none
  | _ => none
section
variable {X : Cx} {e : Expr} {fv : FV} {pos : Pos}
theorem s_aug {op : Operator} {g : Int → Int → Int} (ho : PIp X op (ipI g)) (i : Nat) {x : Str} {pos' : Pos} (hN : X.N.Nodup) (hi : X.N[i]? = some x) (hx : Loc X.env.scope x) (h : QV X e fv) (hf : X.fn x = true ∨ X.env.scope.names.lookup x = some .local := by first | exact .inl rfl | exact .inr rfl | assumption) :
    QS X (.AugAssign (.Name x pos') op e pos) (fAug g i fv) := PS.weak (ps_aug hN hi hx h ho hf) fun N σ H ⟨W, F, as, fl, S, e, k⟩ => by
  unfold fAug at e
  cases q : as[i]? with
  | none => rw [q] at e; cases e
  | some s =>
    rw [q] at e
    cases s with
    | fz d =>
      cases d with
      | int a =>
        dsimp only at e
        obtain ⟨v, z1, z2⟩ := S.slot i _ q
        cases z2
        refine ⟨_, z1, ?_⟩
        cases q2 : fv as with
        | none => rw [q2] at e; cases e
        | some p =>
          obtain ⟨d, as1⟩ := p
          rw [q2] at e
          cases d with
          | int b =>
            cases e
            refine ⟨W, F, as, .int b, as1, S, q2, fun v H1 F1 S1 m1 fr => ?_⟩
            cases fr
            exact ⟨a, b, rfl, rfl, k _ H1 F1 (S1.put (.int _)) m1⟩
          | _ => cases e
      | _ => cases e
    | _ => cases e
end
end PL
/-! PL22: f-strings. -/
namespace PL
open PySem PySem.Spec PyProof.Rows L2

def gFmt : D → Option D
  | .str x => if x.length ≤ sizeLine then some (.str x) else none
  | .int i => if i.natAbs.log2 < 1920 then some (.str (toString i)) else none
  | _ => none
def fFmt (f : FV) : FV := fun as => match f as with
  | some (d, as1) => match gFmt d with
    | some d' => some (d', as1)
    | none => none
  | none => none
def fJs : List FV → Str → FV
  | [], acc => fun as => some (.str acc, as)
  | f :: fs, acc => fun as => match f as with
    | some (.str y, as1) => if (acc ++ y).length ≤ sizeLine then fJs fs (acc ++ y) as1 else none
    | _ => none
section
variable {X : Cx}
theorem q_fmt {e : Expr} {f : FV} {pos : Pos} (h : QV X e f) : QV X (.FormattedValue e (-1) none pos) (fFmt f) := PE.weak (pe_fmt h) fun σ H Q ⟨W, F, as, d, as', S, e, k⟩ => by
  unfold fFmt at e
  cases q : f as with
  | none => rw [q] at e; cases e
  | some p =>
    obtain ⟨d1, as1⟩ := p
    rw [q] at e
    dsimp only at e
    cases q2 : gFmt d1 with
    | none => rw [q2] at e; cases e
    | some d2 =>
      rw [q2] at e
      cases e
      refine ⟨W, F, as, d1, _, S, q, fun v H1 F1 S1 m1 fr => ?_⟩
      cases d1 with
      | str x =>
        cases fr
        dsimp only [gFmt] at q2
        split at q2
        · rename_i z
          cases q2
          exact .inl ⟨x, rfl, z, k _ H1 F1 S1 m1 (.str _)⟩
        · cases q2
      | int i =>
        cases fr
        dsimp only [gFmt] at q2
        split at q2
        · rename_i z
          cases q2
          exact .inr ⟨i, rfl, z, k _ H1 F1 S1 m1 (.str _)⟩
        · cases q2
      | _ => cases q2
theorem js_weak {K : PySem.W.Frag} : ∀ (fs : List FV) (acc : Str) (σ : Sg) (H : Hp) (Q : Str → Hp → Prop), vOf K (fJs fs acc) σ H (fun v H1 => ∀ x, v = .str x → Q x H1) → tJs (fs.map (vOf K)) acc σ H Q
  | [], acc, σ, H, Q, ⟨W, F, as, d, as', S, e, k⟩ => by
    cases e
    exact k _ H F S (Same.refl F) (.str _) acc rfl
  | f :: fs, acc, σ, H, Q, ⟨W, F, as, d, as', S, e, k⟩ => by
    unfold fJs at e
    cases q : f as with
    | none => rw [q] at e; cases e
    | some p =>
      obtain ⟨d1, as1⟩ := p
      rw [q] at e
      cases d1 with
      | str y =>
        dsimp only at e
        split at e
        · rename_i z
          refine ⟨W, F, as, .str y, as1, S, q, fun v H1 F1 S1 m1 fr => ?_⟩
          cases fr
          exact ⟨y, rfl, z, js_weak fs (acc ++ y) σ H1 Q ⟨W, F1, as1, d, as', S1, e, fun v H2 F2 S2 m2 fr2 => k v H2 F2 S2 (m1.trans m2) fr2⟩⟩
        · cases e
      | _ => cases e
theorem q_joined {v1 v2 : Expr} {rest : List Expr} {fs : List FV} {pos : Pos} (h : PJ X (v1 :: v2 :: rest) (fs.map (vOf X.K))) : QV X (.JoinedStr (v1 :: v2 :: rest) pos) (fJs fs Str.empty) := PE.weak (pe_joined h) fun σ H Q ⟨W, F, as, d, as', S, e, k⟩ => by
  refine js_weak fs Str.empty σ H _ ⟨W, F, as, d, as', S, e, fun v H1 F1 S1 m1 fr x hx => ?_⟩
  subst hx
  exact k _ H1 F1 S1 m1 fr
theorem j_nil : PJ X [] (([] : List FV).map (vOf X.K)) := .nil
theorem j_cons {e : Expr} {f : FV} {es : List Expr} {fs : List FV} (h : QV X e f) (r : PJ X es (fs.map (vOf X.K))) : PJ X (e :: es) ((f :: fs).map (vOf X.K)) := .cons h r
end
end PL
/-! PL23: d.get(k), d.get(k, x). -/
namespace PL
open PySem PySem.Spec PyProof.Rows L2

def gGet : D → D → D → Option D
  | .dict ks, k, x => match dKey k with
    | some _ => if hdK ks = true then some ((look k ks).getD x) else none
    | none => none
  | _, _, _ => none
def fGet1 (fd fk : FE) : FV := fun as => match fd as with
  | none => none
  | some (r, as1) => match rd as1 r with
    | some (.dict ks0) => if hdK ks0 = false then none else match fk as1 with
      | none => none
      | some (rk, as2) => match rd as2 r, rd as2 rk with
        | some x, some y => match gGet x y .none with
          | some d => some (d, as2)
          | none => none
        | _, _ => none
    | _ => none
def fGet2 (fd fk : FE) (fx : FV) : FV := fun as => match fd as with
  | none => none
  | some (r, as1) => match rd as1 r with
    | some (.dict ks0) => if hdK ks0 = false then none else match fk as1 with
      | none => none
      | some (rk, as2) => match fx as2 with
        | none => none
        | some (z, as3) => match rd as3 r, rd as3 rk with
          | some x, some y => match gGet x y z with
            | some d => some (d, as3)
            | none => none
          | _, _ => none
    | _ => none
/-- what the look-up finds -/
theorem get_at {K : PySem.W.Frag} {H F : Hp} {v y z : V} {x k dz d : D} (gx : GR K H F v x) (gy : GR K H F y k) (e : gGet x k dz = some d) (fz : FR K F z dz) : ∃ a o, v = .ref a ∧ DGet H a y o ∧ FR K F (o.getD z) d := by
  cases x with
  | dict ks =>
    dsimp only [gGet] at e
    cases kx : dKey k with
    | none => rw [kx] at e; cases e
    | some k' =>
      rw [kx] at e
      dsimp only at e
      split at e
      rotate_left
      · cases e
      rename_i hk0
      rcases gx with ⟨a, kvs, rfl, h1, h2, h3, h4⟩ | ⟨_, _, _, _, h2, _, _, _, h6⟩
      rotate_left
      · rw [frt_hdK h2 h6] at hk0; cases hk0
      rw [dKey_keyD kx] at e
      have w := frk_look (k := k') h2
      have hk := kV_of gy kx
      subst hk
      refine ⟨a, valV kvs k', rfl, .inl ⟨kvs, k', h1, rfl, rfl⟩, ?_⟩
      cases q : valV kvs k' with
      | none =>
        rw [q] at w
        dsimp only at w
        rw [w] at e
        cases e
        exact fz
      | some w' =>
        rw [q] at w
        obtain ⟨d', z1, z2⟩ := w
        rw [z1] at e
        cases e
        exact z2
  | _ => cases e
theorem dict_isD {K : PySem.W.Frag} {H F : Hp} {v : V} {ks : List (D × D)} (g : GR K H F v (.dict ks)) (hk0 : ¬ hdK ks = false) : ∃ a, v = .ref a ∧ IsD H a := by
  rcases g with ⟨a, kvs, rfl, h1, _⟩ | ⟨_, _, _, _, h2, _, _, _, h6⟩
  · exact ⟨a, rfl, .inl ⟨kvs, h1⟩⟩
  · exact absurd (frt_hdK h2 h6) hk0
theorem get1_weak {K : PySem.W.Frag} {fd fk : FE} : ∀ σ H Q, vOf K (fGet1 fd fk) σ H Q → tDGet1 (eOf K fd) (eOf K fk) σ H Q := fun σ H Q ⟨W, F, as, d, as', S, e, k⟩ => by
  unfold fGet1 at e
  cases q : fd as with
  | none => rw [q] at e; cases e
  | some p =>
    obtain ⟨r, as1⟩ := p
    rw [q] at e
    dsimp only at e
    cases q1 : rd as1 r with
    | none => rw [q1] at e; cases e
    | some x0 =>
      rw [q1] at e
      cases x0 with
      | dict ks0 =>
        dsimp only at e
        split at e
        · cases e
        rename_i hk0
        cases q2 : fk as1 with
        | none => rw [q2] at e; cases e
        | some p2 =>
          obtain ⟨rk, as2⟩ := p2
          rw [q2] at e
          dsimp only at e
          cases q3 : rd as2 r with
          | none => rw [q3] at e; cases e
          | some x =>
            cases q4 : rd as2 rk with
            | none => rw [q3, q4] at e; cases e
            | some y =>
              rw [q3, q4] at e
              dsimp only at e
              cases q5 : gGet x y .none with
              | none => rw [q5] at e; cases e
              | some d' =>
                rw [q5] at e
                cases e
                refine ⟨W, F, as, r, as1, S, q, fun v H1 F1 S1 m1 r1 => ?_⟩
                obtain ⟨a, e1, dd⟩ := dict_isD (S1.rd r1 q1) hk0
                refine ⟨a, e1, dd, W, F1, as1, rk, _, S1, q2, fun u H2 F2 S2 m2 r2 => ?_⟩
                obtain ⟨a', o, e2, g, fr⟩ := get_at (S2.rd (r1.mono m2) q3) (S2.rd r2 q4) q5 FR.non
                rw [e1] at e2
                cases e2
                exact ⟨o, g, k _ H2 F2 S2 (m1.trans m2) fr⟩
      | _ => cases e
theorem get2_weak {K : PySem.W.Frag} {fd fk : FE} {fx : FV} : ∀ σ H Q, vOf K (fGet2 fd fk fx) σ H Q → tDGet2 (eOf K fd) (eOf K fk) (vOf K fx) σ H Q := fun σ H Q ⟨W, F, as, d, as', S, e, k⟩ => by
  unfold fGet2 at e
  cases q : fd as with
  | none => rw [q] at e; cases e
  | some p =>
    obtain ⟨r, as1⟩ := p
    rw [q] at e
    dsimp only at e
    cases q1 : rd as1 r with
    | none => rw [q1] at e; cases e
    | some x0 =>
      rw [q1] at e
      cases x0 with
      | dict ks0 =>
        dsimp only at e
        split at e
        · cases e
        rename_i hk0
        cases q2 : fk as1 with
        | none => rw [q2] at e; cases e
        | some p2 =>
          obtain ⟨rk, as2⟩ := p2
          rw [q2] at e
          dsimp only at e
          cases q6 : fx as2 with
          | none => rw [q6] at e; cases e
          | some p3 =>
            obtain ⟨dz, as3⟩ := p3
            rw [q6] at e
            dsimp only at e
            cases q3 : rd as3 r with
            | none => rw [q3] at e; cases e
            | some x =>
              cases q4 : rd as3 rk with
              | none => rw [q3, q4] at e; cases e
              | some y =>
                rw [q3, q4] at e
                dsimp only at e
                cases q5 : gGet x y dz with
                | none => rw [q5] at e; cases e
                | some d' =>
                  rw [q5] at e
                  cases e
                  refine ⟨W, F, as, r, as1, S, q, fun v H1 F1 S1 m1 r1 => ?_⟩
                  obtain ⟨a, e1, dd⟩ := dict_isD (S1.rd r1 q1) hk0
                  refine ⟨a, e1, dd, W, F1, as1, rk, _, S1, q2, fun u H2 F2 S2 m2 r2 => ?_⟩
                  refine ⟨W, F2, as2, dz, _, S2, q6, fun z H3 F3 S3 m3 fz => ?_⟩
                  obtain ⟨a', o, e2, g, fr⟩ := get_at (S3.rd ((r1.mono m2).mono m3) q3) (S3.rd (r2.mono m3) q4) q5 fz
                  rw [e1] at e2
                  cases e2
                  exact ⟨o, g, k _ H3 F3 S3 ((m1.trans m2).trans m3) fr⟩
      | _ => cases e
section
variable {X : Cx} {o e f : Expr} {fd fk : FE} {fx : FV} {apos cpos : Pos}
theorem q_get1 (hu : X.A.units + 64 < cLine) (ho : QE X o fd) (he : QE X e fk) (hb : attributeBase o "get" X.env (eval o X.env) = eval o X.env := by rfl)
    (few : ((backTo cpos (starEach [e] X.env)).all (fun x => !x.1) && (backToKw cpos (keywordEach [] X.env)).all (fun x => x.1.isSome) && decide (([e] : List Expr).length + ([] : List Keyword).length + (if ([] : List Keyword).isEmpty then 0 else 1) < 30)) = true := by rfl)
    (line : (apos.endLine == cpos.line) = true := by rfl) (trees : backTo cpos (starEach [e] X.env) = [(false, eval e X.env)] := by rfl) : QV X (.Call (.Attribute o "get" apos) [e] [] cpos) (fGet1 fd fk) := PE.weak (pe_dget1 (by omega) ho he ⟨hb, few, line, trees⟩) get1_weak
theorem q_get2 (hu : X.A.units + 64 < cLine) (ho : QE X o fd) (he : QE X e fk) (hf : QV X f fx) (hb : attributeBase o "get" X.env (eval o X.env) = eval o X.env := by rfl)
    (few : ((backTo cpos (starEach [e, f] X.env)).all (fun x => !x.1) && (backToKw cpos (keywordEach [] X.env)).all (fun x => x.1.isSome) && decide (([e, f] : List Expr).length + ([] : List Keyword).length + (if ([] : List Keyword).isEmpty then 0 else 1) < 30)) = true := by rfl)
    (line : (apos.endLine == cpos.line) = true := by rfl) (trees : backTo cpos (starEach [e, f] X.env) = [(false, eval e X.env), (false, eval f X.env)] := by rfl) : QV X (.Call (.Attribute o "get" apos) [e, f] [] cpos) (fGet2 fd fk fx) := PE.weak (pe_dget2 (by omega) ho he hf ⟨hb, few, line, trees⟩) get2_weak
end
end PL
/-! PL24: xs.index(text); min(xs) of data. -/
namespace PL
open PySem PySem.Spec PyProof.Rows L2

/-! ### xs.index(x), x a text -/
def gIndex : D → D → Option D
  | .list ds, .str x => match strsD ds with
    | some xs => if x ∈ xs then some (.int ((xs.idxOf x : Nat) : Int)) else none
    | none => none
  | _, _ => none
def fIndex (fd fk : FE) : FV := fun as => match fd as with
  | none => none
  | some (r, as1) => match rd as1 r with
    | some (.list _) => match fk as1 with
      | none => none
      | some (rk, as2) => match rd as2 r, rd as2 rk with
        | some x, some y => match gIndex x y with
          | some d => some (d, as2)
          | none => none
        | _, _ => none
    | _ => none
theorem strs_are : ∀ {xs : List Str} {its : List Value}, Vals (xs.map V.str) its → StrsAre its xs
  | [], _, .nil => .nil
  | x :: xs, _, .cons h t => by
    obtain ⟨tk, rfl⟩ := h
    exact .cons x tk (strs_are t)
theorem frs_strs_inv {K : PySem.W.Frag} {F : Hp} : ∀ {vs : List V} {xs : List Str}, FRs K F vs (xs.map PyData.str) → vs = xs.map V.str
  | _, [], h => by cases h; rfl
  | _, x :: xs, h => by
    cases h with
    | cons h t =>
      cases h
      rw [frs_strs_inv t, List.map_cons]
section
variable {X : Cx} {o e : Expr} {fd fk : FE} {apos cpos : Pos}
theorem q_index (ho : QE X o fd) (he : QE X e fk) (hb : attributeBase o "index" X.env (eval o X.env) = eval o X.env := by rfl)
    (few : ((backTo cpos (starEach [e] X.env)).all (fun x => !x.1) && (backToKw cpos (keywordEach [] X.env)).all (fun x => x.1.isSome) && decide (([e] : List Expr).length + ([] : List Keyword).length + (if ([] : List Keyword).isEmpty then 0 else 1) < 30)) = true := by rfl)
    (line : (apos.endLine == cpos.line) = true := by rfl) (trees : backTo cpos (starEach [e] X.env) = [(false, eval e X.env)] := by rfl) : QV X (.Call (.Attribute o "index" apos) [e] [] cpos) (fIndex fd fk) := by
  refine ⟨fun pins s σ H Q I ⟨W, F, as, d, as', S, e1, k⟩ => ?_⟩
  unfold fIndex at e1
  cases q : fd as with
  | none => rw [q] at e1; cases e1
  | some p =>
    obtain ⟨r, as1⟩ := p
    rw [q] at e1
    dsimp only at e1
    cases q1 : rd as1 r with
    | none => rw [q1] at e1; cases e1
    | some x0 =>
      rw [q1] at e1
      cases x0 with
      | list ds0 =>
        dsimp only at e1
        cases q2 : fk as1 with
        | none => rw [q2] at e1; cases e1
        | some p2 =>
          obtain ⟨rk, as2⟩ := p2
          rw [q2] at e1
          dsimp only at e1
          cases q3 : rd as2 r with
          | none => rw [q3] at e1; cases e1
          | some x =>
            cases q4 : rd as2 rk with
            | none => rw [q3, q4] at e1; cases e1
            | some y =>
              rw [q3, q4] at e1
              dsimp only at e1
              cases q5 : gIndex x y with
              | none => rw [q5] at e1; cases e1
              | some d' =>
                rw [q5] at e1
                cases e1
                refine wpAny_Call_method hb few line PySem.F.plainAttrs_list PySem.F.slot_list_index PySem.F.type_list_index (thn (ho.run pins s σ H (fun v H' => ∃ F', St2 X.K W σ H' F' as1 ∧ SameH F F' ∧ RR X.K F' σ v r) I ⟨W, F, as, r, as1, S, q, fun v H' F' S' m rr => ⟨F', S', m, rr⟩⟩) fun u s1 ⟨v, H1, I1, rv, F1, S1, m1, rr⟩ => ?_)
                obtain ⟨a, vs, rfl, h1, h2, h3⟩ := S1.rd rr q1
                obtain rfl : u = Value.ref a := rv
                obtain ⟨its, rvs, pl, hz⟩ := I1.list h1
                obtain ⟨ob, n, b1, b2, b3, b4⟩ := pl
                refine ⟨⟨ob, b1, b2⟩, fun b z => ?_, ?_⟩
                · cases z
                  exact ⟨ob, b1, b3⟩
                rw [trees]
                refine Calls.callWith_builtin rfl (Calls.evalArgs_plain (Calls.spliced_cons (thn (he.run pins s1 σ H1 (fun v H' => ∃ F', St2 X.K W σ H' F' as' ∧ SameH F1 F' ∧ RR X.K F' σ v rk) I1 ⟨W, F1, as1, rk, as', S1, q2, fun v H' F' S' m rr => ⟨F', S', m, rr⟩⟩) fun iv s2 ⟨y', H2, I2, ry, F2, S2, m2, r2⟩ => Calls.spliced_nil ?_)))
                have gx := S2.rd (rr.mono m2) q3
                have gy := S2.rd r2 q4
                cases x with
                | list ds =>
                  cases y with
                  | str z =>
                    dsimp only [gIndex] at q5
                    cases q6 : strsD ds with
                    | none => rw [q6] at q5; cases q5
                    | some xs =>
                      rw [q6] at q5
                      dsimp only at q5
                      split at q5
                      · rename_i hm
                        cases q5
                        have eds := strsD_some q6
                        subst eds
                        obtain ⟨a', vs', ea, g1, g2, g3⟩ := gx
                        cases ea
                        have ev := frs_strs_inv g2
                        subst ev
                        obtain ⟨its', rvs', pl', hz'⟩ := I2.list g1
                        cases gy
                        obtain ⟨tk, rfl⟩ := ry
                        exact SeqAt.call_list_index pl'.isList (SeqAt.ItemsEq.strs (strs_are rvs')) (by simpa using hz') hm ⟨.int _, H2, I2.tok _, ⟨_, rfl⟩, k _ H2 F2 S2 (m1.trans m2) (.int _)⟩
                      · cases q5
                  | _ => cases q5
                | _ => cases q5
      | _ => cases e1
end

/-! ### min(xs), the items alike -/
def minOk (ds : List D) : Bool := PyData.plainAll ds && ds.all (fun x => ds.all fun y => PySem.W.alike x y) && decide (PyData.depthAll ds ≤ 60) && ds.all (fun x => match x with | .none => false | _ => true)
def gMin1 : D → Option D
  | .list (d :: ds) => if minOk (d :: ds) = true then some (PySem.W.minD d ds) else none
  | _ => none
theorem minOk_iff {ds : List D} (h : minOk ds = true) : PyData.plainAll ds = true ∧ PySem.W.AlikeAll ds ∧ PyData.depthAll ds ≤ 60 := by
  simp only [minOk, Bool.and_eq_true, List.all_eq_true, decide_eq_true_eq] at h
  obtain ⟨⟨⟨h1, h2⟩, h3⟩, h4⟩ := h
  exact ⟨h1, ⟨fun d hd d' hd' => h2 d hd d' hd', fun d hd e => by have z := h4 d hd; rw [e] at z; cases z⟩, h3⟩
section
variable {X : Cx} {pins : List (Addr × Obj)} {σ : Sg} {H F : Hp} {s : Shared}
theorem reads_all (I : L2.Inv X pins σ H s) (sub : SameH F H) : ∀ {vs : List V} {us : List Value} {ds : List D}, Vals vs us → FRs X.K F vs ds → PyData.plainAll ds = true → ∃ as, ReadsAll s.heap us ds as
  | _, _, _, .nil, .nil, _ => ⟨_, .nil⟩
  | _, _, _, .cons r t, .cons f g, p => by
    simp only [PyData.plainAll, Bool.and_eq_true] at p
    obtain ⟨as, h1⟩ := fr_reads I sub f p.1 r
    obtain ⟨bs, h2⟩ := reads_all I sub t g p.2
    exact ⟨_, .cons h1 h2⟩
end
theorem c_min1 {X : Cx} (hc : X.calm = true) (hu : X.A.units + 64 < cLine) : CallR X (.builtin "min") (lG X.K (g1 gMin1)) := c_one fun pins s σ H x u Q I ru ⟨F, d, d', sub, gx, e, k⟩ => by
  cases d with
  | list dd =>
    cases dd with
    | nil => cases e
    | cons d0 ds =>
      dsimp only [gMin1] at e
      split at e
      · rename_i ok
        cases e
        obtain ⟨ok1, ok2, ok3⟩ := minOk_iff ok
        obtain ⟨a, xs, rfl, h1, h2, h3⟩ := gx
        cases ru
        obtain ⟨its, r, pl, hz⟩ := I.list h1
        obtain ⟨as, hr⟩ := reads_all I sub r h2 ok1
        have hl := pl.isList
        have hr' : ReadsAll s.heap its.toArray.toList (d0 :: ds) as := by simpa using hr
        have hn : its.toArray.size = ds.length + 1 := PySem.W.readsAll_len hr'
        refine PySem.call_min_walkH (PySem.W.iter_listW (A := X.A.in1) (I.ok.hd hc) hl fun s₂ e W st hfp hw hk => ?_)
        refine ⟨_, _, _, _, _, _, _, s.heap, _, rfl, W, st, hfp, by omega, hw, hk, PySem.W.cmpIn_lt (A := X.A.in1) hr' ok2 (by show X.A.units + 1 + _ < _; omega), fun v s' hP m => ?_⟩
        obtain ⟨h', tk, rfl, hk'⟩ := PySem.W.moved_old e rfl m
        have e1 : its.toArray.size - 1 = ds.length := by omega
        have e2 := (PySem.W.argBest_fold PySem.W.dataLt PyData.none d0 ds ds.length (Nat.le_refl _)).2
        rw [List.take_length] at e2
        rw [e1] at hP
        generalize argBest (fun i j => PySem.W.dataLt ((d0 :: ds).getD i PyData.none) ((d0 :: ds).getD j PyData.none)) ds.length = i at hP e2
        have hP' : its[i]? = some v := by simpa using hP
        have hi : i < xs.length := by rw [r.length]; exact (List.getElem?_eq_some_iff.mp hP').1
        obtain ⟨v', q1, q2⟩ := r.get (List.getElem?_eq_getElem hi)
        rw [hP'] at q1
        cases q1
        obtain ⟨d1, q3, q4⟩ := h2.get (List.getElem?_eq_getElem hi)
        have e3 : PySem.W.minD d0 ds = d1 := by
          unfold PySem.W.minD
          rw [← e2, List.getD_eq_getElem?_getD, q3]
          rfl
        exact ⟨xs[i], H, I.kept hk', q2, k _ H F (Grown.refl sub) (by rw [e3]; exact q4)⟩
      · cases e
  | _ => cases e

/-! ### two names at once, one of them a cell -/
theorem s_parT {X : Cx} {pos : Pos} (i j : Nat) (o1 o2 : Bool) {f g : FV} {x y : Str} {a b : Expr} {px py pt : Pos} {kt k2 pt2} (hc : X.calm = true) (hN : X.N.Nodup) (hi : X.N[i]? = some x) (hj : X.N[j]? = some y)
    (hx : Loc X.env.scope x) (hy : Loc X.env.scope y) (ha : QX X o1 a f) (hb : QX X o2 b g)
    (fx : X.fn x = true ∨ X.env.scope.names.lookup x = some .local := by first | exact .inl rfl | exact .inr rfl) (fy : X.fn y = true ∨ X.env.scope.names.lookup y = some .local := by first | exact .inl rfl | exact .inr rfl)
    (hs : swapsWithSole [.Tuple [.Name x px, .Name y py] kt pt] (.Tuple [a, b] k2 pt2) pos.line X.env = pure false := by rfl) (hw : swappedStores [.Tuple [.Name x px, .Name y py] kt pt] (.Tuple [a, b] k2 pt2) X.env = pure none := by rfl)
    (h0 : (assignEach [.Tuple [.Name x px, .Name y py] kt pt] X.env).map (·.2) = [assign (.Tuple [.Name x px, .Name y py] kt pt) X.env] := by rfl)
    (h1 : starEach [a, b] X.env = (false, eval a X.env) :: starEach [b] X.env := by rfl) (h2 : starEach [b] X.env = (false, eval b X.env) :: starEach [] X.env := by rfl) :
    QS X (.Assign [.Tuple [.Name x px, .Name y py] kt pt] (.Tuple [a, b] k2 pt2) pos) (fPar i j o1 o2 f g) := PS.weak (ps_asg (pe_tup (pa_cons ha (pa_cons hb pa_nil h2) h1)) (pg_tup hc (pgs_cons (pg_name hN hi hx fx) (pgs_cons (pg_name hN hj hy fy) pgs_nil rfl) rfl)) hs hw h0) fun N σ H ⟨W, F, as, fl, S, e, k⟩ => by
  unfold fPar at e
  cases q : f as with
  | none => rw [q] at e; cases e
  | some p =>
    obtain ⟨d1, as1⟩ := p
    rw [q] at e
    dsimp only at e
    cases q2 : g as1 with
    | none => rw [q2] at e; cases e
    | some p2 =>
      obtain ⟨d2, as2⟩ := p2
      rw [q2] at e
      cases e
      refine x_use S q fun v H1 F1 S1 m1 h1 => x_use (St2.here S1) q2 fun w H2 F2 S2 m2 h2 => ?_
      have S3 := St2.back S1 S2
      have v3 := h1.stays S1 S2 m2
      refine ⟨by show 2 ≤ sizeLine; decide, fun p hp => ⟨p, _, rfl, .inl (.inl upd_same), rfl, v, [w], rfl, w, [], rfl, rfl, ?_⟩⟩
      exact k _ _ F2 (St2.laid ((S3.putX v3).putX (InH.beside S1 h1 S2 m2 h2)) hp) (m1.trans m2)
end PL
namespace K11
open PySem PySem.Spec PyProof.Rows L2 PL
def top (i : Nat) : Stmt := PySem.Challenge.pw_turnwise_k11_whole_five_letters_in_all_o.main.body.getD i (.Pass ⟨0, 0, 0, 0⟩)
abbrev s_lot : Stmt := top 2
abbrev n_lot : List Str := ["letters", "letter"]
abbrev s_worth : Stmt := top 3
abbrev n_worth : List Str := ["formula", "signs", "kind", "both", "one", "other", "sign"]
abbrev s_with_sign : Stmt := top 4
abbrev n_with_sign : List Str := ["signs", "letter", "sign", "found"]
abbrev s_ahead_of : Stmt := top 6
abbrev n_ahead_of : List Str := ["turns", "letter", "found", "side", "far"]
abbrev s_plain_game : Stmt := top 7
abbrev n_plain_game : List Str := ["turns", "need", "side", "letter"]
abbrev s_blocks : Stmt := top 8
abbrev n_blocks : List Str := ["turns", "found", "side", "letter"]
abbrev s_closed : Stmt := top 9
abbrev n_closed : List Str := ["game", "found", "side", "letter"]
abbrev s_winner : Stmt := top 11
abbrev n_winner : List Str := ["game"]
abbrev s_swapped : Stmt := top 13
abbrev n_swapped : List Str := ["game", "place", "turns"]
abbrev s_in_letter_order : Stmt := top 14
abbrev n_in_letter_order : List Str := ["game", "found", "side", "letters", "letter"]
abbrev s_all_orders : Stmt := top 15
abbrev n_all_orders : List Str := ["game", "sides", "found", "letter", "side", "row", "far"]
abbrev s_best_for : Stmt := top 16
abbrev n_best_for : List Str := ["game", "side", "order", "far"]
abbrev s_fewest_changes : Stmt := top 17
abbrev n_fewest_changes : List Str := ["game", "sides", "best", "order", "side", "many", "letter", "far"]
abbrev s__law_cell : Stmt := top 19
abbrev n__law_cell : List Str := ["script", "k"]
abbrev s__law_digits : Stmt := top 20
abbrev n__law_digits : List Str := ["script", "first", "last", "digits", "k", "cell", "turn", "seed"]
abbrev s__law_draw : Stmt := top 21
abbrev n__law_draw : List Str := ["box", "many"]
abbrev s__law_pick : Stmt := top 22
abbrev n__law_pick : List Str := ["box", "row"]
abbrev s__law_mixed : Stmt := top 23
abbrev n__law_mixed : List Str := ["box", "row", "left", "found", "k"]
abbrev s__law_same : Stmt := top 24
abbrev n__law_same : List Str := ["told", "due", "k"]
abbrev s__law_turns : Stmt := top 25
abbrev n__law_turns : List Str := ["box", "letters", "letter"]
abbrev s__law_plain : Stmt := top 26
abbrev n__law_plain : List Str := ["turns", "need", "sights", "ahead", "side", "letter"]
abbrev s__law_formula : Stmt := top 27
abbrev n__law_formula : List Str := ["box", "letters", "deep", "kind", "one"]
abbrev s__law_worth : Stmt := top 28
abbrev n__law_worth : List Str := ["formula", "signs", "kind", "both", "sign", "fresh", "first", "second"]
abbrev s__law_all_signs : Stmt := top 29
abbrev n__law_all_signs : List Str := ["letters", "found", "letter", "later", "signs", "sign", "fresh"]
abbrev s__law_orders : Stmt := top 30
abbrev n__law_orders : List Str := ["letters", "found", "letter", "row", "far"]
abbrev s__law_sides : Stmt := top 31
abbrev n__law_sides : List Str := ["letters", "sides", "need", "tables", "signs", "letter", "order"]
abbrev s__law_chosen : Stmt := top 32
abbrev n__law_chosen : List Str := ["letters", "sides", "order", "tables", "rows", "left", "letter", "place", "fresh", "key", "low", "high"]
abbrev s__law_blocks : Stmt := top 33
abbrev n__law_blocks : List Str := ["turns", "found", "block", "side", "letter"]
abbrev s_law : Stmt := top 34
abbrev n_law : List Str := ["script", "box", "letters", "turns", "need", "game", "sides", "side", "letter", "due", "rows", "best", "order", "far", "place", "fresh", "k"]
def c_SIDES : D := (.tuple [(.str "all"), (.str "some")])
structure Mir where
  f_lot : List D → Option D
  f_worth : List D → Option D
  f_with_sign : List D → Option D
  f_ahead_of : List D → Option D
  f_plain_game : List D → Option D
  f_blocks : List D → Option D
  f_closed : List D → Option D
  f_winner : List D → Option D
  f_swapped : List D → Option D
  f_in_letter_order : List D → Option D
  f_all_orders : List D → Option D
  f_best_for : List D → Option D
  f_fewest_changes : List D → Option D
  f__law_cell : List D → Option D
  f__law_digits : List D → Option D
  f__law_draw : D → List D → Option (D × D)
  f__law_pick : D → List D → Option (D × D)
  f__law_mixed : D → List D → Option (D × D)
  f__law_same : List D → Option D
  f__law_turns : D → List D → Option (D × D)
  f__law_plain : List D → Option D
  f__law_formula : D → List D → Option (D × D)
  f__law_worth : List D → Option D
  f__law_all_signs : List D → Option D
  f__law_orders : List D → Option D
  f__law_sides : List D → Option D
  f__law_chosen : List D → Option D
  f__law_blocks : List D → Option D
  f_law : List D → Option D
def b_lot (M : Mir) : FS := (fRet (fCall (g1 gTuple) (rCons (vE (fSc (aSeq (eV (fVar 0))) (gN 1) fYes (eV (fVar 1)) [1])) rNil)))
def b_worth (M : Mir) : FS := (fSeq (fSet 2 (fBin gIx (fVar 0) (vE (fC (.int 0))))) (fSeq (fIf (fBool (fBin gEq (fVar 2) (vE (fC (.str "letter"))))) (fRet (fBin gIx (fVar 1) (vE (fBin gIx (fVar 0) (vE (fC (.int 1))))))) fSkip) (fSeq (fIf (fBool (fBin gIn (fVar 2) (vE (fTup (fCons (fC (.str "true")) (fCons (fC (.str "false")) fNil)))))) (fRet (fBin gEq (fVar 2) (vE (fC (.str "true"))))) fSkip) (fSeq (fIf (fBool (fBin gEq (fVar 2) (vE (fC (.str "not"))))) (fRet (vNot (fCallP M.f_worth (fCons (fBin gIx (fVar 0) (vE (fC (.int 1)))) (fCons (eV (fVar 1)) fNil))))) fSkip) (fSeq (fIf (fBool (fBin gIn (fVar 2) (vE (fC c_SIDES)))) (fSeq (fSetN 3 (fLc (aSeq (fTup (fCons (fC (.bool false)) (fCons (fC (.bool true)) fNil)))) (gN 6) fYes (fCallP M.f_worth (fCons (fBin gIx (fVar 0) (vE (fC (.int 2)))) (fCons (fCallP M.f_with_sign (fCons (eV (fVar 1)) (fCons (fBin gIx (fVar 0) (vE (fC (.int 1)))) (fCons (eV (fVar 6)) fNil)))) fNil))) [6])) (fRet (vIf (fBool (fBin gEq (fVar 2) (vE (fC (.str "all"))))) (fCall (g1 gAll) (rCons (fVar 3) rNil)) (fCall (g1 gAny) (rCons (fVar 3) rNil))))) fSkip) (fSeq (fPar 4 5 false false (fCallP M.f_worth (fCons (fBin gIx (fVar 0) (vE (fC (.int 1)))) (fCons (eV (fVar 1)) fNil))) (fCallP M.f_worth (fCons (fBin gIx (fVar 0) (vE (fC (.int 2)))) (fCons (eV (fVar 1)) fNil)))) (fSeq (fIf (fBool (fBin gEq (fVar 2) (vE (fC (.str "and"))))) (fRet (vAnd (eV (fVar 4)) (eV (fVar 5)))) fSkip) (fSeq (fIf (fBool (fBin gEq (fVar 2) (vE (fC (.str "or"))))) (fRet (vOr (eV (fVar 4)) (eV (fVar 5)))) fSkip) (fRet (vIf (fBool (fBin gEq (fVar 2) (vE (fC (.str "then"))))) (vOr (vNot (eV (fVar 4))) (eV (fVar 5))) (fBin gEq (fVar 4) (fVar 5))))))))))))
def b_with_sign (M : Mir) : FS := (fSeq (fSetN 3 (fCall (g1 gDict) (rCons (fVar 0) rNil))) (fSeq (fAsg (eV (fVar 2)) (gPut 3 (eV (fVar 1)))) (fRet (eV (fVar 3)))))
def b_ahead_of (M : Mir) : FS := (fSeq (fSetN 2 (fLst fNil)) (fSeq (fFor (aSeq (eV (fVar 0))) (gTn 2 (gsCons (gN 3) (gsCons (gN 4) gsNil))) (fSeq (fIf (fBool (fBin gEq (fVar 4) (fVar 1))) (fRet (fCallP M.f_lot (fCons (eV (fVar 2)) fNil))) fSkip) (fIf (fBool (fBin gEq (fVar 3) (vE (fC (.str "all"))))) (fDrop (fApp 2 (eV (fVar 4)))) fSkip))) (fRet (fCallP M.f_lot (fCons (eV (fVar 2)) fNil)))))
def b_plain_game (M : Mir) : FS := (fRet (fTup (fCons (fCall (g1 gTuple) (rCons (fVar 0) rNil)) (fCons (fDc (aSeq (eV (fVar 0))) (gTn 2 (gsCons (gN 2) (gsCons (gN 3) gsNil))) (fBool (fBin gEq (fVar 2) (vE (fC (.str "some"))))) (eV (fVar 3)) (fCallP M.f_ahead_of (fCons (eV (fVar 0)) (fCons (eV (fVar 3)) fNil))) [2, 3]) (fCons (eV (fVar 1)) fNil)))))
def b_blocks (M : Mir) : FS := (fSeq (fSetN 1 (fLst fNil)) (fSeq (fFor (aSeq (eV (fVar 0))) (gTn 2 (gsCons (gN 2) (gsCons (gN 3) gsNil))) (fIf (fAnd (fBool (fBin gGt (vE (fCall (g1 gLen) (rCons (fVar 1) rNil))) (vE (fC (.int 0))))) (fBool (fBin gEq (vE (fBin gIx (vE (fBin gIx (fVar 1) (vE (fUn gNeg (vE (fC (.int 1))))))) (vE (fC (.int 0))))) (fVar 2)))) (fAsg (fTup (fCons (eV (fVar 2)) (fCons (fBin gAdd (vE (fBin gIx (vE (fBin gIx (fVar 1) (vE (fUn gNeg (vE (fC (.int 1))))))) (vE (fC (.int 1))))) (vE (fTup (fCons (eV (fVar 3)) fNil)))) fNil))) (gPut 1 (fUn gNeg (vE (fC (.int 1)))))) (fDrop (fApp 1 (fTup (fCons (eV (fVar 2)) (fCons (fTup (fCons (eV (fVar 3)) fNil)) fNil))))))) (fRet (eV (fVar 1)))))
def b_closed (M : Mir) : FS := (fSeq (fSet 1 (fBin gIx (fVar 0) (vE (fC (.int 2))))) (fSeq (fFor (aSeq (fUn gRev (vE (fBin gIx (fVar 0) (vE (fC (.int 0))))))) (gTn 2 (gsCons (gN 2) (gsCons (gN 3) gsNil))) (fSet 1 (fTup (fCons (eV (fVar 2)) (fCons (eV (fVar 3)) (fCons (eV (fVar 1)) fNil)))))) (fRet (eV (fVar 1)))))
def b_winner (M : Mir) : FS := (fRet (vIf (fTruth (vE (fCallP M.f_worth (fCons (fCallP M.f_closed (fCons (eV (fVar 0)) fNil)) (fCons (fC (.dict [])) fNil))))) (fC (.str "some")) (fC (.str "all"))))
def b_swapped (M : Mir) : FS := (fSeq (fSetN 2 (fCall (g1 gList) (rCons (vE (fBin gIx (fVar 0) (vE (fC (.int 0))))) rNil))) (fSeq (fAsg (fTup (fCons (fBin gIx (fVar 2) (vE (fBin gAdd (fVar 1) (vE (fC (.int 1)))))) (fCons (fBin gIx (fVar 2) (fVar 1)) fNil))) (gTn 2 (gsCons (gPut 2 (eV (fVar 1))) (gsCons (gPut 2 (fBin gAdd (fVar 1) (vE (fC (.int 1))))) gsNil)))) (fRet (fCallP M.f_plain_game (fCons (eV (fVar 2)) (fCons (fBin gIx (fVar 0) (vE (fC (.int 2)))) fNil))))))
def b_in_letter_order (M : Mir) : FS := (fSeq (fSetN 1 (fLst fNil)) (fSeq (fFor (aSeq (fCallP M.f_blocks (fCons (fBin gIx (fVar 0) (vE (fC (.int 0)))) fNil))) (gTn 2 (gsCons (gN 2) (gsCons (gN 3) gsNil))) (fDrop (fExt 1 (fLc (aSeq (fCall (g1 gSort) (rCons (fVar 3) rNil))) (gN 4) fYes (fTup (fCons (eV (fVar 2)) (fCons (eV (fVar 4)) fNil))) [4])))) (fRet (fCallP M.f_plain_game (fCons (eV (fVar 1)) (fCons (fBin gIx (fVar 0) (vE (fC (.int 2)))) fNil))))))
def b_all_orders (M : Mir) : FS := (fSeq (fSet 1 (fDc (aSeq (fBin gIx (fVar 0) (vE (fC (.int 0))))) (gTn 2 (gsCons (gN 4) (gsCons (gN 3) gsNil))) fYes (eV (fVar 3)) (eV (fVar 4)) [4, 3])) (fSeq (fSet 2 (fLst (fCons (fTup fNil) fNil))) (fSeq (fFor (aSeq (eV (fVar 1))) (gN 3) (fSetN 2 (fLc2 (aSeq (eV (fVar 2))) (gN 5) fYes (aSeq (fCall (g1 gSort) (rCons (fVar 1) rNil))) (gN 6) (fBool (fBin gNotIn (fVar 6) (fVar 5))) (fBin gAdd (fVar 5) (vE (fTup (fCons (eV (fVar 6)) fNil)))) [5, 6] [6]))) (fRet (fLc (aSeq (fCall (g1 gSort) (rCons (fVar 2) rNil))) (gN 5) fYes (fTup (fCons (eV (fVar 5)) (fCons (fCallP M.f_winner (fCons (fCallP M.f_plain_game (fCons (fLc (aSeq (eV (fVar 5))) (gN 6) fYes (fTup (fCons (fBin gIx (fVar 1) (fVar 6)) (fCons (eV (fVar 6)) fNil))) [6]) (fCons (fBin gIx (fVar 0) (vE (fC (.int 2)))) fNil))) fNil)) fNil))) [5])))))
def b_best_for (M : Mir) : FS := (fSeq (fFor (aSeq (fCallP M.f_all_orders (fCons (eV (fVar 0)) fNil))) (gTn 2 (gsCons (gN 2) (gsCons (gN 3) gsNil))) (fIf (fBool (fBin gEq (fVar 3) (fVar 1))) (fRet (eV (fVar 2))) fSkip)) (fRet (fC .none)))
def b_fewest_changes (M : Mir) : FS := (fSeq (fSet 1 (fDc (aSeq (fBin gIx (fVar 0) (vE (fC (.int 0))))) (gTn 2 (gsCons (gN 4) (gsCons (gN 6) gsNil))) fYes (eV (fVar 6)) (eV (fVar 4)) [4, 6])) (fSeq (fSet 2 (fC .none)) (fSeq (fFor (aSeq (fCallP M.f_all_orders (fCons (eV (fVar 0)) fNil))) (gTn 2 (gsCons (gN 3) (gsCons (gN 4) gsNil))) (fIf (fBool (fBin gEq (fVar 4) (vE (fC (.str "some"))))) (fSeq (fSet 5 (fCall (g2 gMax2) (rCons (vE (fC (.int 0))) (rCons (vE (fBin gSub (vE (fCall (g1 gLen) (rCons (vE (fCallP M.f_blocks (fCons (fLc (aSeq (eV (fVar 3))) (gN 7) fYes (fTup (fCons (fBin gIx (fVar 1) (fVar 7)) (fCons (eV (fVar 7)) fNil))) [7]) fNil))) rNil))) (vE (fC (.int 1))))) rNil)))) (fIf (fOr (fBool (fBin gIs (fVar 2) (vE (fC .none)))) (fBool (fBin gLt (vE (fTup (fCons (eV (fVar 5)) (fCons (eV (fVar 3)) fNil)))) (fVar 2)))) (fSet 2 (fTup (fCons (eV (fVar 5)) (fCons (eV (fVar 3)) fNil)))) fSkip)) fSkip)) (fRet (eV (fVar 2))))))
def b__law_cell (M : Mir) : FS := (fSeq (fIf (fBool (fBin gLt (fVar 1) (vE (fCall (g1 gLen) (rCons (fVar 0) rNil))))) (fRet (fBin gIx (fVar 0) (fVar 1))) fSkip) (fRet (fC (.int 0))))
def b__law_digits (M : Mir) : FS := (fSeq (fSetN 3 (fLst fNil)) (fSeq (fFor (aRng2 (eV (fVar 1)) (eV (fVar 2))) (gN 4) (fSeq (fSet 5 (fCallP M.f__law_cell (fCons (eV (fVar 0)) (fCons (eV (fVar 4)) fNil)))) (fSeq (fIf (fBool (fBin gLt (fVar 5) (vE (fC (.int 0))))) (fSet 5 (fBin gSub (vE (fC (.int 1))) (vE (fBin gMul (vE (fC (.int 2))) (fVar 5))))) fSkip) (fIf (fBool (fBin gGe (fVar 5) (vE (fBin gPow (vE (fC (.int 10))) (vE (fC (.int 18))))))) (fFor (aRng1 (fC (.int 60))) (gN 6) (fIf (fBool (fBin gGt (fVar 5) (vE (fC (.int 0))))) (fSeq (fDrop (fApp 3 (fBin gMod (vE (fCall (g1 gIntT) (rCons (fVar 5) rNil))) (vE (fC (.int 1000)))))) (fSet 5 (fBin gFDiv (fVar 5) (vE (fC (.int 1000)))))) fSkip)) (fSeq (fSet 7 (fBin gMod (vE (fCall (g1 gIntT) (rCons (vE (fBin gAdd (vE (fBin gAdd (vE (fBin gMul (fVar 5) (vE (fC (.int 48271))))) (vE (fBin gMul (fVar 4) (vE (fC (.int 69621))))))) (vE (fC (.int 11))))) rNil))) (vE (fC (.int 2147483647))))) (fFor (aRng1 (fC (.int 12))) (gN 6) (fSeq (fSet 7 (fBin gMod (vE (fCall (g1 gIntT) (rCons (vE (fBin gAdd (vE (fBin gAdd (vE (fBin gMul (fVar 7) (vE (fC (.int 16807))))) (vE (fBin gMul (vE (fC (.int 7))) (fVar 6))))) (vE (fC (.int 1))))) rNil))) (vE (fC (.int 2147483647))))) (fDrop (fApp 3 (fBin gMod (vE (fCall (g1 gIntT) (rCons (vE (fBin gFDiv (fVar 7) (vE (fC (.int 997))))) rNil))) (vE (fC (.int 1000))))))))))))) (fRet (eV (fVar 3)))))
def b__law_draw (M : Mir) : FS := (fSeq (fAsg (fBin gAdd (vE (fBin gIx (fVar 0) (vE (fC (.int 1))))) (vE (fC (.int 1)))) (gPut 0 (fC (.int 1)))) (fSeq (fIf (fBool (fBin gGt (vE (fBin gIx (fVar 0) (vE (fC (.int 1))))) (vE (fCall (g1 gLen) (rCons (vE (fBin gIx (fVar 0) (vE (fC (.int 0))))) rNil))))) (fRet (fBin gMod (vE (fCall (g1 gIntT) (rCons (vE (fBin gAdd (vE (fBin gMul (vE (fBin gIx (fVar 0) (vE (fC (.int 1))))) (vE (fC (.int 7))))) (vE (fC (.int 3))))) rNil))) (fVar 1))) fSkip) (fRet (fBin gMod (vE (fCall (g1 gIntT) (rCons (vE (fBin gIx (vE (fBin gIx (fVar 0) (vE (fC (.int 0))))) (vE (fBin gSub (vE (fBin gIx (fVar 0) (vE (fC (.int 1))))) (vE (fC (.int 1))))))) rNil))) (fVar 1)))))
def b__law_pick (M : Mir) : FS := (fRet (fBin gIx (fVar 1) (vE (fBin gMod (vE (fCall (g1 gIntT) (rCons (vE (fCallI M.f__law_draw 0 (fCons (fC (.int 1000)) fNil))) rNil))) (vE (fCall (g1 gLen) (rCons (fVar 1) rNil)))))))
def b__law_mixed (M : Mir) : FS := (fSeq (fSetN 2 (fCall (g1 gList) (rCons (fVar 1) rNil))) (fSeq (fSetN 3 (fLst fNil)) (fSeq (fFor (aRng1 (fCall (g1 gLen) (rCons (fVar 1) rNil))) (gN 4) (fDrop (fApp 3 (fPopAt 2 (fBin gMod (vE (fCall (g1 gIntT) (rCons (vE (fCallI M.f__law_draw 0 (fCons (fC (.int 1000)) fNil))) rNil))) (vE (fCall (g1 gLen) (rCons (fVar 2) rNil)))))))) (fRet (eV (fVar 3))))))
def b__law_same (M : Mir) : FS := (fSeq (fIf (fBool (fBin gIs (fVar 1) (vE (fC .none)))) (fRet (fBin gIs (fVar 0) (vE (fC .none)))) fSkip) (fSeq (fIf (fBool (fBin gIs (fVar 1) (vE (fC (.bool true))))) (fRet (fBin gIs (fVar 0) (vE (fC (.bool true))))) fSkip) (fSeq (fIf (fBool (fBin gIs (fVar 1) (vE (fC (.bool false))))) (fRet (fBin gIs (fVar 0) (vE (fC (.bool false))))) fSkip) (fSeq (fIf (fTruth (vE (fUn (gIsi .str) (fVar 1)))) (fRet (vAnd (fUn (gIsi .str) (fVar 0)) (fBin gEq (vE (fCall (g1 gRepr) (rCons (fVar 0) rNil))) (vE (fCall (g1 gRepr) (rCons (fVar 1) rNil)))))) fSkip) (fSeq (fIf (fTruth (vE (fUn (gIsi .int) (fVar 1)))) (fRet (vAnd (fUn (gIsi .int) (fVar 0)) (vAnd (vNot (fUn (gIsi .bool) (fVar 0))) (fBin gEq (vE (fCall (g1 gRepr) (rCons (fVar 0) rNil))) (vE (fCall (g1 gRepr) (rCons (fVar 1) rNil))))))) fSkip) (fSeq (fIf (fTruth (vE (fUn (gIsi .dict) (fVar 1)))) (fRet (vAnd (fUn (gIsi .dict) (fVar 0)) (fCallP M.f__law_same (fCons (fItems2 (fVar 0)) (fCons (fItems2 (fVar 1)) fNil))))) fSkip) (fSeq (fIf (fOr (fAnd (fTruth (vE (fUn (gIsi .tuple) (fVar 1)))) (fNot (fTruth (vE (fUn (gIsi .tuple) (fVar 0)))))) (fAnd (fTruth (vE (fUn (gIsi .list) (fVar 1)))) (fNot (fTruth (vE (fUn (gIsi .list) (fVar 0))))))) (fRet (fC (.bool false))) fSkip) (fSeq (fIf (fBool (fBin gNe (vE (fCall (g1 gLen) (rCons (fVar 0) rNil))) (vE (fCall (g1 gLen) (rCons (fVar 1) rNil))))) (fRet (fC (.bool false))) fSkip) (fSeq (fFor (aRng1 (fCall (g1 gLen) (rCons (fVar 1) rNil))) (gN 2) (fIf (fNot (fTruth (vE (fCallP M.f__law_same (fCons (fBin gIx (fVar 0) (fVar 2)) (fCons (fBin gIx (fVar 1) (fVar 2)) fNil)))))) (fRet (fC (.bool false))) fSkip)) (fRet (fC (.bool true))))))))))))
def b__law_turns (M : Mir) : FS := (fRet (fLc (aSeq (fCallI M.f__law_mixed 0 (fCons (eV (fVar 1)) fNil))) (gN 2) fYes (fTup (fCons (fCallI M.f__law_pick 0 (fCons (fLst (fCons (fC (.str "all")) (fCons (fC (.str "some")) fNil))) fNil)) (fCons (eV (fVar 2)) fNil))) [2]))
def b__law_plain (M : Mir) : FS := (fSeq (fPar 2 3 true true (fC (.dict [])) (fLst fNil)) (fSeq (fFor (aSeq (eV (fVar 0))) (gTn 2 (gsCons (gN 4) (gsCons (gN 5) gsNil))) (fIf (fBool (fBin gEq (fVar 4) (vE (fC (.str "some"))))) (fAsg (fCall (g1 gTuple) (rCons (vE (fCall (g1 gSort) (rCons (fVar 3) rNil))) rNil)) (gPut 2 (eV (fVar 5)))) (fDrop (fApp 3 (eV (fVar 5)))))) (fRet (fTup (fCons (fCall (g1 gTuple) (rCons (fVar 0) rNil)) (fCons (eV (fVar 2)) (fCons (eV (fVar 1)) fNil)))))))
def b__law_formula (M : Mir) : FS := (fSeq (fSet 3 (fCallI M.f__law_draw 0 (fCons (fC (.int 9)) fNil))) (fSeq (fIf (fOr (fBool (fBin gEq (fVar 2) (vE (fC (.int 0))))) (fOr (fBool (fBin gEq (fVar 3) (vE (fC (.int 0))))) (fBool (fBin gEq (fVar 1) (vE (fLst fNil)))))) (fSeq (fIf (fOr (fBool (fBin gEq (fVar 1) (vE (fLst fNil)))) (fBool (fBin gEq (vE (fCallI M.f__law_draw 0 (fCons (fC (.int 12)) fNil))) (vE (fC (.int 0)))))) (fRet (fTup (fCons (fCallI M.f__law_pick 0 (fCons (fLst (fCons (fC (.str "true")) (fCons (fC (.str "false")) fNil))) fNil)) fNil))) fSkip) (fRet (fTup (fCons (fC (.str "letter")) (fCons (fCallI M.f__law_pick 0 (fCons (eV (fVar 1)) fNil)) fNil))))) fSkip) (fSeq (fIf (fBool (fBin gLt (fVar 3) (vE (fC (.int 3))))) (fRet (fTup (fCons (fC (.str "not")) (fCons (fCallI M.f__law_formula 0 (fCons (eV (fVar 1)) (fCons (fBin gSub (fVar 2) (vE (fC (.int 1)))) fNil))) fNil)))) fSkip) (fSeq (fSet 4 (fCallI M.f__law_formula 0 (fCons (eV (fVar 1)) (fCons (fBin gSub (fVar 2) (vE (fC (.int 1)))) fNil)))) (fRet (fTup (fCons (fCallI M.f__law_pick 0 (fCons (fLst (fCons (fC (.str "and")) (fCons (fC (.str "or")) (fCons (fC (.str "then")) (fCons (fC (.str "same")) (fCons (fC (.str "or")) (fCons (fC (.str "and")) fNil))))))) fNil)) (fCons (eV (fVar 4)) (fCons (fCallI M.f__law_formula 0 (fCons (eV (fVar 1)) (fCons (fBin gSub (fVar 2) (vE (fC (.int 1)))) fNil))) fNil)))))))))
def b__law_worth (M : Mir) : FS := (fSeq (fSet 2 (fBin gIx (fVar 0) (vE (fC (.int 0))))) (fSeq (fIf (fBool (fBin gEq (fVar 2) (vE (fC (.str "letter"))))) (fRet (fBin gIx (fVar 1) (vE (fBin gIx (fVar 0) (vE (fC (.int 1))))))) fSkip) (fSeq (fIf (fBool (fBin gIn (fVar 2) (vE (fLst (fCons (fC (.str "true")) (fCons (fC (.str "false")) fNil)))))) (fRet (fBin gEq (fVar 2) (vE (fC (.str "true"))))) fSkip) (fSeq (fIf (fBool (fBin gIn (fVar 2) (vE (fLst (fCons (fC (.str "all")) (fCons (fC (.str "some")) fNil)))))) (fSeq (fSetN 3 (fLst fNil)) (fSeq (fFor (aSeq (fLst (fCons (fC (.bool false)) (fCons (fC (.bool true)) fNil)))) (gN 4) (fSeq (fSetN 5 (fCall (g1 gDict) (rCons (fVar 1) rNil))) (fSeq (fAsg (eV (fVar 4)) (gPut 5 (fBin gIx (fVar 0) (vE (fC (.int 1)))))) (fDrop (fApp 3 (fCallP M.f__law_worth (fCons (fBin gIx (fVar 0) (vE (fC (.int 2)))) (fCons (eV (fVar 5)) fNil)))))))) (fRet (vIf (fBool (fBin gEq (fVar 2) (vE (fC (.str "all"))))) (vAnd (fBin gIx (fVar 3) (vE (fC (.int 0)))) (fBin gIx (fVar 3) (vE (fC (.int 1))))) (vOr (fBin gIx (fVar 3) (vE (fC (.int 0)))) (fBin gIx (fVar 3) (vE (fC (.int 1))))))))) fSkip) (fSeq (fSet 6 (fCallP M.f__law_worth (fCons (fBin gIx (fVar 0) (vE (fC (.int 1)))) (fCons (eV (fVar 1)) fNil)))) (fSeq (fIf (fBool (fBin gEq (fVar 2) (vE (fC (.str "not"))))) (fRet (vNot (eV (fVar 6)))) fSkip) (fSeq (fSet 7 (fCallP M.f__law_worth (fCons (fBin gIx (fVar 0) (vE (fC (.int 2)))) (fCons (eV (fVar 1)) fNil)))) (fSeq (fIf (fBool (fBin gEq (fVar 2) (vE (fC (.str "and"))))) (fRet (vAnd (eV (fVar 6)) (eV (fVar 7)))) fSkip) (fSeq (fIf (fBool (fBin gEq (fVar 2) (vE (fC (.str "or"))))) (fRet (vOr (eV (fVar 6)) (eV (fVar 7)))) fSkip) (fRet (vIf (fBool (fBin gEq (fVar 2) (vE (fC (.str "then"))))) (vOr (eV (fVar 7)) (vNot (eV (fVar 6)))) (fBin gEq (fVar 6) (fVar 7)))))))))))))
def b__law_all_signs (M : Mir) : FS := (fSeq (fSet 1 (fLst (fCons (fC (.dict [])) fNil))) (fSeq (fFor (aSeq (eV (fVar 0))) (gN 2) (fSeq (fSetN 3 (fLst fNil)) (fSeq (fFor (aSeq (eV (fVar 1))) (gN 4) (fFor (aSeq (fLst (fCons (fC (.bool false)) (fCons (fC (.bool true)) fNil)))) (gN 5) (fSeq (fSetN 6 (fCall (g1 gDict) (rCons (fVar 4) rNil))) (fSeq (fAsg (eV (fVar 5)) (gPut 6 (eV (fVar 2)))) (fDrop (fApp 3 (eV (fVar 6)))))))) (fSet 1 (eV (fVar 3)))))) (fRet (eV (fVar 1)))))
def b__law_orders (M : Mir) : FS := (fSeq (fIf (fBool (fBin gEq (fVar 0) (vE (fLst fNil)))) (fRet (fLst (fCons (fTup fNil) fNil))) fSkip) (fSeq (fSet 1 (fLst fNil)) (fSeq (fFor (aSeq (fCall (g1 gSort) (rCons (fVar 0) rNil))) (gN 2) (fSet 1 (fBin gAdd (fVar 1) (vE (fLc (aSeq (fCallP M.f__law_orders (fCons (fLc (aSeq (eV (fVar 0))) (gN 4) (fBool (fBin gNe (fVar 4) (fVar 2))) (eV (fVar 4)) [4]) fNil))) (gN 3) fYes (fBin gAdd (vE (fTup (fCons (eV (fVar 2)) fNil))) (fVar 3)) [3]))))) (fRet (eV (fVar 1))))))
def b__law_sides (M : Mir) : FS := (fSeq (fSetN 3 (fC (.dict []))) (fSeq (fFor (aSeq (fCallP M.f__law_all_signs (fCons (eV (fVar 0)) fNil))) (gN 4) (fAsg (fCallP M.f__law_worth (fCons (eV (fVar 2)) (fCons (eV (fVar 4)) fNil))) (gPut 3 (fCall (g1 gTuple) (rCons (vE (fLc (aSeq (eV (fVar 0))) (gN 5) fYes (fBin gIx (fVar 4) (fVar 5)) [5])) rNil))))) (fRet (fLc (aSeq (fCallP M.f__law_orders (fCons (eV (fVar 0)) fNil))) (gN 6) fYes (fTup (fCons (eV (fVar 6)) (fCons (vIf (fTruth (vE (fCallP M.f__law_chosen (fCons (eV (fVar 0)) (fCons (eV (fVar 1)) (fCons (eV (fVar 6)) (fCons (eV (fVar 3)) fNil))))))) (fC (.str "some")) (fC (.str "all"))) fNil))) [6]))))
def b__law_chosen (M : Mir) : FS := (fSeq (fPar 4 5 false true (fCall (g1 gDict) (rCons (fVar 3) rNil)) (fCall (g1 gList) (rCons (fVar 0) rNil))) (fSeq (fFor (aSeq (fUn gRev (vE (fCall (g1 gList) (rCons (fVar 2) rNil))))) (gN 6) (fSeq (fPar 7 8 false true (fIndex (fVar 5) (fVar 6)) (fC (.dict []))) (fSeq (fFor (aSeq (fCall (g1 gList) (rCons (fVar 4) rNil))) (gN 9) (fIf (fNot (fTruth (vE (fBin gIx (fVar 9) (fVar 7))))) (fSeq (fPar 10 11 false false (fBin gIx (fVar 4) (fVar 9)) (fBin gIx (fVar 4) (vE (fBin gAdd (vE (fBin gAdd (vE (fSl (fVar 9) pNo (pYes (eV (fVar 7))))) (vE (fTup (fCons (fC (.bool true)) fNil))))) (vE (fSl (fVar 9) (pYes (fBin gAdd (fVar 7) (vE (fC (.int 1))))) pNo)))))) (fAsg (vIf (fBool (fBin gEq (vE (fBin gIx (fVar 1) (fVar 6))) (vE (fC (.str "all"))))) (vAnd (eV (fVar 10)) (eV (fVar 11))) (vOr (eV (fVar 10)) (eV (fVar 11)))) (gPut 8 (fBin gAdd (vE (fSl (fVar 9) pNo (pYes (eV (fVar 7))))) (vE (fSl (fVar 9) (pYes (fBin gAdd (fVar 7) (vE (fC (.int 1))))) pNo)))))) fSkip)) (fSeq (fSet 4 (eV (fVar 8))) (fDrop (fPopAt 5 (eV (fVar 7)))))))) (fRet (fBin gIx (fVar 4) (vE (fTup fNil))))))
def b__law_blocks (M : Mir) : FS := (fSeq (fPar 1 2 false true (fLst fNil) (fLst fNil)) (fSeq (fFor (aSeq (eV (fVar 0))) (gTn 2 (gsCons (gN 3) (gsCons (gN 4) gsNil))) (fSeq (fIf (fAnd (fBool (fBin gNe (fVar 2) (vE (fLst fNil)))) (fBool (fBin gNe (vE (fBin gIx (vE (fBin gIx (fVar 2) (vE (fC (.int 0))))) (vE (fC (.int 0))))) (fVar 3)))) (fPar 1 2 false true (fBin gAdd (fVar 1) (vE (fCall (g1 gSort) (rCons (fVar 2) rNil)))) (fLst fNil)) fSkip) (fDrop (fApp 2 (fTup (fCons (eV (fVar 3)) (fCons (eV (fVar 4)) fNil))))))) (fRet (fBin gAdd (fVar 1) (vE (fCall (g1 gSort) (rCons (fVar 2) rNil)))))))
def b_law (M : Mir) : FS := (fSeq (fSetN 1 (fLst (fCons (fCallP M.f__law_digits (fCons (eV (fVar 0)) (fCons (fC (.int 0)) (fCons (fC (.int 30)) fNil)))) (fCons (fC (.int 0)) fNil)))) (fSeq (fSet 2 (fSl (vE (fLst (fCons (fC (.str "a")) (fCons (fC (.str "b")) (fCons (fC (.str "c")) (fCons (fC (.str "d")) (fCons (fC (.str "e")) fNil))))))) pNo (pYes (fBin gAdd (vE (fC (.int 4))) (vE (fCallI M.f__law_draw 1 (fCons (fC (.int 2)) fNil))))))) (fSeq (fSet 3 (fCallI M.f__law_turns 1 (fCons (eV (fVar 2)) fNil))) (fSeq (fSet 4 (fCallI M.f__law_formula 1 (fCons (eV (fVar 2)) (fCons (fC (.int 2)) fNil)))) (fSeq (fPar 5 6 false true (fCallP M.f__law_plain (fCons (eV (fVar 3)) (fCons (eV (fVar 4)) fNil))) (fC (.dict []))) (fSeq (fFor (aSeq (eV (fVar 3))) (gTn 2 (gsCons (gN 7) (gsCons (gN 8) gsNil))) (fAsg (eV (fVar 7)) (gPut 6 (eV (fVar 8))))) (fSeq (fSet 9 (fCallP M.f__law_sides (fCons (eV (fVar 2)) (fCons (eV (fVar 6)) (fCons (eV (fVar 4)) fNil))))) (fSeq (fIf (fNot (fTruth (vE (fCallP M.f__law_same (fCons (fCallP M.f_all_orders (fCons (eV (fVar 5)) fNil)) (fCons (eV (fVar 9)) fNil)))))) (fRet (fC (.bool false))) fSkip) (fSeq (fFor (aSeq (fLst (fCons (fC (.str "some")) (fCons (fC (.str "all")) fNil)))) (gN 7) (fSeq (fSetN 10 (fLc (aSeq (eV (fVar 9))) (gTn 2 (gsCons (gN 12) (gsCons (gN 13) gsNil))) (fBool (fBin gEq (fVar 13) (fVar 7))) (eV (fVar 12)) [12, 13])) (fIf (fNot (fTruth (vE (fCallP M.f__law_same (fCons (fCallP M.f_best_for (fCons (eV (fVar 5)) (fCons (eV (fVar 7)) fNil))) (fCons (vIf (fBool (fBin gNe (fVar 10) (vE (fLst fNil)))) (fBin gIx (fVar 10) (vE (fC (.int 0)))) (fC .none)) fNil)))))) (fRet (fC (.bool false))) fSkip))) (fSeq (fSetN 11 (fLst fNil)) (fSeq (fFor (aSeq (eV (fVar 9))) (gTn 2 (gsCons (gN 12) (gsCons (gN 13) gsNil))) (fIf (fBool (fBin gEq (fVar 13) (vE (fC (.str "some"))))) (fDrop (fApp 11 (fTup (fCons (fCall (g1 gLen) (rCons (vE (fLc (aRng2 (fC (.int 1)) (fCall (g1 gLen) (rCons (fVar 12) rNil))) (gN 16) (fBool (fBin gNe (vE (fBin gIx (fVar 6) (vE (fBin gIx (fVar 12) (fVar 16))))) (vE (fBin gIx (fVar 6) (vE (fBin gIx (fVar 12) (vE (fBin gSub (fVar 16) (vE (fC (.int 1))))))))))) (eV (fVar 16)) [16])) rNil)) (fCons (eV (fVar 12)) fNil))))) fSkip)) (fSeq (fIf (fNot (fTruth (vE (fCallP M.f__law_same (fCons (fCallP M.f_fewest_changes (fCons (eV (fVar 5)) fNil)) (fCons (vIf (fBool (fBin gNe (fVar 11) (vE (fLst fNil)))) (fCall (g1 gMin1) (rCons (fVar 11) rNil)) (fC .none)) fNil)))))) (fRet (fC (.bool false))) fSkip) (fSeq (fIf (fNot (fTruth (vE (fCallP M.f__law_same (fCons (fCallP M.f_in_letter_order (fCons (eV (fVar 5)) fNil)) (fCons (fCallP M.f__law_plain (fCons (fCallP M.f__law_blocks (fCons (eV (fVar 3)) fNil)) (fCons (eV (fVar 4)) fNil))) fNil)))))) (fRet (fC (.bool false))) fSkip) (fSeq (fSet 14 (fCallI M.f__law_draw 1 (fCons (fBin gSub (vE (fCall (g1 gLen) (rCons (fVar 2) rNil))) (vE (fC (.int 1)))) fNil))) (fSeq (fSet 15 (fBin gAdd (vE (fBin gAdd (vE (fSl (fVar 3) pNo (pYes (eV (fVar 14))))) (vE (fLst (fCons (fBin gIx (fVar 3) (vE (fBin gAdd (fVar 14) (vE (fC (.int 1)))))) (fCons (fBin gIx (fVar 3) (fVar 14)) fNil)))))) (vE (fSl (fVar 3) (pYes (fBin gAdd (fVar 14) (vE (fC (.int 2))))) pNo)))) (fRet (fCallP M.f__law_same (fCons (fCallP M.f_swapped (fCons (eV (fVar 5)) (fCons (eV (fVar 14)) fNil))) (fCons (fCallP M.f__law_plain (fCons (eV (fVar 15)) (fCons (eV (fVar 4)) fNil))) fNil)))))))))))))))))))
def Mir.next (M : Mir) : Mir where
  f_lot := dPure 2 1 (b_lot M)
  f_worth := dPure 7 2 (b_worth M)
  f_with_sign := dPure 4 3 (b_with_sign M)
  f_ahead_of := dPure 5 2 (b_ahead_of M)
  f_plain_game := dPure 4 2 (b_plain_game M)
  f_blocks := dPure 4 1 (b_blocks M)
  f_closed := dPure 4 1 (b_closed M)
  f_winner := dPure 1 1 (b_winner M)
  f_swapped := dPure 3 2 (b_swapped M)
  f_in_letter_order := dPure 5 1 (b_in_letter_order M)
  f_all_orders := dPure 7 1 (b_all_orders M)
  f_best_for := dPure 4 2 (b_best_for M)
  f_fewest_changes := dPure 8 1 (b_fewest_changes M)
  f__law_cell := dPure 2 2 (b__law_cell M)
  f__law_digits := dPure 8 3 (b__law_digits M)
  f__law_draw := dIo 2 2 (b__law_draw M)
  f__law_pick := dIo 2 2 (b__law_pick M)
  f__law_mixed := dIo 5 2 (b__law_mixed M)
  f__law_same := dPure 3 2 (b__law_same M)
  f__law_turns := dIo 3 2 (b__law_turns M)
  f__law_plain := dPure 6 2 (b__law_plain M)
  f__law_formula := dIo 5 3 (b__law_formula M)
  f__law_worth := dPure 8 2 (b__law_worth M)
  f__law_all_signs := dPure 7 1 (b__law_all_signs M)
  f__law_orders := dPure 5 1 (b__law_orders M)
  f__law_sides := dPure 7 3 (b__law_sides M)
  f__law_chosen := dPure 12 4 (b__law_chosen M)
  f__law_blocks := dPure 5 1 (b__law_blocks M)
  f_law := dPure 17 1 (b_law M)
def mir : Nat → Mir
  | 0 => ⟨fun _ => none, fun _ => none, fun _ => none, fun _ => none, fun _ => none, fun _ => none, fun _ => none, fun _ => none, fun _ => none, fun _ => none, fun _ => none, fun _ => none, fun _ => none, fun _ => none, fun _ => none, fun _ _ => none, fun _ _ => none, fun _ _ => none, fun _ => none, fun _ _ => none, fun _ => none, fun _ _ => none, fun _ => none, fun _ => none, fun _ => none, fun _ => none, fun _ => none, fun _ => none, fun _ => none⟩
  | k + 1 => (mir k).next
/-- what stands behind the top -/
structure Glob (K : PySem.W.Frag) (mg : Str → Option Value) where
  a_lot : Addr
  d_lot : FuncData
  F_lot : Fun K "lot" "lot" s_lot a_lot d_lot
  B_lot : L2.Binds K d_lot ["letters"] []
  m_lot : mg "lot" = some (.ref a_lot)
  a_worth : Addr
  d_worth : FuncData
  F_worth : Fun K "worth" "worth" s_worth a_worth d_worth
  B_worth : L2.Binds K d_worth ["formula", "signs"] []
  m_worth : mg "worth" = some (.ref a_worth)
  a_with_sign : Addr
  d_with_sign : FuncData
  F_with_sign : Fun K "with_sign" "with_sign" s_with_sign a_with_sign d_with_sign
  B_with_sign : L2.Binds K d_with_sign ["signs", "letter", "sign"] []
  m_with_sign : mg "with_sign" = some (.ref a_with_sign)
  a_ahead_of : Addr
  d_ahead_of : FuncData
  F_ahead_of : Fun K "ahead_of" "ahead_of" s_ahead_of a_ahead_of d_ahead_of
  B_ahead_of : L2.Binds K d_ahead_of ["turns", "letter"] []
  m_ahead_of : mg "ahead_of" = some (.ref a_ahead_of)
  a_plain_game : Addr
  d_plain_game : FuncData
  F_plain_game : Fun K "plain_game" "plain_game" s_plain_game a_plain_game d_plain_game
  B_plain_game : L2.Binds K d_plain_game ["turns", "need"] []
  m_plain_game : mg "plain_game" = some (.ref a_plain_game)
  a_blocks : Addr
  d_blocks : FuncData
  F_blocks : Fun K "blocks" "blocks" s_blocks a_blocks d_blocks
  B_blocks : L2.Binds K d_blocks ["turns"] []
  m_blocks : mg "blocks" = some (.ref a_blocks)
  a_closed : Addr
  d_closed : FuncData
  F_closed : Fun K "closed" "closed" s_closed a_closed d_closed
  B_closed : L2.Binds K d_closed ["game"] []
  m_closed : mg "closed" = some (.ref a_closed)
  a_winner : Addr
  d_winner : FuncData
  F_winner : Fun K "winner" "winner" s_winner a_winner d_winner
  B_winner : L2.Binds K d_winner ["game"] []
  m_winner : mg "winner" = some (.ref a_winner)
  a_swapped : Addr
  d_swapped : FuncData
  F_swapped : Fun K "swapped" "swapped" s_swapped a_swapped d_swapped
  B_swapped : L2.Binds K d_swapped ["game", "place"] []
  m_swapped : mg "swapped" = some (.ref a_swapped)
  a_in_letter_order : Addr
  d_in_letter_order : FuncData
  F_in_letter_order : Fun K "in_letter_order" "in_letter_order" s_in_letter_order a_in_letter_order d_in_letter_order
  B_in_letter_order : L2.Binds K d_in_letter_order ["game"] []
  m_in_letter_order : mg "in_letter_order" = some (.ref a_in_letter_order)
  a_all_orders : Addr
  d_all_orders : FuncData
  F_all_orders : Fun K "all_orders" "all_orders" s_all_orders a_all_orders d_all_orders
  B_all_orders : L2.Binds K d_all_orders ["game"] []
  m_all_orders : mg "all_orders" = some (.ref a_all_orders)
  a_best_for : Addr
  d_best_for : FuncData
  F_best_for : Fun K "best_for" "best_for" s_best_for a_best_for d_best_for
  B_best_for : L2.Binds K d_best_for ["game", "side"] []
  m_best_for : mg "best_for" = some (.ref a_best_for)
  a_fewest_changes : Addr
  d_fewest_changes : FuncData
  F_fewest_changes : Fun K "fewest_changes" "fewest_changes" s_fewest_changes a_fewest_changes d_fewest_changes
  B_fewest_changes : L2.Binds K d_fewest_changes ["game"] []
  m_fewest_changes : mg "fewest_changes" = some (.ref a_fewest_changes)
  a__law_cell : Addr
  d__law_cell : FuncData
  F__law_cell : Fun K "_law_cell" "_law_cell" s__law_cell a__law_cell d__law_cell
  B__law_cell : L2.Binds K d__law_cell ["script", "k"] []
  m__law_cell : mg "_law_cell" = some (.ref a__law_cell)
  a__law_digits : Addr
  d__law_digits : FuncData
  F__law_digits : Fun K "_law_digits" "_law_digits" s__law_digits a__law_digits d__law_digits
  B__law_digits : L2.Binds K d__law_digits ["script", "first", "last"] []
  m__law_digits : mg "_law_digits" = some (.ref a__law_digits)
  a__law_draw : Addr
  d__law_draw : FuncData
  F__law_draw : Fun K "_law_draw" "_law_draw" s__law_draw a__law_draw d__law_draw
  B__law_draw : L2.Binds K d__law_draw ["box", "many"] []
  m__law_draw : mg "_law_draw" = some (.ref a__law_draw)
  a__law_pick : Addr
  d__law_pick : FuncData
  F__law_pick : Fun K "_law_pick" "_law_pick" s__law_pick a__law_pick d__law_pick
  B__law_pick : L2.Binds K d__law_pick ["box", "row"] []
  m__law_pick : mg "_law_pick" = some (.ref a__law_pick)
  a__law_mixed : Addr
  d__law_mixed : FuncData
  F__law_mixed : Fun K "_law_mixed" "_law_mixed" s__law_mixed a__law_mixed d__law_mixed
  B__law_mixed : L2.Binds K d__law_mixed ["box", "row"] []
  m__law_mixed : mg "_law_mixed" = some (.ref a__law_mixed)
  a__law_same : Addr
  d__law_same : FuncData
  F__law_same : Fun K "_law_same" "_law_same" s__law_same a__law_same d__law_same
  B__law_same : L2.Binds K d__law_same ["told", "due"] []
  m__law_same : mg "_law_same" = some (.ref a__law_same)
  a__law_turns : Addr
  d__law_turns : FuncData
  F__law_turns : Fun K "_law_turns" "_law_turns" s__law_turns a__law_turns d__law_turns
  B__law_turns : L2.Binds K d__law_turns ["box", "letters"] []
  m__law_turns : mg "_law_turns" = some (.ref a__law_turns)
  a__law_plain : Addr
  d__law_plain : FuncData
  F__law_plain : Fun K "_law_plain" "_law_plain" s__law_plain a__law_plain d__law_plain
  B__law_plain : L2.Binds K d__law_plain ["turns", "need"] []
  m__law_plain : mg "_law_plain" = some (.ref a__law_plain)
  a__law_formula : Addr
  d__law_formula : FuncData
  F__law_formula : Fun K "_law_formula" "_law_formula" s__law_formula a__law_formula d__law_formula
  B__law_formula : L2.Binds K d__law_formula ["box", "letters", "deep"] []
  m__law_formula : mg "_law_formula" = some (.ref a__law_formula)
  a__law_worth : Addr
  d__law_worth : FuncData
  F__law_worth : Fun K "_law_worth" "_law_worth" s__law_worth a__law_worth d__law_worth
  B__law_worth : L2.Binds K d__law_worth ["formula", "signs"] []
  m__law_worth : mg "_law_worth" = some (.ref a__law_worth)
  a__law_all_signs : Addr
  d__law_all_signs : FuncData
  F__law_all_signs : Fun K "_law_all_signs" "_law_all_signs" s__law_all_signs a__law_all_signs d__law_all_signs
  B__law_all_signs : L2.Binds K d__law_all_signs ["letters"] []
  m__law_all_signs : mg "_law_all_signs" = some (.ref a__law_all_signs)
  a__law_orders : Addr
  d__law_orders : FuncData
  F__law_orders : Fun K "_law_orders" "_law_orders" s__law_orders a__law_orders d__law_orders
  B__law_orders : L2.Binds K d__law_orders ["letters"] []
  m__law_orders : mg "_law_orders" = some (.ref a__law_orders)
  a__law_sides : Addr
  d__law_sides : FuncData
  F__law_sides : Fun K "_law_sides" "_law_sides" s__law_sides a__law_sides d__law_sides
  B__law_sides : L2.Binds K d__law_sides ["letters", "sides", "need"] []
  m__law_sides : mg "_law_sides" = some (.ref a__law_sides)
  a__law_chosen : Addr
  d__law_chosen : FuncData
  F__law_chosen : Fun K "_law_chosen" "_law_chosen" s__law_chosen a__law_chosen d__law_chosen
  B__law_chosen : L2.Binds K d__law_chosen ["letters", "sides", "order", "tables"] []
  m__law_chosen : mg "_law_chosen" = some (.ref a__law_chosen)
  a__law_blocks : Addr
  d__law_blocks : FuncData
  F__law_blocks : Fun K "_law_blocks" "_law_blocks" s__law_blocks a__law_blocks d__law_blocks
  B__law_blocks : L2.Binds K d__law_blocks ["turns"] []
  m__law_blocks : mg "_law_blocks" = some (.ref a__law_blocks)
  a_law : Addr
  d_law : FuncData
  F_law : Fun K "law" "law" s_law a_law d_law
  B_law : L2.Binds K d_law ["script"] []
  m_law : mg "law" = some (.ref a_law)
  v_SIDES : V
  u_SIDES : Value
  m_SIDES : mg "SIDES" = some u_SIDES
  r_SIDES : RelV v_SIDES u_SIDES
  f_SIDES : FR K (fun _ => none) v_SIDES c_SIDES
  z_all : mg "all" = none
  z_any : mg "any" = none
  z_bool : mg "bool" = none
  z_dict : mg "dict" = none
  z_int : mg "int" = none
  z_isinstance : mg "isinstance" = none
  z_len : mg "len" = none
  z_list : mg "list" = none
  z_max : mg "max" = none
  z_min : mg "min" = none
  z_range : mg "range" = none
  z_repr : mg "repr" = none
  z_sorted : mg "sorted" = none
  z_str : mg "str" = none
  z_tuple : mg "tuple" = none
structure Oks (P : Program) (w : World) (K : PySem.W.Frag) (mg : Str → Option Value) (base : Heap) (G : Glob K mg) (k : Nat) (M : Mir) : Prop where
  f_lot : FnOk P w K mg base CX0 k G.a_lot G.d_lot ["letters"] (spP K 1 M.f_lot)
  f_worth : FnOk P w K mg base CX0 k G.a_worth G.d_worth ["formula", "signs"] (spP K 2 M.f_worth)
  f_with_sign : FnOk P w K mg base CX0 k G.a_with_sign G.d_with_sign ["signs", "letter", "sign"] (spP K 3 M.f_with_sign)
  f_ahead_of : FnOk P w K mg base CX0 k G.a_ahead_of G.d_ahead_of ["turns", "letter"] (spP K 2 M.f_ahead_of)
  f_plain_game : FnOk P w K mg base CX0 k G.a_plain_game G.d_plain_game ["turns", "need"] (spP K 2 M.f_plain_game)
  f_blocks : FnOk P w K mg base CX0 k G.a_blocks G.d_blocks ["turns"] (spP K 1 M.f_blocks)
  f_closed : FnOk P w K mg base CX0 k G.a_closed G.d_closed ["game"] (spP K 1 M.f_closed)
  f_winner : FnOk P w K mg base CX0 k G.a_winner G.d_winner ["game"] (spP K 1 M.f_winner)
  f_swapped : FnOk P w K mg base CX0 k G.a_swapped G.d_swapped ["game", "place"] (spP K 2 M.f_swapped)
  f_in_letter_order : FnOk P w K mg base CX0 k G.a_in_letter_order G.d_in_letter_order ["game"] (spP K 1 M.f_in_letter_order)
  f_all_orders : FnOk P w K mg base CX0 k G.a_all_orders G.d_all_orders ["game"] (spP K 1 M.f_all_orders)
  f_best_for : FnOk P w K mg base CX0 k G.a_best_for G.d_best_for ["game", "side"] (spP K 2 M.f_best_for)
  f_fewest_changes : FnOk P w K mg base CX0 k G.a_fewest_changes G.d_fewest_changes ["game"] (spP K 1 M.f_fewest_changes)
  f__law_cell : FnOk P w K mg base CX0 k G.a__law_cell G.d__law_cell ["script", "k"] (spP K 2 M.f__law_cell)
  f__law_digits : FnOk P w K mg base CX0 k G.a__law_digits G.d__law_digits ["script", "first", "last"] (spP K 3 M.f__law_digits)
  f__law_draw : FnOk P w K mg base CX0 k G.a__law_draw G.d__law_draw ["box", "many"] (spI K 2 M.f__law_draw)
  f__law_pick : FnOk P w K mg base CX0 k G.a__law_pick G.d__law_pick ["box", "row"] (spI K 2 M.f__law_pick)
  f__law_mixed : FnOk P w K mg base CX0 k G.a__law_mixed G.d__law_mixed ["box", "row"] (spI K 2 M.f__law_mixed)
  f__law_same : FnOk P w K mg base CX0 k G.a__law_same G.d__law_same ["told", "due"] (spP K 2 M.f__law_same)
  f__law_turns : FnOk P w K mg base CX0 k G.a__law_turns G.d__law_turns ["box", "letters"] (spI K 2 M.f__law_turns)
  f__law_plain : FnOk P w K mg base CX0 k G.a__law_plain G.d__law_plain ["turns", "need"] (spP K 2 M.f__law_plain)
  f__law_formula : FnOk P w K mg base CX0 k G.a__law_formula G.d__law_formula ["box", "letters", "deep"] (spI K 3 M.f__law_formula)
  f__law_worth : FnOk P w K mg base CX0 k G.a__law_worth G.d__law_worth ["formula", "signs"] (spP K 2 M.f__law_worth)
  f__law_all_signs : FnOk P w K mg base CX0 k G.a__law_all_signs G.d__law_all_signs ["letters"] (spP K 1 M.f__law_all_signs)
  f__law_orders : FnOk P w K mg base CX0 k G.a__law_orders G.d__law_orders ["letters"] (spP K 1 M.f__law_orders)
  f__law_sides : FnOk P w K mg base CX0 k G.a__law_sides G.d__law_sides ["letters", "sides", "need"] (spP K 3 M.f__law_sides)
  f__law_chosen : FnOk P w K mg base CX0 k G.a__law_chosen G.d__law_chosen ["letters", "sides", "order", "tables"] (spP K 4 M.f__law_chosen)
  f__law_blocks : FnOk P w K mg base CX0 k G.a__law_blocks G.d__law_blocks ["turns"] (spP K 1 M.f__law_blocks)
  f_law : FnOk P w K mg base CX0 k G.a_law G.d_law ["script"] (spP K 1 M.f_law)
section
variable {P : Program} {w : World} {K : PySem.W.Frag} {mg : Str → Option Value} {base : Heap}
theorem sc_lot : FnScope n_lot ["letters"] (defScope s_lot) := ⟨rfl, rfl, rfl, by decide +kernel, rfl, by decide +kernel, by decide +kernel⟩
theorem w_lot (G : Glob K mg) {k : Nat} {M : Mir} (O : Oks P w K mg base G k M) {f : Addr} {cdv : Value} {A : Around} {outer : List Env} {s : Shared} {H : Hp} {E : XK} (hr : Room k (A.deeper (envOfC "lot" (defScope s_lot) s.heap.objs.size f cdv))) :
    QSs (cxOf CX0 P w K mg base n_lot "lot" (defScope s_lot) f cdv A outer s H E).nox (defBody s_lot) (b_lot M) :=
  have nd := sc_lot.nd
  (s_one (s_ret (q_callT c_tuple rfl G.z_tuple (by rfl) (q_rcons (q_ve (q_nv (q_sc (own := [("letter", 1)]) rfl nd (hu64 hr) rfl G.z_sorted (blkOk_by (N := n_lot) (sc := defScope s_lot) (by decide +kernel)) (by decide) (i_seq (q_ev (q_var (pv 0)))) (fun _ _ _ _ _ => (g_name 1 nd rfl (by first | exact Or.inl rfl | exact Or.inr rfl))) (fun _ _ _ _ _ => ts_nil) (fun _ _ _ _ _ => (q_ev (q_var (pv 1))))))) q_rnil))))
theorem sc_worth : FnScope n_worth ["formula", "signs"] (defScope s_worth) := ⟨rfl, rfl, rfl, by decide +kernel, rfl, by decide +kernel, by decide +kernel⟩
theorem w_worth (G : Glob K mg) {k : Nat} {M : Mir} (O : Oks P w K mg base G k M) {f : Addr} {cdv : Value} {A : Around} {outer : List Env} {s : Shared} {H : Hp} {E : XK} (hr : Room k (A.deeper (envOfC "worth" (defScope s_worth) s.heap.objs.size f cdv))) :
    QSs (cxOf CX0 P w K mg base n_worth "worth" (defScope s_worth) f cdv A outer s H E).nox (defBody s_worth) (b_worth M) :=
  have nd := sc_worth.nd
  (s_cons (s_set 2 nd rfl (Or.inl rfl) (q_ix (o_ix (hu64 hr)) (q_var (pv 0)) (q_ve q_int) (fun _ _ => rfl))) (s_cons (s_if (q_testC (o_eq (hu64 hr)) (q_var (pv 2)) (q_ve q_str) (nomark _)) (s_one (s_ret (q_ix (o_ix (hu64 hr)) (q_var (pv 1)) (q_ve (q_ix (o_ix (hu64 hr)) (q_var (pv 0)) (q_ve q_int) (fun _ _ => rfl))) (fun _ _ => rfl)))) s_nil) (s_cons (s_if (q_testC (o_in (hu65 hr)) (q_var (pv 2)) (q_ve (q_tup (q_cons q_str (q_cons q_str q_nil)))) (by with_unfolding_all rfl)) (s_one (s_ret (q_cmp (o_eq (hu64 hr)) (q_var (pv 2)) (q_ve q_str) (nomark _)))) s_nil) (s_cons (s_if (q_testC (o_eq (hu64 hr)) (q_var (pv 2)) (q_ve q_str) (nomark _)) (s_one (s_ret (v_not (q_call O.f_worth hr G.m_worth G.F_worth.kp G.B_worth (q_cons (q_ix (o_ix (hu64 hr)) (q_var (pv 0)) (q_ve q_int) (fun _ _ => rfl)) (q_cons (q_ev (q_var (pv 1))) q_nil)) (len_cons (len_cons len_nil)) rfl)))) s_nil) (s_cons (s_if (q_testC (o_in (hu65 hr)) (q_var (pv 2)) (q_ve (q_glob rfl G.m_SIDES G.r_SIDES G.f_SIDES)) (by with_unfolding_all rfl)) (s_cons (s_setLc 3 (own := [("sign", 6)]) rfl nd rfl rfl (sw_true rfl rfl rfl (by decide +kernel)) (blkOk_by (N := n_worth) (sc := defScope s_worth) (by decide +kernel)) (by decide) (i_seq (q_tup (q_cons q_bl (q_cons q_bl q_nil)))) (fun _ _ _ _ _ => (g_name 6 nd rfl (by first | exact Or.inl rfl | exact Or.inr rfl))) (fun _ _ _ _ _ => ts_nil) (fun _ _ _ _ _ => (q_call O.f_worth hr G.m_worth G.F_worth.kp G.B_worth (q_cons (q_ix (o_ix (hu64 hr)) (q_var (pv 0)) (q_ve q_int) (fun _ _ => rfl)) (q_cons (q_call O.f_with_sign hr G.m_with_sign G.F_with_sign.kp G.B_with_sign (q_cons (q_ev (q_var (pv 1))) (q_cons (q_ix (o_ix (hu64 hr)) (q_var (pv 0)) (q_ve q_int) (fun _ _ => rfl)) (q_cons (q_ev (q_var (pv 6))) q_nil))) (len_cons (len_cons (len_cons len_nil))) rfl) q_nil)) (len_cons (len_cons len_nil)) rfl))) (s_one (s_ret (v_if (q_testC (o_eq (hu64 hr)) (q_var (pv 2)) (q_ve q_str) (nomark _)) (q_callB (c_all rfl) rfl G.z_all (by rfl) (q_rcons (q_var (pv 3)) q_rnil)) (q_callB (c_any rfl) rfl G.z_any (by rfl) (q_rcons (q_var (pv 3)) q_rnil)))))) s_nil) (s_cons (s_par 4 5 false false rfl nd rfl rfl (by decide) rfl rfl (q_call O.f_worth hr G.m_worth G.F_worth.kp G.B_worth (q_cons (q_ix (o_ix (hu64 hr)) (q_var (pv 0)) (q_ve q_int) (fun _ _ => rfl)) (q_cons (q_ev (q_var (pv 1))) q_nil)) (len_cons (len_cons len_nil)) rfl) (q_call O.f_worth hr G.m_worth G.F_worth.kp G.B_worth (q_cons (q_ix (o_ix (hu64 hr)) (q_var (pv 0)) (q_ve q_int) (fun _ _ => rfl)) (q_cons (q_ev (q_var (pv 1))) q_nil)) (len_cons (len_cons len_nil)) rfl) (by rfl)) (s_cons (s_if (q_testC (o_eq (hu64 hr)) (q_var (pv 2)) (q_ve q_str) (nomark _)) (s_one (s_ret (v_and (q_ev (q_var (pv 4))) (v_one (q_ev (q_var (pv 5))))))) s_nil) (s_cons (s_if (q_testC (o_eq (hu64 hr)) (q_var (pv 2)) (q_ve q_str) (nomark _)) (s_one (s_ret (v_or (q_ev (q_var (pv 4))) (v_one (q_ev (q_var (pv 5))))))) s_nil) (s_one (s_ret (v_if (q_testC (o_eq (hu64 hr)) (q_var (pv 2)) (q_ve q_str) (nomark _)) (v_or (v_not (q_ev (q_var (pv 4)))) (v_one (q_ev (q_var (pv 5))))) (q_cmp (o_eq (hu64 hr)) (q_var (pv 4)) (q_var (pv 5)) (nomark _)))))))))))))
theorem sc_with_sign : FnScope n_with_sign ["signs", "letter", "sign"] (defScope s_with_sign) := ⟨rfl, rfl, rfl, by decide +kernel, rfl, by decide +kernel, by decide +kernel⟩
theorem w_with_sign (G : Glob K mg) {k : Nat} {M : Mir} (O : Oks P w K mg base G k M) {f : Addr} {cdv : Value} {A : Around} {outer : List Env} {s : Shared} {H : Hp} {E : XK} (hr : Room k (A.deeper (envOfC "with_sign" (defScope s_with_sign) s.heap.objs.size f cdv))) :
    QSs (cxOf CX0 P w K mg base n_with_sign "with_sign" (defScope s_with_sign) f cdv A outer s H E).nox (defBody s_with_sign) (b_with_sign M) :=
  have nd := sc_with_sign.nd
  (s_cons (s_setN 3 nd rfl (Or.inl rfl) (q_callTN (c_dict (hu64 hr)) rfl G.z_dict (by rfl) (q_rcons (q_var (pv 0)) q_rnil))) (s_cons (s_asg (q_ev (q_var (pv 2))) (g_put 3 (hu64 hr) (pv 3) (q_ev (q_var (pv 1))))) (s_one (s_ret (q_ev (q_var (pv 3)))))))
theorem sc_ahead_of : FnScope n_ahead_of ["turns", "letter"] (defScope s_ahead_of) := ⟨rfl, rfl, rfl, by decide +kernel, rfl, by decide +kernel, by decide +kernel⟩
theorem w_ahead_of (G : Glob K mg) {k : Nat} {M : Mir} (O : Oks P w K mg base G k M) {f : Addr} {cdv : Value} {A : Around} {outer : List Env} {s : Shared} {H : Hp} {E : XK} (hr : Room k (A.deeper (envOfC "ahead_of" (defScope s_ahead_of) s.heap.objs.size f cdv))) :
    QSs (cxOf CX0 P w K mg base n_ahead_of "ahead_of" (defScope s_ahead_of) f cdv A outer s H E).nox (defBody s_ahead_of) (b_ahead_of M) :=
  have nd := sc_ahead_of.nd
  (s_cons (s_setN 2 nd rfl (Or.inl rfl) (q_lst q_nil)) (s_cons (s_for PassesOwn.never rfl (i_seq (q_ev (q_var (pv 0)))) (g_tup 2 rfl (g_cons (g_name 3 nd rfl (by first | exact Or.inl rfl | exact Or.inr rfl)) (g_cons (g_name 4 nd rfl (by first | exact Or.inl rfl | exact Or.inr rfl)) g_nil))) (s_cons (s_if (q_testC (o_eq (hu64 hr)) (q_var (pv 4)) (q_var (pv 1)) (nomark _)) (s_one (s_ret (q_call O.f_lot hr G.m_lot G.F_lot.kp G.B_lot (q_cons (q_ev (q_var (pv 2))) q_nil) (len_cons len_nil) rfl))) s_nil) (s_one (s_if (q_testC (o_eq (hu64 hr)) (q_var (pv 3)) (q_ve q_str) (nomark _)) (s_one (s_drop (q_app 2 (pv 2) (q_ev (q_var (pv 4)))))) s_nil)))) (s_one (s_ret (q_call O.f_lot hr G.m_lot G.F_lot.kp G.B_lot (q_cons (q_ev (q_var (pv 2))) q_nil) (len_cons len_nil) rfl)))))
theorem sc_plain_game : FnScope n_plain_game ["turns", "need"] (defScope s_plain_game) := ⟨rfl, rfl, rfl, by decide +kernel, rfl, by decide +kernel, by decide +kernel⟩
theorem w_plain_game (G : Glob K mg) {k : Nat} {M : Mir} (O : Oks P w K mg base G k M) {f : Addr} {cdv : Value} {A : Around} {outer : List Env} {s : Shared} {H : Hp} {E : XK} (hr : Room k (A.deeper (envOfC "plain_game" (defScope s_plain_game) s.heap.objs.size f cdv))) :
    QSs (cxOf CX0 P w K mg base n_plain_game "plain_game" (defScope s_plain_game) f cdv A outer s H E).nox (defBody s_plain_game) (b_plain_game M) :=
  have nd := sc_plain_game.nd
  (s_one (s_ret (q_tup (q_cons (q_callT c_tuple rfl G.z_tuple (by rfl) (q_rcons (q_var (pv 0)) q_rnil)) (q_cons (q_nv (q_dc (own := [("side", 2), ("letter", 3)]) rfl nd (blkOk_by (N := n_plain_game) (sc := defScope s_plain_game) (by decide +kernel)) (by decide) (i_seq (q_ev (q_var (pv 0)))) (fun _ _ _ _ _ => (g_tup 2 rfl (g_cons (g_name 2 nd rfl (by first | exact Or.inl rfl | exact Or.inr rfl)) (g_cons (g_name 3 nd rfl (by first | exact Or.inl rfl | exact Or.inr rfl)) g_nil)))) (fun _ _ _ _ _ => (ts_one (q_testC (o_eq (hu64 hr)) (q_var (pv 2)) (q_ve q_str) (nomark _)))) (fun _ _ _ _ _ => (q_ev (q_var (pv 3)))) (fun _ _ _ _ _ => (q_call O.f_ahead_of hr G.m_ahead_of G.F_ahead_of.kp G.B_ahead_of (q_cons (q_ev (q_var (pv 0))) (q_cons (q_ev (q_var (pv 3))) q_nil)) (len_cons (len_cons len_nil)) rfl)))) (q_cons (q_ev (q_var (pv 1))) q_nil))))))
theorem sc_blocks : FnScope n_blocks ["turns"] (defScope s_blocks) := ⟨rfl, rfl, rfl, by decide +kernel, rfl, by decide +kernel, by decide +kernel⟩
theorem w_blocks (G : Glob K mg) {k : Nat} {M : Mir} (O : Oks P w K mg base G k M) {f : Addr} {cdv : Value} {A : Around} {outer : List Env} {s : Shared} {H : Hp} {E : XK} (hr : Room k (A.deeper (envOfC "blocks" (defScope s_blocks) s.heap.objs.size f cdv))) :
    QSs (cxOf CX0 P w K mg base n_blocks "blocks" (defScope s_blocks) f cdv A outer s H E).nox (defBody s_blocks) (b_blocks M) :=
  have nd := sc_blocks.nd
  (s_cons (s_setN 1 nd rfl (Or.inl rfl) (q_lst q_nil)) (s_cons (s_for PassesOwn.never rfl (i_seq (q_ev (q_var (pv 0)))) (g_tup 2 rfl (g_cons (g_name 2 nd rfl (by first | exact Or.inl rfl | exact Or.inr rfl)) (g_cons (g_name 3 nd rfl (by first | exact Or.inl rfl | exact Or.inr rfl)) g_nil))) (s_one (s_if (q_w (q_and (q_testC (o_gt) (q_ve (q_callB c_len rfl G.z_len (by rfl) (q_rcons (q_var (pv 1)) q_rnil))) (q_ve q_int) (nomark _)) (q_and1 (q_testC (o_eq (hu64 hr)) (q_ve (q_ix (o_ix (hu64 hr)) (q_ve (q_ix (o_ix (hu64 hr)) (q_var (pv 1)) (q_ve (q_un o_neg (q_ve q_int))) (fun _ _ => rfl))) (q_ve q_int) (fun _ _ => rfl))) (q_var (pv 2)) (nomark _))))) (s_one (s_asg (q_tup (q_cons (q_ev (q_var (pv 2))) (q_cons (q_bin (o_add) (q_ve (q_ix (o_ix (hu64 hr)) (q_ve (q_ix (o_ix (hu64 hr)) (q_var (pv 1)) (q_ve (q_un o_neg (q_ve q_int))) (fun _ _ => rfl))) (q_ve q_int) (fun _ _ => rfl))) (q_ve (q_tup (q_cons (q_ev (q_var (pv 3))) q_nil)))) q_nil))) (g_put 1 (hu64 hr) (pv 1) (q_un o_neg (q_ve q_int))))) (s_one (s_drop (q_app 1 (pv 1) (q_tup (q_cons (q_ev (q_var (pv 2))) (q_cons (q_tup (q_cons (q_ev (q_var (pv 3))) q_nil)) q_nil))))))))) (s_one (s_ret (q_ev (q_var (pv 1)))))))
theorem sc_closed : FnScope n_closed ["game"] (defScope s_closed) := ⟨rfl, rfl, rfl, by decide +kernel, rfl, by decide +kernel, by decide +kernel⟩
theorem w_closed (G : Glob K mg) {k : Nat} {M : Mir} (O : Oks P w K mg base G k M) {f : Addr} {cdv : Value} {A : Around} {outer : List Env} {s : Shared} {H : Hp} {E : XK} (hr : Room k (A.deeper (envOfC "closed" (defScope s_closed) s.heap.objs.size f cdv))) :
    QSs (cxOf CX0 P w K mg base n_closed "closed" (defScope s_closed) f cdv A outer s H E).nox (defBody s_closed) (b_closed M) :=
  have nd := sc_closed.nd
  (s_cons (s_set 1 nd rfl (Or.inl rfl) (q_ix (o_ix (hu64 hr)) (q_var (pv 0)) (q_ve q_int) (fun _ _ => rfl))) (s_cons (s_for PassesOwn.never rfl (i_seq (q_back (q_ve (q_ix (o_ix (hu64 hr)) (q_var (pv 0)) (q_ve q_int) (fun _ _ => rfl))))) (g_tup 2 rfl (g_cons (g_name 2 nd rfl (by first | exact Or.inl rfl | exact Or.inr rfl)) (g_cons (g_name 3 nd rfl (by first | exact Or.inl rfl | exact Or.inr rfl)) g_nil))) (s_one (s_set 1 nd rfl (Or.inl rfl) (q_tup (q_cons (q_ev (q_var (pv 2))) (q_cons (q_ev (q_var (pv 3))) (q_cons (q_ev (q_var (pv 1))) q_nil))))))) (s_one (s_ret (q_ev (q_var (pv 1)))))))
theorem sc_winner : FnScope n_winner ["game"] (defScope s_winner) := ⟨rfl, rfl, rfl, by decide +kernel, rfl, by decide +kernel, by decide +kernel⟩
theorem w_winner (G : Glob K mg) {k : Nat} {M : Mir} (O : Oks P w K mg base G k M) {f : Addr} {cdv : Value} {A : Around} {outer : List Env} {s : Shared} {H : Hp} {E : XK} (hr : Room k (A.deeper (envOfC "winner" (defScope s_winner) s.heap.objs.size f cdv))) :
    QSs (cxOf CX0 P w K mg base n_winner "winner" (defScope s_winner) f cdv A outer s H E).nox (defBody s_winner) (b_winner M) :=
  have nd := sc_winner.nd
  (s_one (s_ret (v_if (q_truth (q_ve (q_call O.f_worth hr G.m_worth G.F_worth.kp G.B_worth (q_cons (q_call O.f_closed hr G.m_closed G.F_closed.kp G.B_closed (q_cons (q_ev (q_var (pv 0))) q_nil) (len_cons len_nil) rfl) (q_cons (q_nv q_dnew) q_nil)) (len_cons (len_cons len_nil)) rfl))) q_str q_str)))
theorem sc_swapped : FnScope n_swapped ["game", "place"] (defScope s_swapped) := ⟨rfl, rfl, rfl, by decide +kernel, rfl, by decide +kernel, by decide +kernel⟩
theorem w_swapped (G : Glob K mg) {k : Nat} {M : Mir} (O : Oks P w K mg base G k M) {f : Addr} {cdv : Value} {A : Around} {outer : List Env} {s : Shared} {H : Hp} {E : XK} (hr : Room k (A.deeper (envOfC "swapped" (defScope s_swapped) s.heap.objs.size f cdv))) :
    QSs (cxOf CX0 P w K mg base n_swapped "swapped" (defScope s_swapped) f cdv A outer s H E).nox (defBody s_swapped) (b_swapped M) :=
  have nd := sc_swapped.nd
  (s_cons (s_setN 2 nd rfl (Or.inl rfl) (q_callTN (c_list rfl) rfl G.z_list (by rfl) (q_rcons (q_ve (q_ix (o_ix (hu64 hr)) (q_var (pv 0)) (q_ve q_int) (fun _ _ => rfl))) q_rnil))) (s_cons (s_asg (q_tup (q_cons (q_ix (o_ix (hu64 hr)) (q_var (pv 2)) (q_ve (q_bin (o_add) (q_var (pv 1)) (q_ve q_int))) (fun _ _ => rfl)) (q_cons (q_ix (o_ix (hu64 hr)) (q_var (pv 2)) (q_var (pv 1)) (fun _ _ => rfl)) q_nil))) (g_tup 2 rfl (g_cons (g_put 2 (hu64 hr) (pv 2) (q_ev (q_var (pv 1)))) (g_cons (g_put 2 (hu64 hr) (pv 2) (q_bin (o_add) (q_var (pv 1)) (q_ve q_int))) g_nil)))) (s_one (s_ret (q_call O.f_plain_game hr G.m_plain_game G.F_plain_game.kp G.B_plain_game (q_cons (q_ev (q_var (pv 2))) (q_cons (q_ix (o_ix (hu64 hr)) (q_var (pv 0)) (q_ve q_int) (fun _ _ => rfl)) q_nil)) (len_cons (len_cons len_nil)) rfl)))))
theorem sc_in_letter_order : FnScope n_in_letter_order ["game"] (defScope s_in_letter_order) := ⟨rfl, rfl, rfl, by decide +kernel, rfl, by decide +kernel, by decide +kernel⟩
theorem w_in_letter_order (G : Glob K mg) {k : Nat} {M : Mir} (O : Oks P w K mg base G k M) {f : Addr} {cdv : Value} {A : Around} {outer : List Env} {s : Shared} {H : Hp} {E : XK} (hr : Room k (A.deeper (envOfC "in_letter_order" (defScope s_in_letter_order) s.heap.objs.size f cdv))) :
    QSs (cxOf CX0 P w K mg base n_in_letter_order "in_letter_order" (defScope s_in_letter_order) f cdv A outer s H E).nox (defBody s_in_letter_order) (b_in_letter_order M) :=
  have nd := sc_in_letter_order.nd
  (s_cons (s_setN 1 nd rfl (Or.inl rfl) (q_lst q_nil)) (s_cons (s_for PassesOwn.never rfl (i_seq (q_call O.f_blocks hr G.m_blocks G.F_blocks.kp G.B_blocks (q_cons (q_ix (o_ix (hu64 hr)) (q_var (pv 0)) (q_ve q_int) (fun _ _ => rfl)) q_nil) (len_cons len_nil) rfl)) (g_tup 2 rfl (g_cons (g_name 2 nd rfl (by first | exact Or.inl rfl | exact Or.inr rfl)) (g_cons (g_name 3 nd rfl (by first | exact Or.inl rfl | exact Or.inr rfl)) g_nil))) (s_one (s_drop (q_ext 1 (pv 1) (q_lc (own := [("letter", 4)]) rfl nd (blkOk_by (N := n_in_letter_order) (sc := defScope s_in_letter_order) (by decide +kernel)) (by decide) (i_seq (q_nv (q_callBN (c_sort rfl (hu64 hr)) rfl G.z_sorted (by rfl) (q_rcons (q_var (pv 3)) q_rnil)))) (fun _ _ _ _ _ => (g_name 4 nd rfl (by first | exact Or.inl rfl | exact Or.inr rfl))) (fun _ _ _ _ _ => ts_nil) (fun _ _ _ _ _ => (q_tup (q_cons (q_ev (q_var (pv 2))) (q_cons (q_ev (q_var (pv 4))) q_nil))))))))) (s_one (s_ret (q_call O.f_plain_game hr G.m_plain_game G.F_plain_game.kp G.B_plain_game (q_cons (q_ev (q_var (pv 1))) (q_cons (q_ix (o_ix (hu64 hr)) (q_var (pv 0)) (q_ve q_int) (fun _ _ => rfl)) q_nil)) (len_cons (len_cons len_nil)) rfl)))))
theorem sc_all_orders : FnScope n_all_orders ["game"] (defScope s_all_orders) := ⟨rfl, rfl, rfl, by decide +kernel, rfl, by decide +kernel, by decide +kernel⟩
theorem w_all_orders (G : Glob K mg) {k : Nat} {M : Mir} (O : Oks P w K mg base G k M) {f : Addr} {cdv : Value} {A : Around} {outer : List Env} {s : Shared} {H : Hp} {E : XK} (hr : Room k (A.deeper (envOfC "all_orders" (defScope s_all_orders) s.heap.objs.size f cdv))) :
    QSs (cxOf CX0 P w K mg base n_all_orders "all_orders" (defScope s_all_orders) f cdv A outer s H E).nox (defBody s_all_orders) (b_all_orders M) :=
  have nd := sc_all_orders.nd
  (s_cons (s_set 1 nd rfl (Or.inr rfl) (q_nv (q_dc (own := [("side", 4), ("letter", 3)]) rfl nd (blkOk_by (N := n_all_orders) (sc := defScope s_all_orders) (by decide +kernel)) (by decide) (i_seq (q_ix (o_ix (hu64 hr)) (q_var (pv 0)) (q_ve q_int) (fun _ _ => rfl))) (fun _ _ _ _ _ => (g_tup 2 rfl (g_cons (g_name 4 nd rfl (by first | exact Or.inl rfl | exact Or.inr rfl)) (g_cons (g_name 3 nd rfl (by first | exact Or.inl rfl | exact Or.inr rfl)) g_nil)))) (fun _ _ _ _ _ => ts_nil) (fun _ _ _ _ _ => (q_ev (q_var (pv 3)))) (fun _ _ _ _ _ => (q_ev (q_var (pv 4))))))) (s_cons (s_set 2 nd rfl (Or.inl rfl) (q_nv (q_lst (q_cons (q_tup q_nil) q_nil)))) (s_cons (s_for PassesOwn.never rfl (i_seq (q_ev (q_var (pv 1)))) (g_name 3 nd rfl (by first | exact Or.inl rfl | exact Or.inr rfl)) (s_one (s_setLc2 2 (own := [("row", 5), ("far", 6)]) rfl nd rfl rfl (sw_true rfl rfl rfl (by decide +kernel)) (vs1 := [6]) (blkOk_by (N := n_all_orders) (sc := defScope s_all_orders) (by decide +kernel)) (by decide) (by decide) (by decide) (i_seq (q_ev (q_var (pv 2)))) (fun _ _ _ _ _ => (g_name 5 nd rfl (by first | exact Or.inl rfl | exact Or.inr rfl))) (fun _ _ _ _ _ => ts_nil) (fun _ _ _ _ _ => (i_seq (q_nv (q_callBN (c_sort rfl (hu64 hr)) rfl G.z_sorted (by rfl) (q_rcons (q_var (pv 1)) q_rnil))))) (fun _ _ _ _ _ => (g_name 6 nd rfl (by first | exact Or.inl rfl | exact Or.inr rfl))) (fun _ _ _ _ _ => (ts_one (q_testC (o_notIn (hu65 hr)) (q_var (pv 6)) (q_var (pv 5)) (by with_unfolding_all rfl)))) (fun _ _ _ _ _ => (q_bin (o_add) (q_var (pv 5)) (q_ve (q_tup (q_cons (q_ev (q_var (pv 6))) q_nil)))))))) (s_one (s_ret (q_nv (q_lc (own := [("row", 5)]) rfl nd (blkOk_by (N := n_all_orders) (sc := defScope s_all_orders) (by decide +kernel)) (by decide) (i_seq (q_nv (q_callBN (c_sort rfl (hu64 hr)) rfl G.z_sorted (by rfl) (q_rcons (q_var (pv 2)) q_rnil)))) (fun _ _ _ _ _ => (g_name 5 nd rfl (by first | exact Or.inl rfl | exact Or.inr rfl))) (fun _ _ _ _ _ => ts_nil) (fun _ _ _ _ _ => (q_tup (q_cons (q_ev (q_var (pv 5))) (q_cons (q_call O.f_winner hr G.m_winner G.F_winner.kp G.B_winner (q_cons (q_call O.f_plain_game hr G.m_plain_game G.F_plain_game.kp G.B_plain_game (q_cons (q_nv (q_lc (own := [("far", 6)]) rfl nd (blkOk_by (by rfl)) (by decide) (i_seq (q_ev (q_var (pv 5)))) (fun _ _ _ _ _ => (g_name 6 nd rfl (by first | exact Or.inl rfl | exact Or.inr rfl))) (fun _ _ _ _ _ => ts_nil) (fun _ _ _ _ _ => (q_tup (q_cons (q_ix (o_ix (hu64 hr)) (q_var (pv 1)) (q_var (pv 6)) (fun _ _ => rfl)) (q_cons (q_ev (q_var (pv 6))) q_nil)))))) (q_cons (q_ix (o_ix (hu64 hr)) (q_var (pv 0)) (q_ve q_int) (fun _ _ => rfl)) q_nil)) (len_cons (len_cons len_nil)) rfl) q_nil) (len_cons len_nil) rfl) q_nil)))))))))))
theorem sc_best_for : FnScope n_best_for ["game", "side"] (defScope s_best_for) := ⟨rfl, rfl, rfl, by decide +kernel, rfl, by decide +kernel, by decide +kernel⟩
theorem w_best_for (G : Glob K mg) {k : Nat} {M : Mir} (O : Oks P w K mg base G k M) {f : Addr} {cdv : Value} {A : Around} {outer : List Env} {s : Shared} {H : Hp} {E : XK} (hr : Room k (A.deeper (envOfC "best_for" (defScope s_best_for) s.heap.objs.size f cdv))) :
    QSs (cxOf CX0 P w K mg base n_best_for "best_for" (defScope s_best_for) f cdv A outer s H E).nox (defBody s_best_for) (b_best_for M) :=
  have nd := sc_best_for.nd
  (s_cons (s_for PassesOwn.never rfl (i_seq (q_call O.f_all_orders hr G.m_all_orders G.F_all_orders.kp G.B_all_orders (q_cons (q_ev (q_var (pv 0))) q_nil) (len_cons len_nil) rfl)) (g_tup 2 rfl (g_cons (g_name 2 nd rfl (by first | exact Or.inl rfl | exact Or.inr rfl)) (g_cons (g_name 3 nd rfl (by first | exact Or.inl rfl | exact Or.inr rfl)) g_nil))) (s_one (s_if (q_testC (o_eq (hu64 hr)) (q_var (pv 3)) (q_var (pv 1)) (nomark _)) (s_one (s_ret (q_ev (q_var (pv 2))))) s_nil))) (s_one (s_ret q_non)))
theorem sc_fewest_changes : FnScope n_fewest_changes ["game"] (defScope s_fewest_changes) := ⟨rfl, rfl, rfl, by decide +kernel, rfl, by decide +kernel, by decide +kernel⟩
theorem w_fewest_changes (G : Glob K mg) {k : Nat} {M : Mir} (O : Oks P w K mg base G k M) {f : Addr} {cdv : Value} {A : Around} {outer : List Env} {s : Shared} {H : Hp} {E : XK} (hr : Room k (A.deeper (envOfC "fewest_changes" (defScope s_fewest_changes) s.heap.objs.size f cdv))) :
    QSs (cxOf CX0 P w K mg base n_fewest_changes "fewest_changes" (defScope s_fewest_changes) f cdv A outer s H E).nox (defBody s_fewest_changes) (b_fewest_changes M) :=
  have nd := sc_fewest_changes.nd
  (s_cons (s_set 1 nd rfl (Or.inr rfl) (q_nv (q_dc (own := [("side", 4), ("letter", 6)]) rfl nd (blkOk_by (N := n_fewest_changes) (sc := defScope s_fewest_changes) (by decide +kernel)) (by decide) (i_seq (q_ix (o_ix (hu64 hr)) (q_var (pv 0)) (q_ve q_int) (fun _ _ => rfl))) (fun _ _ _ _ _ => (g_tup 2 rfl (g_cons (g_name 4 nd rfl (by first | exact Or.inl rfl | exact Or.inr rfl)) (g_cons (g_name 6 nd rfl (by first | exact Or.inl rfl | exact Or.inr rfl)) g_nil)))) (fun _ _ _ _ _ => ts_nil) (fun _ _ _ _ _ => (q_ev (q_var (pv 6)))) (fun _ _ _ _ _ => (q_ev (q_var (pv 4))))))) (s_cons (s_set 2 nd rfl (Or.inl rfl) q_non) (s_cons (s_for PassesOwn.never rfl (i_seq (q_call O.f_all_orders hr G.m_all_orders G.F_all_orders.kp G.B_all_orders (q_cons (q_ev (q_var (pv 0))) q_nil) (len_cons len_nil) rfl)) (g_tup 2 rfl (g_cons (g_name 3 nd rfl (by first | exact Or.inl rfl | exact Or.inr rfl)) (g_cons (g_name 4 nd rfl (by first | exact Or.inl rfl | exact Or.inr rfl)) g_nil))) (s_one (s_if (q_testC (o_eq (hu64 hr)) (q_var (pv 4)) (q_ve q_str) (nomark _)) (s_cons (s_set 5 nd rfl (Or.inl rfl) (q_callB (c_max2 rfl) rfl G.z_max (by rfl) (q_rcons (q_ve q_int) (q_rcons (q_ve (q_bin (o_sub) (q_ve (q_callB c_len rfl G.z_len (by rfl) (q_rcons (q_ve (q_call O.f_blocks hr G.m_blocks G.F_blocks.kp G.B_blocks (q_cons (q_nv (q_lc (own := [("far", 7)]) rfl nd (blkOk_by (N := n_fewest_changes) (sc := defScope s_fewest_changes) (by decide +kernel)) (by decide) (i_seq (q_ev (q_var (pv 3)))) (fun _ _ _ _ _ => (g_name 7 nd rfl (by first | exact Or.inl rfl | exact Or.inr rfl))) (fun _ _ _ _ _ => ts_nil) (fun _ _ _ _ _ => (q_tup (q_cons (q_ix (o_ix (hu64 hr)) (q_var (pv 1)) (q_var (pv 7)) (fun _ _ => rfl)) (q_cons (q_ev (q_var (pv 7))) q_nil)))))) q_nil) (len_cons len_nil) rfl)) q_rnil))) (q_ve q_int))) q_rnil)))) (s_one (s_if (q_w (q_or (q_testC (o_is) (q_var (pv 2)) (q_ve q_non) (nomark _)) (q_or1 (q_testC (o_lt (hu64 hr)) (q_ve (q_tup (q_cons (q_ev (q_var (pv 5))) (q_cons (q_ev (q_var (pv 3))) q_nil)))) (q_var (pv 2)) (nomark _))))) (s_one (s_set 2 nd rfl (Or.inl rfl) (q_tup (q_cons (q_ev (q_var (pv 5))) (q_cons (q_ev (q_var (pv 3))) q_nil))))) s_nil))) s_nil))) (s_one (s_ret (q_ev (q_var (pv 2))))))))
theorem sc__law_cell : FnScope n__law_cell ["script", "k"] (defScope s__law_cell) := ⟨rfl, rfl, rfl, by decide +kernel, rfl, by decide +kernel, by decide +kernel⟩
theorem w__law_cell (G : Glob K mg) {k : Nat} {M : Mir} (O : Oks P w K mg base G k M) {f : Addr} {cdv : Value} {A : Around} {outer : List Env} {s : Shared} {H : Hp} {E : XK} (hr : Room k (A.deeper (envOfC "_law_cell" (defScope s__law_cell) s.heap.objs.size f cdv))) :
    QSs (cxOf CX0 P w K mg base n__law_cell "_law_cell" (defScope s__law_cell) f cdv A outer s H E).nox (defBody s__law_cell) (b__law_cell M) :=
  have nd := sc__law_cell.nd
  (s_cons (s_if (q_testC (o_lt (hu64 hr)) (q_var (pv 1)) (q_ve (q_callB c_len rfl G.z_len (by rfl) (q_rcons (q_var (pv 0)) q_rnil))) (nomark _)) (s_one (s_ret (q_ix (o_ix (hu64 hr)) (q_var (pv 0)) (q_var (pv 1)) (fun _ _ => rfl)))) s_nil) (s_one (s_ret q_int)))
theorem sc__law_digits : FnScope n__law_digits ["script", "first", "last"] (defScope s__law_digits) := ⟨rfl, rfl, rfl, by decide +kernel, rfl, by decide +kernel, by decide +kernel⟩
theorem w__law_digits (G : Glob K mg) {k : Nat} {M : Mir} (O : Oks P w K mg base G k M) {f : Addr} {cdv : Value} {A : Around} {outer : List Env} {s : Shared} {H : Hp} {E : XK} (hr : Room k (A.deeper (envOfC "_law_digits" (defScope s__law_digits) s.heap.objs.size f cdv))) :
    QSs (cxOf CX0 P w K mg base n__law_digits "_law_digits" (defScope s__law_digits) f cdv A outer s H E).nox (defBody s__law_digits) (b__law_digits M) :=
  have nd := sc__law_digits.nd
  (s_cons (s_setN 3 nd rfl (Or.inl rfl) (q_lst q_nil)) (s_cons (s_for PassesOwn.never rfl (i_rng2 rfl G.z_range (q_ev (q_var (pv 1))) (q_ev (q_var (pv 2)))) (g_name 4 nd rfl (by first | exact Or.inl rfl | exact Or.inr rfl)) (s_cons (s_set 5 nd rfl (Or.inl rfl) (q_call O.f__law_cell hr G.m__law_cell G.F__law_cell.kp G.B__law_cell (q_cons (q_ev (q_var (pv 0))) (q_cons (q_ev (q_var (pv 4))) q_nil)) (len_cons (len_cons len_nil)) rfl)) (s_cons (s_if (q_testC (o_lt (hu64 hr)) (q_var (pv 5)) (q_ve q_int) (nomark _)) (s_one (s_set 5 nd rfl (Or.inl rfl) (q_bin (o_sub) (q_ve q_int) (q_ve (q_bin (o_mul) (q_ve q_int) (q_var (pv 5))))))) s_nil) (s_one (s_if (q_testC (o_ge) (q_var (pv 5)) (q_ve (q_bin (o_pow) (q_ve q_int) (q_ve q_int))) (nomark _)) (s_one (s_for PassesOwn.never rfl (i_rng1 rfl G.z_range q_int) (g_name 6 nd rfl (by first | exact Or.inl rfl | exact Or.inr rfl)) (s_one (s_if (q_testC (o_gt) (q_var (pv 5)) (q_ve q_int) (nomark _)) (s_cons (s_drop (q_app 3 (pv 3) (q_bin (o_mod) (q_ve (q_callT c_int rfl G.z_int (by rfl) (q_rcons (q_var (pv 5)) q_rnil))) (q_ve q_int)))) (s_one (s_set 5 nd rfl (Or.inl rfl) (q_bin (o_fdiv) (q_var (pv 5)) (q_ve q_int))))) s_nil)))) (s_cons (s_set 7 nd rfl (Or.inl rfl) (q_bin (o_mod) (q_ve (q_callT c_int rfl G.z_int (by rfl) (q_rcons (q_ve (q_bin (o_add) (q_ve (q_bin (o_add) (q_ve (q_bin (o_mul) (q_var (pv 5)) (q_ve q_int))) (q_ve (q_bin (o_mul) (q_var (pv 4)) (q_ve q_int))))) (q_ve q_int))) q_rnil))) (q_ve q_int))) (s_one (s_for PassesOwn.never rfl (i_rng1 rfl G.z_range q_int) (g_name 6 nd rfl (by first | exact Or.inl rfl | exact Or.inr rfl)) (s_cons (s_set 7 nd rfl (Or.inl rfl) (q_bin (o_mod) (q_ve (q_callT c_int rfl G.z_int (by rfl) (q_rcons (q_ve (q_bin (o_add) (q_ve (q_bin (o_add) (q_ve (q_bin (o_mul) (q_var (pv 7)) (q_ve q_int))) (q_ve (q_bin (o_mul) (q_ve q_int) (q_var (pv 6)))))) (q_ve q_int))) q_rnil))) (q_ve q_int))) (s_one (s_drop (q_app 3 (pv 3) (q_bin (o_mod) (q_ve (q_callT c_int rfl G.z_int (by rfl) (q_rcons (q_ve (q_bin (o_fdiv) (q_var (pv 7)) (q_ve q_int))) q_rnil))) (q_ve q_int)))))))))))))) (s_one (s_ret (q_ev (q_var (pv 3)))))))
theorem sc__law_draw : FnScope n__law_draw ["box", "many"] (defScope s__law_draw) := ⟨rfl, rfl, rfl, by decide +kernel, rfl, by decide +kernel, by decide +kernel⟩
theorem w__law_draw (G : Glob K mg) {k : Nat} {M : Mir} (O : Oks P w K mg base G k M) {f : Addr} {cdv : Value} {A : Around} {outer : List Env} {s : Shared} {H : Hp} {E : XK} (hr : Room k (A.deeper (envOfC "_law_draw" (defScope s__law_draw) s.heap.objs.size f cdv))) :
    QSs (cxOf CX0 P w K mg base n__law_draw "_law_draw" (defScope s__law_draw) f cdv A outer s H E).nox (defBody s__law_draw) (b__law_draw M) :=
  have nd := sc__law_draw.nd
  (s_cons (s_asg (q_bin (o_add) (q_ve (q_ix (o_ix (hu64 hr)) (q_var (pv 0)) (q_ve q_int) (fun _ _ => rfl))) (q_ve q_int)) (g_put 0 (hu64 hr) (pv 0) q_int)) (s_cons (s_if (q_testC (o_gt) (q_ve (q_ix (o_ix (hu64 hr)) (q_var (pv 0)) (q_ve q_int) (fun _ _ => rfl))) (q_ve (q_callB c_len rfl G.z_len (by rfl) (q_rcons (q_ve (q_ix (o_ix (hu64 hr)) (q_var (pv 0)) (q_ve q_int) (fun _ _ => rfl))) q_rnil))) (nomark _)) (s_one (s_ret (q_bin (o_mod) (q_ve (q_callT c_int rfl G.z_int (by rfl) (q_rcons (q_ve (q_bin (o_add) (q_ve (q_bin (o_mul) (q_ve (q_ix (o_ix (hu64 hr)) (q_var (pv 0)) (q_ve q_int) (fun _ _ => rfl))) (q_ve q_int))) (q_ve q_int))) q_rnil))) (q_var (pv 1))))) s_nil) (s_one (s_ret (q_bin (o_mod) (q_ve (q_callT c_int rfl G.z_int (by rfl) (q_rcons (q_ve (q_ix (o_ix (hu64 hr)) (q_ve (q_ix (o_ix (hu64 hr)) (q_var (pv 0)) (q_ve q_int) (fun _ _ => rfl))) (q_ve (q_bin (o_sub) (q_ve (q_ix (o_ix (hu64 hr)) (q_var (pv 0)) (q_ve q_int) (fun _ _ => rfl))) (q_ve q_int))) (fun _ _ => rfl))) q_rnil))) (q_var (pv 1)))))))
theorem sc__law_pick : FnScope n__law_pick ["box", "row"] (defScope s__law_pick) := ⟨rfl, rfl, rfl, by decide +kernel, rfl, by decide +kernel, by decide +kernel⟩
theorem w__law_pick (G : Glob K mg) {k : Nat} {M : Mir} (O : Oks P w K mg base G k M) {f : Addr} {cdv : Value} {A : Around} {outer : List Env} {s : Shared} {H : Hp} {E : XK} (hr : Room k (A.deeper (envOfC "_law_pick" (defScope s__law_pick) s.heap.objs.size f cdv))) :
    QSs (cxOf CX0 P w K mg base n__law_pick "_law_pick" (defScope s__law_pick) f cdv A outer s H E).nox (defBody s__law_pick) (b__law_pick M) :=
  have nd := sc__law_pick.nd
  (s_one (s_ret (q_ix (o_ix (hu64 hr)) (q_var (pv 1)) (q_ve (q_bin (o_mod) (q_ve (q_callT c_int rfl G.z_int (by rfl) (q_rcons (q_ve (q_callI 0 O.f__law_draw hr G.m__law_draw G.F__law_draw.kp G.B__law_draw (pv 0) (q_cons q_int q_nil) (len_cons len_nil) rfl)) q_rnil))) (q_ve (q_callB c_len rfl G.z_len (by rfl) (q_rcons (q_var (pv 1)) q_rnil))))) (fun _ _ => rfl))))
theorem sc__law_mixed : FnScope n__law_mixed ["box", "row"] (defScope s__law_mixed) := ⟨rfl, rfl, rfl, by decide +kernel, rfl, by decide +kernel, by decide +kernel⟩
theorem w__law_mixed (G : Glob K mg) {k : Nat} {M : Mir} (O : Oks P w K mg base G k M) {f : Addr} {cdv : Value} {A : Around} {outer : List Env} {s : Shared} {H : Hp} {E : XK} (hr : Room k (A.deeper (envOfC "_law_mixed" (defScope s__law_mixed) s.heap.objs.size f cdv))) :
    QSs (cxOf CX0 P w K mg base n__law_mixed "_law_mixed" (defScope s__law_mixed) f cdv A outer s H E).nox (defBody s__law_mixed) (b__law_mixed M) :=
  have nd := sc__law_mixed.nd
  (s_cons (s_setN 2 nd rfl (Or.inl rfl) (q_callTN (c_list rfl) rfl G.z_list (by rfl) (q_rcons (q_var (pv 1)) q_rnil))) (s_cons (s_setN 3 nd rfl (Or.inl rfl) (q_lst q_nil)) (s_cons (s_for PassesOwn.never rfl (i_rng1 rfl G.z_range (q_callB c_len rfl G.z_len (by rfl) (q_rcons (q_var (pv 1)) q_rnil))) (g_name 4 nd rfl (by first | exact Or.inl rfl | exact Or.inr rfl)) (s_one (s_drop (q_app 3 (pv 3) (q_popAt 2 (pv 2) (q_bin (o_mod) (q_ve (q_callT c_int rfl G.z_int (by rfl) (q_rcons (q_ve (q_callI 0 O.f__law_draw hr G.m__law_draw G.F__law_draw.kp G.B__law_draw (pv 0) (q_cons q_int q_nil) (len_cons len_nil) rfl)) q_rnil))) (q_ve (q_callB c_len rfl G.z_len (by rfl) (q_rcons (q_var (pv 2)) q_rnil))))))))) (s_one (s_ret (q_ev (q_var (pv 3))))))))
theorem sc__law_same : FnScope n__law_same ["told", "due"] (defScope s__law_same) := ⟨rfl, rfl, rfl, by decide +kernel, rfl, by decide +kernel, by decide +kernel⟩
theorem w__law_same (G : Glob K mg) {k : Nat} {M : Mir} (O : Oks P w K mg base G k M) {f : Addr} {cdv : Value} {A : Around} {outer : List Env} {s : Shared} {H : Hp} {E : XK} (hr : Room k (A.deeper (envOfC "_law_same" (defScope s__law_same) s.heap.objs.size f cdv))) :
    QSs (cxOf CX0 P w K mg base n__law_same "_law_same" (defScope s__law_same) f cdv A outer s H E).nox (defBody s__law_same) (b__law_same M) :=
  have nd := sc__law_same.nd
  (s_cons (s_if (q_testC (o_is) (q_var (pv 1)) (q_ve q_non) (nomark _)) (s_one (s_ret (q_cmp (o_is) (q_var (pv 0)) (q_ve q_non) (nomark _)))) s_nil) (s_cons (s_if (q_testC (o_is) (q_var (pv 1)) (q_ve q_bl) (nomark _)) (s_one (s_ret (q_cmp (o_is) (q_var (pv 0)) (q_ve q_bl) (nomark _)))) s_nil) (s_cons (s_if (q_testC (o_is) (q_var (pv 1)) (q_ve q_bl) (nomark _)) (s_one (s_ret (q_cmp (o_is) (q_var (pv 0)) (q_ve q_bl) (nomark _)))) s_nil) (s_cons (s_if (q_truth (q_ve (q_isi .str (q_var (pv 1)) rfl G.z_isinstance rfl G.z_str))) (s_one (s_ret (v_and (q_isi .str (q_var (pv 0)) rfl G.z_isinstance rfl G.z_str) (v_one (q_cmp (o_eq (hu64 hr)) (q_ve (q_callB c_repr rfl G.z_repr (by rfl) (q_rcons (q_var (pv 0)) q_rnil))) (q_ve (q_callB c_repr rfl G.z_repr (by rfl) (q_rcons (q_var (pv 1)) q_rnil))) (nomark _)))))) s_nil) (s_cons (s_if (q_truth (q_ve (q_isi .int (q_var (pv 1)) rfl G.z_isinstance rfl G.z_int))) (s_one (s_ret (v_and (q_isi .int (q_var (pv 0)) rfl G.z_isinstance rfl G.z_int) (v_and (v_not (q_isi .bool (q_var (pv 0)) rfl G.z_isinstance rfl G.z_bool)) (v_one (q_cmp (o_eq (hu64 hr)) (q_ve (q_callB c_repr rfl G.z_repr (by rfl) (q_rcons (q_var (pv 0)) q_rnil))) (q_ve (q_callB c_repr rfl G.z_repr (by rfl) (q_rcons (q_var (pv 1)) q_rnil))) (nomark _))))))) s_nil) (s_cons (s_if (q_truth (q_ve (q_isi .dict (q_var (pv 1)) rfl G.z_isinstance rfl G.z_dict))) (s_one (s_ret (v_and (q_isi .dict (q_var (pv 0)) rfl G.z_isinstance rfl G.z_dict) (v_one (q_call O.f__law_same hr G.m__law_same G.F__law_same.kp G.B__law_same (q_cons (q_nv (q_items rfl (q_var (pv 0)) rfl G.z_list (by rfl))) (q_cons (q_nv (q_items rfl (q_var (pv 1)) rfl G.z_list (by rfl))) q_nil)) (len_cons (len_cons len_nil)) rfl))))) s_nil) (s_cons (s_if (q_w (q_or (q_w (q_and (q_truth (q_ve (q_isi .tuple (q_var (pv 1)) rfl G.z_isinstance rfl G.z_tuple))) (q_and1 (q_not (q_truth (q_ve (q_isi .tuple (q_var (pv 0)) rfl G.z_isinstance rfl G.z_tuple))))))) (q_or1 (q_w (q_and (q_truth (q_ve (q_isi .list (q_var (pv 1)) rfl G.z_isinstance rfl G.z_list))) (q_and1 (q_not (q_truth (q_ve (q_isi .list (q_var (pv 0)) rfl G.z_isinstance rfl G.z_list)))))))))) (s_one (s_ret q_bl)) s_nil) (s_cons (s_if (q_testC (o_ne (hu64 hr)) (q_ve (q_callB c_len rfl G.z_len (by rfl) (q_rcons (q_var (pv 0)) q_rnil))) (q_ve (q_callB c_len rfl G.z_len (by rfl) (q_rcons (q_var (pv 1)) q_rnil))) (nomark _)) (s_one (s_ret q_bl)) s_nil) (s_cons (s_for PassesOwn.never rfl (i_rng1 rfl G.z_range (q_callB c_len rfl G.z_len (by rfl) (q_rcons (q_var (pv 1)) q_rnil))) (g_name 2 nd rfl (by first | exact Or.inl rfl | exact Or.inr rfl)) (s_one (s_if (q_not (q_truth (q_ve (q_call O.f__law_same hr G.m__law_same G.F__law_same.kp G.B__law_same (q_cons (q_ix (o_ix (hu64 hr)) (q_var (pv 0)) (q_var (pv 2)) (fun _ _ => rfl)) (q_cons (q_ix (o_ix (hu64 hr)) (q_var (pv 1)) (q_var (pv 2)) (fun _ _ => rfl)) q_nil)) (len_cons (len_cons len_nil)) rfl)))) (s_one (s_ret q_bl)) s_nil))) (s_one (s_ret q_bl)))))))))))
theorem sc__law_turns : FnScope n__law_turns ["box", "letters"] (defScope s__law_turns) := ⟨rfl, rfl, rfl, by decide +kernel, rfl, by decide +kernel, by decide +kernel⟩
theorem w__law_turns (G : Glob K mg) {k : Nat} {M : Mir} (O : Oks P w K mg base G k M) {f : Addr} {cdv : Value} {A : Around} {outer : List Env} {s : Shared} {H : Hp} {E : XK} (hr : Room k (A.deeper (envOfC "_law_turns" (defScope s__law_turns) s.heap.objs.size f cdv))) :
    QSs (cxOf CX0 P w K mg base n__law_turns "_law_turns" (defScope s__law_turns) f cdv A outer s H E).nox (defBody s__law_turns) (b__law_turns M) :=
  have nd := sc__law_turns.nd
  (s_one (s_ret (q_nv (q_lc (own := [("letter", 2)]) rfl nd (blkOk_by (N := n__law_turns) (sc := defScope s__law_turns) (by decide +kernel)) (by decide) (i_seq (q_callI 0 O.f__law_mixed hr G.m__law_mixed G.F__law_mixed.kp G.B__law_mixed (pv 0) (q_cons (q_ev (q_var (pv 1))) q_nil) (len_cons len_nil) rfl)) (fun _ _ _ _ _ => (g_name 2 nd rfl (by first | exact Or.inl rfl | exact Or.inr rfl))) (fun _ _ _ _ _ => ts_nil) (fun _ _ _ _ _ => (q_tup (q_cons (q_callI 0 O.f__law_pick hr G.m__law_pick G.F__law_pick.kp G.B__law_pick (pv 0) (q_cons (q_nv (q_lst (q_cons q_str (q_cons q_str q_nil)))) q_nil) (len_cons len_nil) rfl) (q_cons (q_ev (q_var (pv 2))) q_nil))))))))
theorem sc__law_plain : FnScope n__law_plain ["turns", "need"] (defScope s__law_plain) := ⟨rfl, rfl, rfl, by decide +kernel, rfl, by decide +kernel, by decide +kernel⟩
theorem w__law_plain (G : Glob K mg) {k : Nat} {M : Mir} (O : Oks P w K mg base G k M) {f : Addr} {cdv : Value} {A : Around} {outer : List Env} {s : Shared} {H : Hp} {E : XK} (hr : Room k (A.deeper (envOfC "_law_plain" (defScope s__law_plain) s.heap.objs.size f cdv))) :
    QSs (cxOf CX0 P w K mg base n__law_plain "_law_plain" (defScope s__law_plain) f cdv A outer s H E).nox (defBody s__law_plain) (b__law_plain M) :=
  have nd := sc__law_plain.nd
  (s_cons (s_par 2 3 true true rfl nd rfl rfl (by decide) rfl rfl q_dnew (q_lst q_nil) (by rfl)) (s_cons (s_for PassesOwn.never rfl (i_seq (q_ev (q_var (pv 0)))) (g_tup 2 rfl (g_cons (g_name 4 nd rfl (by first | exact Or.inl rfl | exact Or.inr rfl)) (g_cons (g_name 5 nd rfl (by first | exact Or.inl rfl | exact Or.inr rfl)) g_nil))) (s_one (s_if (q_testC (o_eq (hu64 hr)) (q_var (pv 4)) (q_ve q_str) (nomark _)) (s_one (s_asg (q_callT c_tuple rfl G.z_tuple (by rfl) (q_rcons (q_ve (q_nv (q_callBN (c_sort rfl (hu64 hr)) rfl G.z_sorted (by rfl) (q_rcons (q_var (pv 3)) q_rnil)))) q_rnil)) (g_put 2 (hu64 hr) (pv 2) (q_ev (q_var (pv 5)))))) (s_one (s_drop (q_app 3 (pv 3) (q_ev (q_var (pv 5))))))))) (s_one (s_ret (q_tup (q_cons (q_callT c_tuple rfl G.z_tuple (by rfl) (q_rcons (q_var (pv 0)) q_rnil)) (q_cons (q_ev (q_var (pv 2))) (q_cons (q_ev (q_var (pv 1))) q_nil))))))))
theorem sc__law_formula : FnScope n__law_formula ["box", "letters", "deep"] (defScope s__law_formula) := ⟨rfl, rfl, rfl, by decide +kernel, rfl, by decide +kernel, by decide +kernel⟩
theorem w__law_formula (G : Glob K mg) {k : Nat} {M : Mir} (O : Oks P w K mg base G k M) {f : Addr} {cdv : Value} {A : Around} {outer : List Env} {s : Shared} {H : Hp} {E : XK} (hr : Room k (A.deeper (envOfC "_law_formula" (defScope s__law_formula) s.heap.objs.size f cdv))) :
    QSs (cxOf CX0 P w K mg base n__law_formula "_law_formula" (defScope s__law_formula) f cdv A outer s H E).nox (defBody s__law_formula) (b__law_formula M) :=
  have nd := sc__law_formula.nd
  (s_cons (s_set 3 nd rfl (Or.inl rfl) (q_callI 0 O.f__law_draw hr G.m__law_draw G.F__law_draw.kp G.B__law_draw (pv 0) (q_cons q_int q_nil) (len_cons len_nil) rfl)) (s_cons (s_if (q_w (q_or (q_testC (o_eq (hu64 hr)) (q_var (pv 2)) (q_ve q_int) (nomark _)) (q_or (q_testC (o_eq (hu64 hr)) (q_var (pv 3)) (q_ve q_int) (nomark _)) (q_or1 (q_testC (o_eq (hu64 hr)) (q_var (pv 1)) (q_ve (q_nv (q_lst q_nil))) (nomark _)))))) (s_cons (s_if (q_w (q_or (q_testC (o_eq (hu64 hr)) (q_var (pv 1)) (q_ve (q_nv (q_lst q_nil))) (nomark _)) (q_or1 (q_testC (o_eq (hu64 hr)) (q_ve (q_callI 0 O.f__law_draw hr G.m__law_draw G.F__law_draw.kp G.B__law_draw (pv 0) (q_cons q_int q_nil) (len_cons len_nil) rfl)) (q_ve q_int) (nomark _))))) (s_one (s_ret (q_tup (q_cons (q_callI 0 O.f__law_pick hr G.m__law_pick G.F__law_pick.kp G.B__law_pick (pv 0) (q_cons (q_nv (q_lst (q_cons q_str (q_cons q_str q_nil)))) q_nil) (len_cons len_nil) rfl) q_nil)))) s_nil) (s_one (s_ret (q_tup (q_cons q_str (q_cons (q_callI 0 O.f__law_pick hr G.m__law_pick G.F__law_pick.kp G.B__law_pick (pv 0) (q_cons (q_ev (q_var (pv 1))) q_nil) (len_cons len_nil) rfl) q_nil)))))) s_nil) (s_cons (s_if (q_testC (o_lt (hu64 hr)) (q_var (pv 3)) (q_ve q_int) (nomark _)) (s_one (s_ret (q_tup (q_cons q_str (q_cons (q_callI 0 O.f__law_formula hr G.m__law_formula G.F__law_formula.kp G.B__law_formula (pv 0) (q_cons (q_ev (q_var (pv 1))) (q_cons (q_bin (o_sub) (q_var (pv 2)) (q_ve q_int)) q_nil)) (len_cons (len_cons len_nil)) rfl) q_nil))))) s_nil) (s_cons (s_set 4 nd rfl (Or.inl rfl) (q_callI 0 O.f__law_formula hr G.m__law_formula G.F__law_formula.kp G.B__law_formula (pv 0) (q_cons (q_ev (q_var (pv 1))) (q_cons (q_bin (o_sub) (q_var (pv 2)) (q_ve q_int)) q_nil)) (len_cons (len_cons len_nil)) rfl)) (s_one (s_ret (q_tup (q_cons (q_callI 0 O.f__law_pick hr G.m__law_pick G.F__law_pick.kp G.B__law_pick (pv 0) (q_cons (q_nv (q_lst (q_cons q_str (q_cons q_str (q_cons q_str (q_cons q_str (q_cons q_str (q_cons q_str q_nil)))))))) q_nil) (len_cons len_nil) rfl) (q_cons (q_ev (q_var (pv 4))) (q_cons (q_callI 0 O.f__law_formula hr G.m__law_formula G.F__law_formula.kp G.B__law_formula (pv 0) (q_cons (q_ev (q_var (pv 1))) (q_cons (q_bin (o_sub) (q_var (pv 2)) (q_ve q_int)) q_nil)) (len_cons (len_cons len_nil)) rfl) q_nil))))))))))
theorem sc__law_worth : FnScope n__law_worth ["formula", "signs"] (defScope s__law_worth) := ⟨rfl, rfl, rfl, by decide +kernel, rfl, by decide +kernel, by decide +kernel⟩
theorem w__law_worth (G : Glob K mg) {k : Nat} {M : Mir} (O : Oks P w K mg base G k M) {f : Addr} {cdv : Value} {A : Around} {outer : List Env} {s : Shared} {H : Hp} {E : XK} (hr : Room k (A.deeper (envOfC "_law_worth" (defScope s__law_worth) s.heap.objs.size f cdv))) :
    QSs (cxOf CX0 P w K mg base n__law_worth "_law_worth" (defScope s__law_worth) f cdv A outer s H E).nox (defBody s__law_worth) (b__law_worth M) :=
  have nd := sc__law_worth.nd
  (s_cons (s_set 2 nd rfl (Or.inl rfl) (q_ix (o_ix (hu64 hr)) (q_var (pv 0)) (q_ve q_int) (fun _ _ => rfl))) (s_cons (s_if (q_testC (o_eq (hu64 hr)) (q_var (pv 2)) (q_ve q_str) (nomark _)) (s_one (s_ret (q_ix (o_ix (hu64 hr)) (q_var (pv 1)) (q_ve (q_ix (o_ix (hu64 hr)) (q_var (pv 0)) (q_ve q_int) (fun _ _ => rfl))) (fun _ _ => rfl)))) s_nil) (s_cons (s_if (q_testC (o_in (hu65 hr)) (q_var (pv 2)) (q_ve (q_nv (q_lst (q_cons q_str (q_cons q_str q_nil))))) (by with_unfolding_all rfl)) (s_one (s_ret (q_cmp (o_eq (hu64 hr)) (q_var (pv 2)) (q_ve q_str) (nomark _)))) s_nil) (s_cons (s_if (q_testC (o_in (hu65 hr)) (q_var (pv 2)) (q_ve (q_nv (q_lst (q_cons q_str (q_cons q_str q_nil))))) (by with_unfolding_all rfl)) (s_cons (s_setN 3 nd rfl (Or.inl rfl) (q_lst q_nil)) (s_cons (s_for PassesOwn.never rfl (i_seq (q_nv (q_lst (q_cons q_bl (q_cons q_bl q_nil))))) (g_name 4 nd rfl (by first | exact Or.inl rfl | exact Or.inr rfl)) (s_cons (s_setN 5 nd rfl (Or.inl rfl) (q_callTN (c_dict (hu64 hr)) rfl G.z_dict (by rfl) (q_rcons (q_var (pv 1)) q_rnil))) (s_cons (s_asg (q_ev (q_var (pv 4))) (g_put 5 (hu64 hr) (pv 5) (q_ix (o_ix (hu64 hr)) (q_var (pv 0)) (q_ve q_int) (fun _ _ => rfl)))) (s_one (s_drop (q_app 3 (pv 3) (q_call O.f__law_worth hr G.m__law_worth G.F__law_worth.kp G.B__law_worth (q_cons (q_ix (o_ix (hu64 hr)) (q_var (pv 0)) (q_ve q_int) (fun _ _ => rfl)) (q_cons (q_ev (q_var (pv 5))) q_nil)) (len_cons (len_cons len_nil)) rfl))))))) (s_one (s_ret (v_if (q_testC (o_eq (hu64 hr)) (q_var (pv 2)) (q_ve q_str) (nomark _)) (v_and (q_ix (o_ix (hu64 hr)) (q_var (pv 3)) (q_ve q_int) (fun _ _ => rfl)) (v_one (q_ix (o_ix (hu64 hr)) (q_var (pv 3)) (q_ve q_int) (fun _ _ => rfl)))) (v_or (q_ix (o_ix (hu64 hr)) (q_var (pv 3)) (q_ve q_int) (fun _ _ => rfl)) (v_one (q_ix (o_ix (hu64 hr)) (q_var (pv 3)) (q_ve q_int) (fun _ _ => rfl))))))))) s_nil) (s_cons (s_set 6 nd rfl (Or.inl rfl) (q_call O.f__law_worth hr G.m__law_worth G.F__law_worth.kp G.B__law_worth (q_cons (q_ix (o_ix (hu64 hr)) (q_var (pv 0)) (q_ve q_int) (fun _ _ => rfl)) (q_cons (q_ev (q_var (pv 1))) q_nil)) (len_cons (len_cons len_nil)) rfl)) (s_cons (s_if (q_testC (o_eq (hu64 hr)) (q_var (pv 2)) (q_ve q_str) (nomark _)) (s_one (s_ret (v_not (q_ev (q_var (pv 6)))))) s_nil) (s_cons (s_set 7 nd rfl (Or.inl rfl) (q_call O.f__law_worth hr G.m__law_worth G.F__law_worth.kp G.B__law_worth (q_cons (q_ix (o_ix (hu64 hr)) (q_var (pv 0)) (q_ve q_int) (fun _ _ => rfl)) (q_cons (q_ev (q_var (pv 1))) q_nil)) (len_cons (len_cons len_nil)) rfl)) (s_cons (s_if (q_testC (o_eq (hu64 hr)) (q_var (pv 2)) (q_ve q_str) (nomark _)) (s_one (s_ret (v_and (q_ev (q_var (pv 6))) (v_one (q_ev (q_var (pv 7))))))) s_nil) (s_cons (s_if (q_testC (o_eq (hu64 hr)) (q_var (pv 2)) (q_ve q_str) (nomark _)) (s_one (s_ret (v_or (q_ev (q_var (pv 6))) (v_one (q_ev (q_var (pv 7))))))) s_nil) (s_one (s_ret (v_if (q_testC (o_eq (hu64 hr)) (q_var (pv 2)) (q_ve q_str) (nomark _)) (v_or (q_ev (q_var (pv 7))) (v_one (v_not (q_ev (q_var (pv 6)))))) (q_cmp (o_eq (hu64 hr)) (q_var (pv 6)) (q_var (pv 7)) (nomark _))))))))))))))
theorem sc__law_all_signs : FnScope n__law_all_signs ["letters"] (defScope s__law_all_signs) := ⟨rfl, rfl, rfl, by decide +kernel, rfl, by decide +kernel, by decide +kernel⟩
theorem w__law_all_signs (G : Glob K mg) {k : Nat} {M : Mir} (O : Oks P w K mg base G k M) {f : Addr} {cdv : Value} {A : Around} {outer : List Env} {s : Shared} {H : Hp} {E : XK} (hr : Room k (A.deeper (envOfC "_law_all_signs" (defScope s__law_all_signs) s.heap.objs.size f cdv))) :
    QSs (cxOf CX0 P w K mg base n__law_all_signs "_law_all_signs" (defScope s__law_all_signs) f cdv A outer s H E).nox (defBody s__law_all_signs) (b__law_all_signs M) :=
  have nd := sc__law_all_signs.nd
  (s_cons (s_set 1 nd rfl (Or.inl rfl) (q_nv (q_lst (q_cons (q_nv q_dnew) q_nil)))) (s_cons (s_for PassesOwn.never rfl (i_seq (q_ev (q_var (pv 0)))) (g_name 2 nd rfl (by first | exact Or.inl rfl | exact Or.inr rfl)) (s_cons (s_setN 3 nd rfl (Or.inl rfl) (q_lst q_nil)) (s_cons (s_for PassesOwn.never rfl (i_seq (q_ev (q_var (pv 1)))) (g_name 4 nd rfl (by first | exact Or.inl rfl | exact Or.inr rfl)) (s_one (s_for PassesOwn.never rfl (i_seq (q_nv (q_lst (q_cons q_bl (q_cons q_bl q_nil))))) (g_name 5 nd rfl (by first | exact Or.inl rfl | exact Or.inr rfl)) (s_cons (s_setN 6 nd rfl (Or.inl rfl) (q_callTN (c_dict (hu64 hr)) rfl G.z_dict (by rfl) (q_rcons (q_var (pv 4)) q_rnil))) (s_cons (s_asg (q_ev (q_var (pv 5))) (g_put 6 (hu64 hr) (pv 6) (q_ev (q_var (pv 2))))) (s_one (s_drop (q_app 3 (pv 3) (q_ev (q_var (pv 6))))))))))) (s_one (s_set 1 nd rfl (Or.inl rfl) (q_ev (q_var (pv 3)))))))) (s_one (s_ret (q_ev (q_var (pv 1)))))))
theorem sc__law_orders : FnScope n__law_orders ["letters"] (defScope s__law_orders) := ⟨rfl, rfl, rfl, by decide +kernel, rfl, by decide +kernel, by decide +kernel⟩
theorem w__law_orders (G : Glob K mg) {k : Nat} {M : Mir} (O : Oks P w K mg base G k M) {f : Addr} {cdv : Value} {A : Around} {outer : List Env} {s : Shared} {H : Hp} {E : XK} (hr : Room k (A.deeper (envOfC "_law_orders" (defScope s__law_orders) s.heap.objs.size f cdv))) :
    QSs (cxOf CX0 P w K mg base n__law_orders "_law_orders" (defScope s__law_orders) f cdv A outer s H E).nox (defBody s__law_orders) (b__law_orders M) :=
  have nd := sc__law_orders.nd
  (s_cons (s_if (q_testC (o_eq (hu64 hr)) (q_var (pv 0)) (q_ve (q_nv (q_lst q_nil))) (nomark _)) (s_one (s_ret (q_nv (q_lst (q_cons (q_tup q_nil) q_nil))))) s_nil) (s_cons (s_set 1 nd rfl (Or.inl rfl) (q_nv (q_lst q_nil))) (s_cons (s_for PassesOwn.never rfl (i_seq (q_nv (q_callBN (c_sort rfl (hu64 hr)) rfl G.z_sorted (by rfl) (q_rcons (q_var (pv 0)) q_rnil)))) (g_name 2 nd rfl (by first | exact Or.inl rfl | exact Or.inr rfl)) (s_one (s_set 1 nd rfl (Or.inl rfl) (q_bin (o_add) (q_var (pv 1)) (q_ve (q_nv (q_lc (own := [("row", 3)]) rfl nd (blkOk_by (N := n__law_orders) (sc := defScope s__law_orders) (by decide +kernel)) (by decide) (i_seq (q_call O.f__law_orders hr G.m__law_orders G.F__law_orders.kp G.B__law_orders (q_cons (q_nv (q_lc (own := [("far", 4)]) rfl nd (blkOk_by (N := n__law_orders) (sc := defScope s__law_orders) (by decide +kernel)) (by decide) (i_seq (q_ev (q_var (pv 0)))) (fun _ _ _ _ _ => (g_name 4 nd rfl (by first | exact Or.inl rfl | exact Or.inr rfl))) (fun _ _ _ _ _ => (ts_one (q_testC (o_ne (hu64 hr)) (q_var (pv 4)) (q_var (pv 2)) (nomark _)))) (fun _ _ _ _ _ => (q_ev (q_var (pv 4)))))) q_nil) (len_cons len_nil) rfl)) (fun _ _ _ _ _ => (g_name 3 nd rfl (by first | exact Or.inl rfl | exact Or.inr rfl))) (fun _ _ _ _ _ => ts_nil) (fun _ _ _ _ _ => (q_bin (o_add) (q_ve (q_tup (q_cons (q_ev (q_var (pv 2))) q_nil))) (q_var (pv 3))))))))))) (s_one (s_ret (q_ev (q_var (pv 1))))))))
theorem sc__law_sides : FnScope n__law_sides ["letters", "sides", "need"] (defScope s__law_sides) := ⟨rfl, rfl, rfl, by decide +kernel, rfl, by decide +kernel, by decide +kernel⟩
theorem w__law_sides (G : Glob K mg) {k : Nat} {M : Mir} (O : Oks P w K mg base G k M) {f : Addr} {cdv : Value} {A : Around} {outer : List Env} {s : Shared} {H : Hp} {E : XK} (hr : Room k (A.deeper (envOfC "_law_sides" (defScope s__law_sides) s.heap.objs.size f cdv))) :
    QSs (cxOf CX0 P w K mg base n__law_sides "_law_sides" (defScope s__law_sides) f cdv A outer s H E).nox (defBody s__law_sides) (b__law_sides M) :=
  have nd := sc__law_sides.nd
  (s_cons (s_setN 3 nd rfl (Or.inr rfl) q_dnew) (s_cons (s_for PassesOwn.never rfl (i_seq (q_call O.f__law_all_signs hr G.m__law_all_signs G.F__law_all_signs.kp G.B__law_all_signs (q_cons (q_ev (q_var (pv 0))) q_nil) (len_cons len_nil) rfl)) (g_name 4 nd rfl (by first | exact Or.inl rfl | exact Or.inr rfl)) (s_one (s_asg (q_call O.f__law_worth hr G.m__law_worth G.F__law_worth.kp G.B__law_worth (q_cons (q_ev (q_var (pv 2))) (q_cons (q_ev (q_var (pv 4))) q_nil)) (len_cons (len_cons len_nil)) rfl) (g_put 3 (hu64 hr) (pv 3) (q_callT c_tuple rfl G.z_tuple (by rfl) (q_rcons (q_ve (q_nv (q_lc (own := [("letter", 5)]) rfl nd (blkOk_by (N := n__law_sides) (sc := defScope s__law_sides) (by decide +kernel)) (by decide) (i_seq (q_ev (q_var (pv 0)))) (fun _ _ _ _ _ => (g_name 5 nd rfl (by first | exact Or.inl rfl | exact Or.inr rfl))) (fun _ _ _ _ _ => ts_nil) (fun _ _ _ _ _ => (q_ix (o_ix (hu64 hr)) (q_var (pv 4)) (q_var (pv 5)) (fun _ _ => rfl)))))) q_rnil)))))) (s_one (s_ret (q_nv (q_lc (own := [("order", 6)]) rfl nd (blkOk_by (N := n__law_sides) (sc := defScope s__law_sides) (by decide +kernel)) (by decide) (i_seq (q_call O.f__law_orders hr G.m__law_orders G.F__law_orders.kp G.B__law_orders (q_cons (q_ev (q_var (pv 0))) q_nil) (len_cons len_nil) rfl)) (fun _ _ _ _ _ => (g_name 6 nd rfl (by first | exact Or.inl rfl | exact Or.inr rfl))) (fun _ _ _ _ _ => ts_nil) (fun _ _ _ _ _ => (q_tup (q_cons (q_ev (q_var (pv 6))) (q_cons (v_if (q_truth (q_ve (q_call O.f__law_chosen hr G.m__law_chosen G.F__law_chosen.kp G.B__law_chosen (q_cons (q_ev (q_var (pv 0))) (q_cons (q_ev (q_var (pv 1))) (q_cons (q_ev (q_var (pv 6))) (q_cons (q_ev (q_var (pv 3))) q_nil)))) (len_cons (len_cons (len_cons (len_cons len_nil)))) rfl))) q_str q_str) q_nil))))))))))
theorem sc__law_chosen : FnScope n__law_chosen ["letters", "sides", "order", "tables"] (defScope s__law_chosen) := ⟨rfl, rfl, rfl, by decide +kernel, rfl, by decide +kernel, by decide +kernel⟩
theorem w__law_chosen (G : Glob K mg) {k : Nat} {M : Mir} (O : Oks P w K mg base G k M) {f : Addr} {cdv : Value} {A : Around} {outer : List Env} {s : Shared} {H : Hp} {E : XK} (hr : Room k (A.deeper (envOfC "_law_chosen" (defScope s__law_chosen) s.heap.objs.size f cdv))) :
    QSs (cxOf CX0 P w K mg base n__law_chosen "_law_chosen" (defScope s__law_chosen) f cdv A outer s H E).nox (defBody s__law_chosen) (b__law_chosen M) :=
  have nd := sc__law_chosen.nd
  (s_cons (s_par 4 5 false true rfl nd rfl rfl (by decide) rfl rfl (q_nv (q_callTN (c_dict (hu64 hr)) rfl G.z_dict (by rfl) (q_rcons (q_var (pv 3)) q_rnil))) (q_callTN (c_list rfl) rfl G.z_list (by rfl) (q_rcons (q_var (pv 0)) q_rnil)) (by rfl)) (s_cons (s_for PassesOwn.never rfl (i_seq (q_back (q_ve (q_nv (q_callTN (c_list rfl) rfl G.z_list (by rfl) (q_rcons (q_var (pv 2)) q_rnil)))))) (g_name 6 nd rfl (by first | exact Or.inl rfl | exact Or.inr rfl)) (s_cons (s_par 7 8 false true rfl nd rfl rfl (by decide) rfl rfl (q_index (q_var (pv 5)) (q_var (pv 6))) q_dnew (by rfl)) (s_cons (s_for PassesOwn.never rfl (i_seq (q_nv (q_callTN (c_list rfl) rfl G.z_list (by rfl) (q_rcons (q_var (pv 4)) q_rnil)))) (g_name 9 nd rfl (by first | exact Or.inl rfl | exact Or.inr rfl)) (s_one (s_if (q_not (q_truth (q_ve (q_ix (o_ix (hu64 hr)) (q_var (pv 9)) (q_var (pv 7)) (fun _ _ => rfl))))) (s_cons (s_par 10 11 false false rfl nd rfl rfl (by decide) rfl rfl (q_ix (o_ix (hu64 hr)) (q_var (pv 4)) (q_var (pv 9)) (fun _ _ => rfl)) (q_ix (o_ix (hu64 hr)) (q_var (pv 4)) (q_ve (q_bin (o_add) (q_ve (q_bin (o_add) (q_ve (q_sl (q_var (pv 9)) o_no (o_yes (q_ev (q_var (pv 7)))))) (q_ve (q_tup (q_cons q_bl q_nil))))) (q_ve (q_sl (q_var (pv 9)) (o_yes (q_bin (o_add) (q_var (pv 7)) (q_ve q_int))) o_no)))) (fun _ _ => rfl)) (by rfl)) (s_one (s_asg (v_if (q_testC (o_eq (hu64 hr)) (q_ve (q_ix (o_ix (hu64 hr)) (q_var (pv 1)) (q_var (pv 6)) (fun _ _ => rfl))) (q_ve q_str) (nomark _)) (v_and (q_ev (q_var (pv 10))) (v_one (q_ev (q_var (pv 11))))) (v_or (q_ev (q_var (pv 10))) (v_one (q_ev (q_var (pv 11)))))) (g_put 8 (hu64 hr) (pv 8) (q_bin (o_add) (q_ve (q_sl (q_var (pv 9)) o_no (o_yes (q_ev (q_var (pv 7)))))) (q_ve (q_sl (q_var (pv 9)) (o_yes (q_bin (o_add) (q_var (pv 7)) (q_ve q_int))) o_no))))))) s_nil))) (s_cons (s_set 4 nd rfl (Or.inl rfl) (q_ev (q_var (pv 8)))) (s_one (s_drop (q_popAt 5 (pv 5) (q_ev (q_var (pv 7)))))))))) (s_one (s_ret (q_ix (o_ix (hu64 hr)) (q_var (pv 4)) (q_ve (q_tup q_nil)) (fun _ _ => rfl))))))
theorem sc__law_blocks : FnScope n__law_blocks ["turns"] (defScope s__law_blocks) := ⟨rfl, rfl, rfl, by decide +kernel, rfl, by decide +kernel, by decide +kernel⟩
theorem w__law_blocks (G : Glob K mg) {k : Nat} {M : Mir} (O : Oks P w K mg base G k M) {f : Addr} {cdv : Value} {A : Around} {outer : List Env} {s : Shared} {H : Hp} {E : XK} (hr : Room k (A.deeper (envOfC "_law_blocks" (defScope s__law_blocks) s.heap.objs.size f cdv))) :
    QSs (cxOf CX0 P w K mg base n__law_blocks "_law_blocks" (defScope s__law_blocks) f cdv A outer s H E).nox (defBody s__law_blocks) (b__law_blocks M) :=
  have nd := sc__law_blocks.nd
  (s_cons (s_par 1 2 false true rfl nd rfl rfl (by decide) rfl rfl (q_nv (q_lst q_nil)) (q_lst q_nil) (by rfl)) (s_cons (s_for PassesOwn.never rfl (i_seq (q_ev (q_var (pv 0)))) (g_tup 2 rfl (g_cons (g_name 3 nd rfl (by first | exact Or.inl rfl | exact Or.inr rfl)) (g_cons (g_name 4 nd rfl (by first | exact Or.inl rfl | exact Or.inr rfl)) g_nil))) (s_cons (s_if (q_w (q_and (q_testC (o_ne (hu64 hr)) (q_var (pv 2)) (q_ve (q_nv (q_lst q_nil))) (nomark _)) (q_and1 (q_testC (o_ne (hu64 hr)) (q_ve (q_ix (o_ix (hu64 hr)) (q_ve (q_ix (o_ix (hu64 hr)) (q_var (pv 2)) (q_ve q_int) (fun _ _ => rfl))) (q_ve q_int) (fun _ _ => rfl))) (q_var (pv 3)) (nomark _))))) (s_one (s_par 1 2 false true rfl nd rfl rfl (by decide) rfl rfl (q_bin (o_add) (q_var (pv 1)) (q_ve (q_nv (q_callBN (c_sort rfl (hu64 hr)) rfl G.z_sorted (by rfl) (q_rcons (q_var (pv 2)) q_rnil))))) (q_lst q_nil) (by rfl))) s_nil) (s_one (s_drop (q_app 2 (pv 2) (q_tup (q_cons (q_ev (q_var (pv 3))) (q_cons (q_ev (q_var (pv 4))) q_nil)))))))) (s_one (s_ret (q_bin (o_add) (q_var (pv 1)) (q_ve (q_nv (q_callBN (c_sort rfl (hu64 hr)) rfl G.z_sorted (by rfl) (q_rcons (q_var (pv 2)) q_rnil)))))))))
theorem sc_law : FnScope n_law ["script"] (defScope s_law) := ⟨rfl, rfl, rfl, by decide +kernel, rfl, by decide +kernel, by decide +kernel⟩
theorem w_law (G : Glob K mg) {k : Nat} {M : Mir} (O : Oks P w K mg base G k M) {f : Addr} {cdv : Value} {A : Around} {outer : List Env} {s : Shared} {H : Hp} {E : XK} (hr : Room k (A.deeper (envOfC "law" (defScope s_law) s.heap.objs.size f cdv))) :
    QSs (cxOf CX0 P w K mg base n_law "law" (defScope s_law) f cdv A outer s H E).nox (defBody s_law) (b_law M) :=
  have nd := sc_law.nd
  (s_cons (s_setN 1 nd rfl (Or.inl rfl) (q_lst (q_cons (q_call O.f__law_digits hr G.m__law_digits G.F__law_digits.kp G.B__law_digits (q_cons (q_ev (q_var (pv 0))) (q_cons q_int (q_cons q_int q_nil))) (len_cons (len_cons (len_cons len_nil))) rfl) (q_cons q_int q_nil)))) (s_cons (s_set 2 nd rfl (Or.inl rfl) (q_sl (q_ve (q_nv (q_lst (q_cons q_str (q_cons q_str (q_cons q_str (q_cons q_str (q_cons q_str q_nil)))))))) o_no (o_yes (q_bin (o_add) (q_ve q_int) (q_ve (q_callI 1 O.f__law_draw hr G.m__law_draw G.F__law_draw.kp G.B__law_draw (pv 1) (q_cons q_int q_nil) (len_cons len_nil) rfl)))))) (s_cons (s_set 3 nd rfl (Or.inl rfl) (q_callI 1 O.f__law_turns hr G.m__law_turns G.F__law_turns.kp G.B__law_turns (pv 1) (q_cons (q_ev (q_var (pv 2))) q_nil) (len_cons len_nil) rfl)) (s_cons (s_set 4 nd rfl (Or.inl rfl) (q_callI 1 O.f__law_formula hr G.m__law_formula G.F__law_formula.kp G.B__law_formula (pv 1) (q_cons (q_ev (q_var (pv 2))) (q_cons q_int q_nil)) (len_cons (len_cons len_nil)) rfl)) (s_cons (s_parT 5 6 false true rfl nd rfl rfl (Or.inl rfl) (Or.inr rfl) (q_call O.f__law_plain hr G.m__law_plain G.F__law_plain.kp G.B__law_plain (q_cons (q_ev (q_var (pv 3))) (q_cons (q_ev (q_var (pv 4))) q_nil)) (len_cons (len_cons len_nil)) rfl) q_dnew) (s_cons (s_for PassesOwn.never rfl (i_seq (q_ev (q_var (pv 3)))) (g_tup 2 rfl (g_cons (g_name 7 nd rfl (by first | exact Or.inl rfl | exact Or.inr rfl)) (g_cons (g_name 8 nd rfl (by first | exact Or.inl rfl | exact Or.inr rfl)) g_nil))) (s_one (s_asg (q_ev (q_var (pv 7))) (g_put 6 (hu64 hr) (pv 6) (q_ev (q_var (pv 8))))))) (s_cons (s_set 9 nd rfl (Or.inl rfl) (q_call O.f__law_sides hr G.m__law_sides G.F__law_sides.kp G.B__law_sides (q_cons (q_ev (q_var (pv 2))) (q_cons (q_ev (q_var (pv 6))) (q_cons (q_ev (q_var (pv 4))) q_nil))) (len_cons (len_cons (len_cons len_nil))) rfl)) (s_cons (s_if (q_not (q_truth (q_ve (q_call O.f__law_same hr G.m__law_same G.F__law_same.kp G.B__law_same (q_cons (q_call O.f_all_orders hr G.m_all_orders G.F_all_orders.kp G.B_all_orders (q_cons (q_ev (q_var (pv 5))) q_nil) (len_cons len_nil) rfl) (q_cons (q_ev (q_var (pv 9))) q_nil)) (len_cons (len_cons len_nil)) rfl)))) (s_one (s_ret q_bl)) s_nil) (s_cons (s_for PassesOwn.never rfl (i_seq (q_nv (q_lst (q_cons q_str (q_cons q_str q_nil))))) (g_name 7 nd rfl (by first | exact Or.inl rfl | exact Or.inr rfl)) (s_cons (s_setLc 10 (own := [("order", 12), ("far", 13)]) rfl nd rfl rfl (sw_true rfl rfl rfl (by decide +kernel)) (blkOk_by (N := n_law) (sc := defScope s_law) (by decide +kernel)) (by decide) (i_seq (q_ev (q_var (pv 9)))) (fun _ _ _ _ _ => (g_tup 2 rfl (g_cons (g_name 12 nd rfl (by first | exact Or.inl rfl | exact Or.inr rfl)) (g_cons (g_name 13 nd rfl (by first | exact Or.inl rfl | exact Or.inr rfl)) g_nil)))) (fun _ _ _ _ _ => (ts_one (q_testC (o_eq (hu64 hr)) (q_var (pv 13)) (q_var (pv 7)) (nomark _)))) (fun _ _ _ _ _ => (q_ev (q_var (pv 12))))) (s_one (s_if (q_not (q_truth (q_ve (q_call O.f__law_same hr G.m__law_same G.F__law_same.kp G.B__law_same (q_cons (q_call O.f_best_for hr G.m_best_for G.F_best_for.kp G.B_best_for (q_cons (q_ev (q_var (pv 5))) (q_cons (q_ev (q_var (pv 7))) q_nil)) (len_cons (len_cons len_nil)) rfl) (q_cons (v_if (q_testC (o_ne (hu64 hr)) (q_var (pv 10)) (q_ve (q_nv (q_lst q_nil))) (nomark _)) (q_ix (o_ix (hu64 hr)) (q_var (pv 10)) (q_ve q_int) (fun _ _ => rfl)) q_non) q_nil)) (len_cons (len_cons len_nil)) rfl)))) (s_one (s_ret q_bl)) s_nil)))) (s_cons (s_setN 11 nd rfl (Or.inl rfl) (q_lst q_nil)) (s_cons (s_for PassesOwn.never rfl (i_seq (q_ev (q_var (pv 9)))) (g_tup 2 rfl (g_cons (g_name 12 nd rfl (by first | exact Or.inl rfl | exact Or.inr rfl)) (g_cons (g_name 13 nd rfl (by first | exact Or.inl rfl | exact Or.inr rfl)) g_nil))) (s_one (s_if (q_testC (o_eq (hu64 hr)) (q_var (pv 13)) (q_ve q_str) (nomark _)) (s_one (s_drop (q_app 11 (pv 11) (q_tup (q_cons (q_callB c_len rfl G.z_len (by rfl) (q_rcons (q_ve (q_nv (q_lc (own := [("k", 16)]) rfl nd (blkOk_by (N := n_law) (sc := defScope s_law) (by decide +kernel)) (by decide) (i_rng2 rfl G.z_range q_int (q_callB c_len rfl G.z_len (by rfl) (q_rcons (q_var (pv 12)) q_rnil))) (fun _ _ _ _ _ => (g_name 16 nd rfl (by first | exact Or.inl rfl | exact Or.inr rfl))) (fun _ _ _ _ _ => (ts_one (q_testC (o_ne (hu64 hr)) (q_ve (q_ix (o_ix (hu64 hr)) (q_var (pv 6)) (q_ve (q_ix (o_ix (hu64 hr)) (q_var (pv 12)) (q_var (pv 16)) (fun _ _ => rfl))) (fun _ _ => rfl))) (q_ve (q_ix (o_ix (hu64 hr)) (q_var (pv 6)) (q_ve (q_ix (o_ix (hu64 hr)) (q_var (pv 12)) (q_ve (q_bin (o_sub) (q_var (pv 16)) (q_ve q_int))) (fun _ _ => rfl))) (fun _ _ => rfl))) (nomark _)))) (fun _ _ _ _ _ => (q_ev (q_var (pv 16))))))) q_rnil)) (q_cons (q_ev (q_var (pv 12))) q_nil)))))) s_nil))) (s_cons (s_if (q_not (q_truth (q_ve (q_call O.f__law_same hr G.m__law_same G.F__law_same.kp G.B__law_same (q_cons (q_call O.f_fewest_changes hr G.m_fewest_changes G.F_fewest_changes.kp G.B_fewest_changes (q_cons (q_ev (q_var (pv 5))) q_nil) (len_cons len_nil) rfl) (q_cons (v_if (q_testC (o_ne (hu64 hr)) (q_var (pv 11)) (q_ve (q_nv (q_lst q_nil))) (nomark _)) (q_callB (c_min1 rfl (hu64 hr)) rfl G.z_min (by rfl) (q_rcons (q_var (pv 11)) q_rnil)) q_non) q_nil)) (len_cons (len_cons len_nil)) rfl)))) (s_one (s_ret q_bl)) s_nil) (s_cons (s_if (q_not (q_truth (q_ve (q_call O.f__law_same hr G.m__law_same G.F__law_same.kp G.B__law_same (q_cons (q_call O.f_in_letter_order hr G.m_in_letter_order G.F_in_letter_order.kp G.B_in_letter_order (q_cons (q_ev (q_var (pv 5))) q_nil) (len_cons len_nil) rfl) (q_cons (q_call O.f__law_plain hr G.m__law_plain G.F__law_plain.kp G.B__law_plain (q_cons (q_call O.f__law_blocks hr G.m__law_blocks G.F__law_blocks.kp G.B__law_blocks (q_cons (q_ev (q_var (pv 3))) q_nil) (len_cons len_nil) rfl) (q_cons (q_ev (q_var (pv 4))) q_nil)) (len_cons (len_cons len_nil)) rfl) q_nil)) (len_cons (len_cons len_nil)) rfl)))) (s_one (s_ret q_bl)) s_nil) (s_cons (s_set 14 nd rfl (Or.inl rfl) (q_callI 1 O.f__law_draw hr G.m__law_draw G.F__law_draw.kp G.B__law_draw (pv 1) (q_cons (q_bin (o_sub) (q_ve (q_callB c_len rfl G.z_len (by rfl) (q_rcons (q_var (pv 2)) q_rnil))) (q_ve q_int)) q_nil) (len_cons len_nil) rfl)) (s_cons (s_set 15 nd rfl (Or.inl rfl) (q_bin (o_add) (q_ve (q_bin (o_add) (q_ve (q_sl (q_var (pv 3)) o_no (o_yes (q_ev (q_var (pv 14)))))) (q_ve (q_nv (q_lst (q_cons (q_ix (o_ix (hu64 hr)) (q_var (pv 3)) (q_ve (q_bin (o_add) (q_var (pv 14)) (q_ve q_int))) (fun _ _ => rfl)) (q_cons (q_ix (o_ix (hu64 hr)) (q_var (pv 3)) (q_var (pv 14)) (fun _ _ => rfl)) q_nil))))))) (q_ve (q_sl (q_var (pv 3)) (o_yes (q_bin (o_add) (q_var (pv 14)) (q_ve q_int))) o_no)))) (s_one (s_ret (q_call O.f__law_same hr G.m__law_same G.F__law_same.kp G.B__law_same (q_cons (q_call O.f_swapped hr G.m_swapped G.F_swapped.kp G.B_swapped (q_cons (q_ev (q_var (pv 5))) (q_cons (q_ev (q_var (pv 14))) q_nil)) (len_cons (len_cons len_nil)) rfl) (q_cons (q_call O.f__law_plain hr G.m__law_plain G.F__law_plain.kp G.B__law_plain (q_cons (q_ev (q_var (pv 15))) (q_cons (q_ev (q_var (pv 4))) q_nil)) (len_cons (len_cons len_nil)) rfl) q_nil)) (len_cons (len_cons len_nil)) rfl))))))))))))))))))
theorem ok_zero (G : Glob K mg) : Oks P w K mg base G 0 (mir 0) where
  f_lot := fn_none
  f_worth := fn_none
  f_with_sign := fn_none
  f_ahead_of := fn_none
  f_plain_game := fn_none
  f_blocks := fn_none
  f_closed := fn_none
  f_winner := fn_none
  f_swapped := fn_none
  f_in_letter_order := fn_none
  f_all_orders := fn_none
  f_best_for := fn_none
  f_fewest_changes := fn_none
  f__law_cell := fn_none
  f__law_digits := fn_none
  f__law_draw := io_none
  f__law_pick := io_none
  f__law_mixed := io_none
  f__law_same := fn_none
  f__law_turns := io_none
  f__law_plain := fn_none
  f__law_formula := io_none
  f__law_worth := fn_none
  f__law_all_signs := fn_none
  f__law_orders := fn_none
  f__law_sides := fn_none
  f__law_chosen := fn_none
  f__law_blocks := fn_none
  f_law := fn_none
theorem ok_next (G : Glob K mg) {k : Nat} {M : Mir} (O : Oks P w K mg base G k M) : Oks P w K mg base G (k + 1) M.next where
  f_lot := def_pure G.F_lot sc_lot fun _ _ _ _ _ _ hr => w_lot G O hr
  f_worth := def_pure G.F_worth sc_worth fun _ _ _ _ _ _ hr => w_worth G O hr
  f_with_sign := def_pure G.F_with_sign sc_with_sign fun _ _ _ _ _ _ hr => w_with_sign G O hr
  f_ahead_of := def_pure G.F_ahead_of sc_ahead_of fun _ _ _ _ _ _ hr => w_ahead_of G O hr
  f_plain_game := def_pure G.F_plain_game sc_plain_game fun _ _ _ _ _ _ hr => w_plain_game G O hr
  f_blocks := def_pure G.F_blocks sc_blocks fun _ _ _ _ _ _ hr => w_blocks G O hr
  f_closed := def_pure G.F_closed sc_closed fun _ _ _ _ _ _ hr => w_closed G O hr
  f_winner := def_pure G.F_winner sc_winner fun _ _ _ _ _ _ hr => w_winner G O hr
  f_swapped := def_pure G.F_swapped sc_swapped fun _ _ _ _ _ _ hr => w_swapped G O hr
  f_in_letter_order := def_pure G.F_in_letter_order sc_in_letter_order fun _ _ _ _ _ _ hr => w_in_letter_order G O hr
  f_all_orders := def_pure G.F_all_orders sc_all_orders fun _ _ _ _ _ _ hr => w_all_orders G O hr
  f_best_for := def_pure G.F_best_for sc_best_for fun _ _ _ _ _ _ hr => w_best_for G O hr
  f_fewest_changes := def_pure G.F_fewest_changes sc_fewest_changes fun _ _ _ _ _ _ hr => w_fewest_changes G O hr
  f__law_cell := def_pure G.F__law_cell sc__law_cell fun _ _ _ _ _ _ hr => w__law_cell G O hr
  f__law_digits := def_pure G.F__law_digits sc__law_digits fun _ _ _ _ _ _ hr => w__law_digits G O hr
  f__law_draw := def_io G.F__law_draw sc__law_draw (by decide) fun _ _ _ _ _ _ hr => w__law_draw G O hr
  f__law_pick := def_io G.F__law_pick sc__law_pick (by decide) fun _ _ _ _ _ _ hr => w__law_pick G O hr
  f__law_mixed := def_io G.F__law_mixed sc__law_mixed (by decide) fun _ _ _ _ _ _ hr => w__law_mixed G O hr
  f__law_same := def_pure G.F__law_same sc__law_same fun _ _ _ _ _ _ hr => w__law_same G O hr
  f__law_turns := def_io G.F__law_turns sc__law_turns (by decide) fun _ _ _ _ _ _ hr => w__law_turns G O hr
  f__law_plain := def_pure G.F__law_plain sc__law_plain fun _ _ _ _ _ _ hr => w__law_plain G O hr
  f__law_formula := def_io G.F__law_formula sc__law_formula (by decide) fun _ _ _ _ _ _ hr => w__law_formula G O hr
  f__law_worth := def_pure G.F__law_worth sc__law_worth fun _ _ _ _ _ _ hr => w__law_worth G O hr
  f__law_all_signs := def_pure G.F__law_all_signs sc__law_all_signs fun _ _ _ _ _ _ hr => w__law_all_signs G O hr
  f__law_orders := def_pure G.F__law_orders sc__law_orders fun _ _ _ _ _ _ hr => w__law_orders G O hr
  f__law_sides := def_pure G.F__law_sides sc__law_sides fun _ _ _ _ _ _ hr => w__law_sides G O hr
  f__law_chosen := def_pure G.F__law_chosen sc__law_chosen fun _ _ _ _ _ _ hr => w__law_chosen G O hr
  f__law_blocks := def_pure G.F__law_blocks sc__law_blocks fun _ _ _ _ _ _ hr => w__law_blocks G O hr
  f_law := def_pure G.F_law sc_law fun _ _ _ _ _ _ hr => w_law G O hr
theorem ok_all (G : Glob K mg) : ∀ k, Oks P w K mg base G k (mir k)
  | 0 => ok_zero G
  | k + 1 => ok_next G (ok_all G k)
end
end K11
namespace K11
open PySem PySem.Spec PyProof.Rows L2 PL
abbrev Dt := PyData
abbrev Sg0 := List (Str × Bool)
/-- signs as a dict -/
def sg (s : Sg0) : Dt := .dict (s.map fun p => (.str p.1, .bool p.2))
def put (x : Str) (b : Bool) : Sg0 → Sg0
  | [] => [(x, b)]
  | (y, c) :: r => if y = x then (y, b) :: r else (y, c) :: put x b r
def look0 (x : Str) : Sg0 → Option Bool
  | [] => none
  | (y, c) :: r => if y = x then some c else look0 x r
theorem look_sg (x : Str) : ∀ s : Sg0, look (.str x) (s.map fun p => ((.str p.1 : Dt), (.bool p.2 : Dt))) = (look0 x s).map .bool
  | [] => rfl
  | (y, c) :: r => by
    rw [List.map_cons]
    unfold look look0
    dsimp only [dKey]
    by_cases h : y = x
    · subst h; simp
    · have h' : ¬ (Sum.inr y : Key) = Sum.inr x := fun z => h (Sum.inr.inj z)
      rw [if_neg h', if_neg h, look_sg x r]
theorem put_sg (x : Str) (b : Bool) : ∀ s : Sg0, putKs (.str x) (.bool b) (s.map fun p => ((.str p.1 : Dt), (.bool p.2 : Dt))) = (put x b s).map fun p => ((.str p.1 : Dt), (.bool p.2 : Dt))
  | [] => rfl
  | (y, c) :: r => by
    rw [List.map_cons]
    unfold putKs put
    dsimp only [dKey]
    by_cases h : y = x
    · subst h; simp
    · have h' : ¬ (Sum.inr y : Key) = Sum.inr x := fun z => h (Sum.inr.inj z)
      rw [if_neg h', if_neg h, put_sg x b r, List.map_cons]
theorem hdK_nil : hdK [] = true := rfl
theorem hdK_i (i : Int) (d : Dt) (r : List (Dt × Dt)) : hdK ((.int i, d) :: r) = true := rfl
theorem hdK_s (x : Str) (d : Dt) (r : List (Dt × Dt)) : hdK ((.str x, d) :: r) = true := rfl
theorem hk_sg (s : Sg0) : hdK (s.map fun p => ((.str p.1 : Dt), (.bool p.2 : Dt))) = true := by cases s <;> rfl
theorem e_with_sign (M : Mir) (s : Sg0) (x : Str) (b : Bool) (h : s.length < sizeLine) : M.next.f_with_sign [sg s, .str x, .bool b] = some (sg (put x b s)) := by
  have h' : (s.map fun p => ((.str p.1 : Dt), (.bool p.2 : Dt))).length < sizeLine := by rw [List.length_map]; exact h
  have e := put_sg x b s
  unfold sg
  simp (decide := true) only [b_with_sign, Mir.next, dPure, dIo, endI, args0, argsI, fSeq, fIf, fSet, fSetN, fRet, fRetN, fDrop, fSkip, fAsg, fPar, xMk, fBool, fTruth, truth, fNot, fAnd, fOr, fBin, fUn, fVar, vE, eV, fzr, fC, rd, fCallP, fCallI, fCons, fNil, rCons, rNil, fCall, rds, g1, fTup, fLst, vNot, vAnd, vOr, vIf, heldAt, heldL, PL.putAt, Sl.held, Sl.put, fMut, mApp, gN, gTn, gsCons, gsNil, gPut, putD, aSeq, seqD, fYes, okW, wipeA, backA, fFor, fLc, fDc, fSc, fSortSet, gIsi, isK, gLen, gIntT, gTuple, gList, gDict, hdK_nil, hdK_i, hdK_s, dKey, gIs, gIsNot, isD, gEq_str, gNe_str, gEq_int, gNe_int, gEq_bool, gNe_bool, gIx_t0, gIx_t1, gIx_t2, gIx_l0, gIx_l1, gIx_l2, gIn2, gInL2, List.length_cons, List.length_nil, List.map_cons, List.map_nil, List.replicate, List.cons_append, List.nil_append, List.getElem?_cons_zero, List.getElem?_cons_succ, List.set_cons_zero, List.set_cons_succ, Nat.reduceAdd, Nat.reduceSub, Nat.reduceEqDiff, List.all_cons, List.all_nil, Option.isNone, Option.map_some, Option.map_none, Bool.and_self, Bool.and_true, Bool.true_and, Bool.and_false, Bool.false_and, Bool.or_true, Bool.true_or, Bool.or_false, Bool.false_or, Bool.or_self, Bool.not_true, Bool.not_false, if_true, if_false, reduceIte, Bool.false_eq_true, decide_true, decide_false, ite_true, ite_false, h', e, hk_sg]

/-! ### formulas -/
inductive Op | and | or | thn | same
def Op.nm : Op → Str
  | .and => "and" | .or => "or" | .thn => "then" | .same => "same"
def Op.ap : Op → Bool → Bool → Bool
  | .and, a, b => a && b
  | .or, a, b => a || b
  | .thn, a, b => !a || b
  | .same, a, b => a == b
inductive Fm where
  | lit (x : Str)
  | con (b : Bool)
  | not (f : Fm)
  | bin (o : Op) (f g : Fm)
  | all (x : Str) (f : Fm)
  | som (x : Str) (f : Fm)
def Fm.d : Fm → Dt
  | .lit x => .tuple [.str "letter", .str x]
  | .con true => .tuple [.str "true"]
  | .con false => .tuple [.str "false"]
  | .not f => .tuple [.str "not", f.d]
  | .bin o f g => .tuple [.str o.nm, f.d, g.d]
  | .all x f => .tuple [.str "all", .str x, f.d]
  | .som x f => .tuple [.str "some", .str x, f.d]
def Fm.dep : Fm → Nat
  | .lit _ => 0
  | .con _ => 0
  | .not f => f.dep + 1
  | .bin _ f g => max f.dep g.dep + 1
  | .all _ f => f.dep + 1
  | .som _ f => f.dep + 1
def Fm.ev : Fm → (Str → Bool) → Bool
  | .lit x, s => s x
  | .con b, _ => b
  | .not f, s => !f.ev s
  | .bin o f g, s => o.ap (f.ev s) (g.ev s)
  | .all x f, s => f.ev (fun y => if y = x then false else s y) && f.ev (fun y => if y = x then true else s y)
  | .som x f, s => f.ev (fun y => if y = x then false else s y) || f.ev (fun y => if y = x then true else s y)
/-- its letters stand in the signs, or are bound -/
def Fm.inn : Fm → (Str → Bool) → Bool
  | .lit x, s => s x
  | .con _, _ => true
  | .not f, s => f.inn s
  | .bin _ f g, s => f.inn s && g.inn s
  | .all x f, s => f.inn (fun y => decide (y = x) || s y)
  | .som x f, s => f.inn (fun y => decide (y = x) || s y)
def env (s : Sg0) (x : Str) : Bool := (look0 x s).getD false
def has (s : Sg0) (x : Str) : Bool := (look0 x s).isSome
theorem look_put (x y : Str) (b : Bool) : ∀ s : Sg0, look0 y (put x b s) = if y = x then some b else look0 y s
  | [] => by
    show (if x = y then some b else look0 y []) = _
    by_cases h : x = y
    · subst h; simp
    · have h' : ¬ y = x := fun z => h z.symm
      rw [if_neg h, if_neg h']
  | (z, c) :: r => by
    unfold put
    by_cases h : z = x
    · subst h
      rw [if_pos rfl]
      show (if z = y then some b else look0 y r) = if y = z then some b else (if z = y then some c else look0 y r)
      by_cases q : z = y
      · subst q; simp
      · have q' : ¬ y = z := fun w => q w.symm
        rw [if_neg q, if_neg q', if_neg q]
    · rw [if_neg h]
      show (if z = y then some c else look0 y (put x b r)) = if y = x then some b else (if z = y then some c else look0 y r)
      rw [look_put x y b r]
      by_cases q : z = y
      · subst q
        rw [if_pos rfl, if_neg h, if_pos rfl]
      · rw [if_neg q, if_neg q]
theorem env_put (x : Str) (b : Bool) (s : Sg0) : env (put x b s) = fun y => if y = x then b else env s y := by
  funext y
  unfold env
  rw [look_put]
  split <;> rfl
theorem has_put (x : Str) (b : Bool) (s : Sg0) : has (put x b s) = fun y => decide (y = x) || has s y := by
  funext y
  unfold has
  rw [look_put]
  by_cases h : y = x
  · simp [h]
  · simp [h]
theorem put_len (x : Str) (b : Bool) : ∀ s : Sg0, (put x b s).length ≤ s.length + 1
  | [] => Nat.le_refl _
  | (y, c) :: r => by
    unfold put
    split
    · rw [List.length_cons, List.length_cons]; omega
    · have := put_len x b r
      rw [List.length_cons, List.length_cons]
      omega
theorem gIx_sg (s : Sg0) (x : Str) (h : has s x = true) : gIx (sg s) (.str x) = some (.bool (env s x)) := by
  show look (.str x) _ = _
  rw [look_sg]
  unfold has at h
  unfold env
  cases q : look0 x s with
  | none => rw [q] at h; cases h
  | some b => rfl
theorem kinds (o : Op) : o.nm ≠ "letter" ∧ o.nm ≠ "true" ∧ o.nm ≠ "false" ∧ o.nm ≠ "not" ∧ o.nm ≠ "all" ∧ o.nm ≠ "some" := by cases o <;> decide
theorem e_worth : ∀ (k : Nat) (f : Fm) (s : Sg0), f.dep < k → f.inn (has s) = true → s.length + k < sizeLine → (mir (k + 1)).f_worth [f.d, sg s] = some (.bool (f.ev (env s)))
  | 0, _, _, h, _, _ => by omega
  | k + 1, f, s, h, hi, hl => by
    show (mir (k + 1)).next.f_worth [f.d, sg s] = _
    cases f with
    | lit x =>
      have e := gIx_sg s x hi
      simp (decide := true) only [b_worth, Fm.d, Fm.ev, Mir.next, dPure, dIo, endI, args0, argsI, fSeq, fIf, fSet, fSetN, fRet, fRetN, fDrop, fSkip, fAsg, fPar, xMk, fBool, fTruth, truth, fNot, fAnd, fOr, fBin, fUn, fVar, vE, eV, fzr, fC, rd, fCallP, fCallI, fCons, fNil, rCons, rNil, fCall, rds, g1, fTup, fLst, vNot, vAnd, vOr, vIf, heldAt, heldL, PL.putAt, Sl.held, Sl.put, fMut, mApp, gN, gTn, gsCons, gsNil, gPut, putD, aSeq, seqD, fYes, okW, wipeA, backA, fFor, fLc, fDc, fSc, fSortSet, gIsi, isK, gLen, gIntT, gTuple, gList, gDict, hdK_nil, hdK_i, hdK_s, dKey, gIs, gIsNot, isD, gEq_str, gNe_str, gEq_int, gNe_int, gEq_bool, gNe_bool, gIx_t0, gIx_t1, gIx_t2, gIx_l0, gIx_l1, gIx_l2, gIn2, gInL2, List.length_cons, List.length_nil, List.map_cons, List.map_nil, List.replicate, List.cons_append, List.nil_append, List.getElem?_cons_zero, List.getElem?_cons_succ, List.set_cons_zero, List.set_cons_succ, Nat.reduceAdd, Nat.reduceSub, Nat.reduceEqDiff, List.all_cons, List.all_nil, Option.isNone, Option.map_some, Option.map_none, Bool.and_self, Bool.and_true, Bool.true_and, Bool.and_false, Bool.false_and, Bool.or_true, Bool.true_or, Bool.or_false, Bool.false_or, Bool.or_self, Bool.not_true, Bool.not_false, if_true, if_false, reduceIte, Bool.false_eq_true, decide_true, decide_false, ite_true, ite_false, e]
    | con b => cases b <;> simp (decide := true) only [b_worth, Fm.d, Fm.ev, Mir.next, dPure, dIo, endI, args0, argsI, fSeq, fIf, fSet, fSetN, fRet, fRetN, fDrop, fSkip, fAsg, fPar, xMk, fBool, fTruth, truth, fNot, fAnd, fOr, fBin, fUn, fVar, vE, eV, fzr, fC, rd, fCallP, fCallI, fCons, fNil, rCons, rNil, fCall, rds, g1, fTup, fLst, vNot, vAnd, vOr, vIf, heldAt, heldL, PL.putAt, Sl.held, Sl.put, fMut, mApp, gN, gTn, gsCons, gsNil, gPut, putD, aSeq, seqD, fYes, okW, wipeA, backA, fFor, fLc, fDc, fSc, fSortSet, gIsi, isK, gLen, gIntT, gTuple, gList, gDict, hdK_nil, hdK_i, hdK_s, dKey, gIs, gIsNot, isD, gEq_str, gNe_str, gEq_int, gNe_int, gEq_bool, gNe_bool, gIx_t0, gIx_t1, gIx_t2, gIx_l0, gIx_l1, gIx_l2, gIn2, gInL2, List.length_cons, List.length_nil, List.map_cons, List.map_nil, List.replicate, List.cons_append, List.nil_append, List.getElem?_cons_zero, List.getElem?_cons_succ, List.set_cons_zero, List.set_cons_succ, Nat.reduceAdd, Nat.reduceSub, Nat.reduceEqDiff, List.all_cons, List.all_nil, Option.isNone, Option.map_some, Option.map_none, Bool.and_self, Bool.and_true, Bool.true_and, Bool.and_false, Bool.false_and, Bool.or_true, Bool.true_or, Bool.or_false, Bool.false_or, Bool.or_self, Bool.not_true, Bool.not_false, if_true, if_false, reduceIte, Bool.false_eq_true, decide_true, decide_false, ite_true, ite_false]
    | not f =>
      have e := e_worth k f s (by unfold Fm.dep at h; omega) hi (by omega)
      simp (decide := true) only [b_worth, Fm.d, Fm.ev, Mir.next, dPure, dIo, endI, args0, argsI, fSeq, fIf, fSet, fSetN, fRet, fRetN, fDrop, fSkip, fAsg, fPar, xMk, fBool, fTruth, truth, fNot, fAnd, fOr, fBin, fUn, fVar, vE, eV, fzr, fC, rd, fCallP, fCallI, fCons, fNil, rCons, rNil, fCall, rds, g1, fTup, fLst, vNot, vAnd, vOr, vIf, heldAt, heldL, PL.putAt, Sl.held, Sl.put, fMut, mApp, gN, gTn, gsCons, gsNil, gPut, putD, aSeq, seqD, fYes, okW, wipeA, backA, fFor, fLc, fDc, fSc, fSortSet, gIsi, isK, gLen, gIntT, gTuple, gList, gDict, hdK_nil, hdK_i, hdK_s, dKey, gIs, gIsNot, isD, gEq_str, gNe_str, gEq_int, gNe_int, gEq_bool, gNe_bool, gIx_t0, gIx_t1, gIx_t2, gIx_l0, gIx_l1, gIx_l2, gIn2, gInL2, List.length_cons, List.length_nil, List.map_cons, List.map_nil, List.replicate, List.cons_append, List.nil_append, List.getElem?_cons_zero, List.getElem?_cons_succ, List.set_cons_zero, List.set_cons_succ, Nat.reduceAdd, Nat.reduceSub, Nat.reduceEqDiff, List.all_cons, List.all_nil, Option.isNone, Option.map_some, Option.map_none, Bool.and_self, Bool.and_true, Bool.true_and, Bool.and_false, Bool.false_and, Bool.or_true, Bool.true_or, Bool.or_false, Bool.false_or, Bool.or_self, Bool.not_true, Bool.not_false, if_true, if_false, reduceIte, Bool.false_eq_true, decide_true, decide_false, ite_true, ite_false, e]
    | bin o f g =>
      unfold Fm.dep at h
      unfold Fm.inn at hi
      rw [Bool.and_eq_true] at hi
      have e1 := e_worth k f s (by omega) hi.1 (by omega)
      have e2 := e_worth k g s (by omega) hi.2 (by omega)
      unfold Fm.ev
      generalize f.ev (env s) = a at e1 ⊢
      generalize g.ev (env s) = b at e2 ⊢
      cases o <;> cases a <;> cases b <;> simp (decide := true) only [b_worth, c_SIDES, Fm.d, Op.nm, Op.ap, Mir.next, dPure, dIo, endI, args0, argsI, fSeq, fIf, fSet, fSetN, fRet, fRetN, fDrop, fSkip, fAsg, fPar, xMk, fBool, fTruth, truth, fNot, fAnd, fOr, fBin, fUn, fVar, vE, eV, fzr, fC, rd, fCallP, fCallI, fCons, fNil, rCons, rNil, fCall, rds, g1, fTup, fLst, vNot, vAnd, vOr, vIf, heldAt, heldL, PL.putAt, Sl.held, Sl.put, fMut, mApp, gN, gTn, gsCons, gsNil, gPut, putD, aSeq, seqD, fYes, okW, wipeA, backA, fFor, fLc, fDc, fSc, fSortSet, gIsi, isK, gLen, gIntT, gTuple, gList, gDict, hdK_nil, hdK_i, hdK_s, dKey, gIs, gIsNot, isD, gEq_str, gNe_str, gEq_int, gNe_int, gEq_bool, gNe_bool, gIx_t0, gIx_t1, gIx_t2, gIx_l0, gIx_l1, gIx_l2, gIn2, gInL2, List.length_cons, List.length_nil, List.map_cons, List.map_nil, List.replicate, List.cons_append, List.nil_append, List.getElem?_cons_zero, List.getElem?_cons_succ, List.set_cons_zero, List.set_cons_succ, Nat.reduceAdd, Nat.reduceSub, Nat.reduceEqDiff, List.all_cons, List.all_nil, Option.isNone, Option.map_some, Option.map_none, Bool.and_self, Bool.and_true, Bool.true_and, Bool.and_false, Bool.false_and, Bool.or_true, Bool.true_or, Bool.or_false, Bool.false_or, Bool.or_self, Bool.not_true, Bool.not_false, if_true, if_false, reduceIte, Bool.false_eq_true, decide_true, decide_false, ite_true, ite_false, e1, e2]
    | all x f =>
      unfold Fm.dep at h
      have w1 := e_with_sign (mir k) s x false (by omega)
      have w2 := e_with_sign (mir k) s x true (by omega)
      have l1 := put_len x false s
      have l2 := put_len x true s
      have e1 := e_worth k f (put x false s) (by omega) (by rw [has_put]; exact hi) (by omega)
      have e2 := e_worth k f (put x true s) (by omega) (by rw [has_put]; exact hi) (by omega)
      rw [env_put] at e1 e2
      unfold Fm.ev
      generalize f.ev (fun y => if y = x then false else env s y) = a at e1 ⊢
      generalize f.ev (fun y => if y = x then true else env s y) = b at e2 ⊢
      have m : mir (k + 1) = (mir k).next := rfl
      rw [← m] at w1 w2
      simp (decide := true) only [b_worth, c_SIDES, Fm.d, Mir.next, dPure, dIo, endI, args0, argsI, fSeq, fIf, fSet, fSetN, fRet, fRetN, fDrop, fSkip, fAsg, fPar, xMk, fBool, fTruth, truth, fNot, fAnd, fOr, fBin, fUn, fVar, vE, eV, fzr, fC, rd, fCallP, fCallI, fCons, fNil, rCons, rNil, fCall, rds, g1, fTup, fLst, vNot, vAnd, vOr, vIf, heldAt, heldL, PL.putAt, Sl.held, Sl.put, fMut, mApp, gN, gTn, gsCons, gsNil, gPut, putD, aSeq, seqD, fYes, okW, wipeA, backA, fFor, fLc, fDc, fSc, fSortSet, gIsi, isK, gLen, gIntT, gTuple, gList, gDict, hdK_nil, hdK_i, hdK_s, dKey, gIs, gIsNot, isD, gEq_str, gNe_str, gEq_int, gNe_int, gEq_bool, gNe_bool, gIx_t0, gIx_t1, gIx_t2, gIx_l0, gIx_l1, gIx_l2, gIn2, gInL2, List.length_cons, List.length_nil, List.map_cons, List.map_nil, List.replicate, List.cons_append, List.nil_append, List.getElem?_cons_zero, List.getElem?_cons_succ, List.set_cons_zero, List.set_cons_succ, Nat.reduceAdd, Nat.reduceSub, Nat.reduceEqDiff, List.all_cons, List.all_nil, Option.isNone, Option.map_some, Option.map_none, Bool.and_self, Bool.and_true, Bool.true_and, Bool.and_false, Bool.false_and, Bool.or_true, Bool.true_or, Bool.or_false, Bool.false_or, Bool.or_self, Bool.not_true, Bool.not_false, if_true, if_false, reduceIte, Bool.false_eq_true, decide_true, decide_false, ite_true, ite_false, w1, w2, e1, e2, loopC, gAll, bools, List.all, id]
    | som x f =>
      unfold Fm.dep at h
      have w1 := e_with_sign (mir k) s x false (by omega)
      have w2 := e_with_sign (mir k) s x true (by omega)
      have l1 := put_len x false s
      have l2 := put_len x true s
      have e1 := e_worth k f (put x false s) (by omega) (by rw [has_put]; exact hi) (by omega)
      have e2 := e_worth k f (put x true s) (by omega) (by rw [has_put]; exact hi) (by omega)
      rw [env_put] at e1 e2
      unfold Fm.ev
      generalize f.ev (fun y => if y = x then false else env s y) = a at e1 ⊢
      generalize f.ev (fun y => if y = x then true else env s y) = b at e2 ⊢
      have m : mir (k + 1) = (mir k).next := rfl
      rw [← m] at w1 w2
      simp (decide := true) only [b_worth, c_SIDES, Fm.d, Mir.next, dPure, dIo, endI, args0, argsI, fSeq, fIf, fSet, fSetN, fRet, fRetN, fDrop, fSkip, fAsg, fPar, xMk, fBool, fTruth, truth, fNot, fAnd, fOr, fBin, fUn, fVar, vE, eV, fzr, fC, rd, fCallP, fCallI, fCons, fNil, rCons, rNil, fCall, rds, g1, fTup, fLst, vNot, vAnd, vOr, vIf, heldAt, heldL, PL.putAt, Sl.held, Sl.put, fMut, mApp, gN, gTn, gsCons, gsNil, gPut, putD, aSeq, seqD, fYes, okW, wipeA, backA, fFor, fLc, fDc, fSc, fSortSet, gIsi, isK, gLen, gIntT, gTuple, gList, gDict, hdK_nil, hdK_i, hdK_s, dKey, gIs, gIsNot, isD, gEq_str, gNe_str, gEq_int, gNe_int, gEq_bool, gNe_bool, gIx_t0, gIx_t1, gIx_t2, gIx_l0, gIx_l1, gIx_l2, gIn2, gInL2, List.length_cons, List.length_nil, List.map_cons, List.map_nil, List.replicate, List.cons_append, List.nil_append, List.getElem?_cons_zero, List.getElem?_cons_succ, List.set_cons_zero, List.set_cons_succ, Nat.reduceAdd, Nat.reduceSub, Nat.reduceEqDiff, List.all_cons, List.all_nil, Option.isNone, Option.map_some, Option.map_none, Bool.and_self, Bool.and_true, Bool.true_and, Bool.and_false, Bool.false_and, Bool.or_true, Bool.true_or, Bool.or_false, Bool.false_or, Bool.or_self, Bool.not_true, Bool.not_false, if_true, if_false, reduceIte, Bool.false_eq_true, decide_true, decide_false, ite_true, ite_false, w1, w2, e1, e2, loopC, gAny, bools, List.any, id]

end K11
namespace K11
open PySem PySem.Spec PyProof.Rows L2 PL
theorem e_lworth : ∀ (k : Nat) (f : Fm) (s : Sg0), f.dep < k → f.inn (has s) = true → s.length + k < sizeLine → (mir k).f__law_worth [f.d, sg s] = some (.bool (f.ev (env s)))
  | 0, _, _, h, _, _ => by omega
  | k + 1, f, s, h, hi, hl => by
    show (mir k).next.f__law_worth [f.d, sg s] = _
    cases f with
    | lit x =>
      have e := gIx_sg s x hi
      simp (decide := true) only [b__law_worth, Fm.d, Fm.ev, Mir.next, dPure, dIo, endI, args0, argsI, fSeq, fIf, fSet, fSetN, fRet, fRetN, fDrop, fSkip, fAsg, fPar, xMk, fBool, fTruth, truth, fNot, fAnd, fOr, fBin, fUn, fVar, vE, eV, fzr, fC, rd, fCallP, fCallI, fCons, fNil, rCons, rNil, fCall, rds, g1, fTup, fLst, vNot, vAnd, vOr, vIf, heldAt, heldL, PL.putAt, Sl.held, Sl.put, fMut, mApp, gN, gTn, gsCons, gsNil, gPut, putD, aSeq, seqD, fYes, okW, wipeA, backA, fFor, fLc, fDc, fSc, fSortSet, gIsi, isK, gLen, gIntT, gTuple, gList, gDict, hdK_nil, hdK_i, hdK_s, dKey, gIs, gIsNot, isD, gEq_str, gNe_str, gEq_int, gNe_int, gEq_bool, gNe_bool, gIx_t0, gIx_t1, gIx_t2, gIx_l0, gIx_l1, gIx_l2, gIn2, gInL2, List.length_cons, List.length_nil, List.map_cons, List.map_nil, List.replicate, List.cons_append, List.nil_append, List.getElem?_cons_zero, List.getElem?_cons_succ, List.set_cons_zero, List.set_cons_succ, Nat.reduceAdd, Nat.reduceSub, Nat.reduceEqDiff, List.all_cons, List.all_nil, Option.isNone, Option.map_some, Option.map_none, Bool.and_self, Bool.and_true, Bool.true_and, Bool.and_false, Bool.false_and, Bool.or_true, Bool.true_or, Bool.or_false, Bool.false_or, Bool.or_self, Bool.not_true, Bool.not_false, if_true, if_false, reduceIte, Bool.false_eq_true, decide_true, decide_false, ite_true, ite_false, e]
    | con b => cases b <;> simp (decide := true) only [b__law_worth, Fm.d, Fm.ev, Mir.next, dPure, dIo, endI, args0, argsI, fSeq, fIf, fSet, fSetN, fRet, fRetN, fDrop, fSkip, fAsg, fPar, xMk, fBool, fTruth, truth, fNot, fAnd, fOr, fBin, fUn, fVar, vE, eV, fzr, fC, rd, fCallP, fCallI, fCons, fNil, rCons, rNil, fCall, rds, g1, fTup, fLst, vNot, vAnd, vOr, vIf, heldAt, heldL, PL.putAt, Sl.held, Sl.put, fMut, mApp, gN, gTn, gsCons, gsNil, gPut, putD, aSeq, seqD, fYes, okW, wipeA, backA, fFor, fLc, fDc, fSc, fSortSet, gIsi, isK, gLen, gIntT, gTuple, gList, gDict, hdK_nil, hdK_i, hdK_s, dKey, gIs, gIsNot, isD, gEq_str, gNe_str, gEq_int, gNe_int, gEq_bool, gNe_bool, gIx_t0, gIx_t1, gIx_t2, gIx_l0, gIx_l1, gIx_l2, gIn2, gInL2, List.length_cons, List.length_nil, List.map_cons, List.map_nil, List.replicate, List.cons_append, List.nil_append, List.getElem?_cons_zero, List.getElem?_cons_succ, List.set_cons_zero, List.set_cons_succ, Nat.reduceAdd, Nat.reduceSub, Nat.reduceEqDiff, List.all_cons, List.all_nil, Option.isNone, Option.map_some, Option.map_none, Bool.and_self, Bool.and_true, Bool.true_and, Bool.and_false, Bool.false_and, Bool.or_true, Bool.true_or, Bool.or_false, Bool.false_or, Bool.or_self, Bool.not_true, Bool.not_false, if_true, if_false, reduceIte, Bool.false_eq_true, decide_true, decide_false, ite_true, ite_false]
    | not f =>
      have e := e_lworth k f s (by unfold Fm.dep at h; omega) hi (by omega)
      simp (decide := true) only [b__law_worth, Fm.d, Fm.ev, Mir.next, dPure, dIo, endI, args0, argsI, fSeq, fIf, fSet, fSetN, fRet, fRetN, fDrop, fSkip, fAsg, fPar, xMk, fBool, fTruth, truth, fNot, fAnd, fOr, fBin, fUn, fVar, vE, eV, fzr, fC, rd, fCallP, fCallI, fCons, fNil, rCons, rNil, fCall, rds, g1, fTup, fLst, vNot, vAnd, vOr, vIf, heldAt, heldL, PL.putAt, Sl.held, Sl.put, fMut, mApp, gN, gTn, gsCons, gsNil, gPut, putD, aSeq, seqD, fYes, okW, wipeA, backA, fFor, fLc, fDc, fSc, fSortSet, gIsi, isK, gLen, gIntT, gTuple, gList, gDict, hdK_nil, hdK_i, hdK_s, dKey, gIs, gIsNot, isD, gEq_str, gNe_str, gEq_int, gNe_int, gEq_bool, gNe_bool, gIx_t0, gIx_t1, gIx_t2, gIx_l0, gIx_l1, gIx_l2, gIn2, gInL2, List.length_cons, List.length_nil, List.map_cons, List.map_nil, List.replicate, List.cons_append, List.nil_append, List.getElem?_cons_zero, List.getElem?_cons_succ, List.set_cons_zero, List.set_cons_succ, Nat.reduceAdd, Nat.reduceSub, Nat.reduceEqDiff, List.all_cons, List.all_nil, Option.isNone, Option.map_some, Option.map_none, Bool.and_self, Bool.and_true, Bool.true_and, Bool.and_false, Bool.false_and, Bool.or_true, Bool.true_or, Bool.or_false, Bool.false_or, Bool.or_self, Bool.not_true, Bool.not_false, if_true, if_false, reduceIte, Bool.false_eq_true, decide_true, decide_false, ite_true, ite_false, e]
    | bin o f g =>
      unfold Fm.dep at h
      unfold Fm.inn at hi
      rw [Bool.and_eq_true] at hi
      have e1 := e_lworth k f s (by omega) hi.1 (by omega)
      have e2 := e_lworth k g s (by omega) hi.2 (by omega)
      unfold Fm.ev
      generalize f.ev (env s) = a at e1 ⊢
      generalize g.ev (env s) = b at e2 ⊢
      cases o <;> cases a <;> cases b <;> simp (decide := true) only [b__law_worth, Fm.d, Op.nm, Op.ap, Mir.next, dPure, dIo, endI, args0, argsI, fSeq, fIf, fSet, fSetN, fRet, fRetN, fDrop, fSkip, fAsg, fPar, xMk, fBool, fTruth, truth, fNot, fAnd, fOr, fBin, fUn, fVar, vE, eV, fzr, fC, rd, fCallP, fCallI, fCons, fNil, rCons, rNil, fCall, rds, g1, fTup, fLst, vNot, vAnd, vOr, vIf, heldAt, heldL, PL.putAt, Sl.held, Sl.put, fMut, mApp, gN, gTn, gsCons, gsNil, gPut, putD, aSeq, seqD, fYes, okW, wipeA, backA, fFor, fLc, fDc, fSc, fSortSet, gIsi, isK, gLen, gIntT, gTuple, gList, gDict, hdK_nil, hdK_i, hdK_s, dKey, gIs, gIsNot, isD, gEq_str, gNe_str, gEq_int, gNe_int, gEq_bool, gNe_bool, gIx_t0, gIx_t1, gIx_t2, gIx_l0, gIx_l1, gIx_l2, gIn2, gInL2, List.length_cons, List.length_nil, List.map_cons, List.map_nil, List.replicate, List.cons_append, List.nil_append, List.getElem?_cons_zero, List.getElem?_cons_succ, List.set_cons_zero, List.set_cons_succ, Nat.reduceAdd, Nat.reduceSub, Nat.reduceEqDiff, List.all_cons, List.all_nil, Option.isNone, Option.map_some, Option.map_none, Bool.and_self, Bool.and_true, Bool.true_and, Bool.and_false, Bool.false_and, Bool.or_true, Bool.true_or, Bool.or_false, Bool.false_or, Bool.or_self, Bool.not_true, Bool.not_false, if_true, if_false, reduceIte, Bool.false_eq_true, decide_true, decide_false, ite_true, ite_false, e1, e2]
    | all x f =>
      unfold Fm.dep at h
      have l1 := put_len x false s
      have l2 := put_len x true s
      have e1 := e_lworth k f (put x false s) (by omega) (by rw [has_put]; exact hi) (by omega)
      have e2 := e_lworth k f (put x true s) (by omega) (by rw [has_put]; exact hi) (by omega)
      have hz : (s.map fun p => ((.str p.1 : Dt), (.bool p.2 : Dt))).length < sizeLine := by rw [List.length_map]; omega
      have p1 := put_sg x false s
      have p2 := put_sg x true s
      rw [env_put] at e1 e2
      unfold Fm.ev
      generalize f.ev (fun y => if y = x then false else env s y) = a at e1 ⊢
      generalize f.ev (fun y => if y = x then true else env s y) = b at e2 ⊢
      unfold sg at e1 e2 ⊢
      cases a <;> cases b <;> simp (decide := true) only [b__law_worth, Fm.d, Mir.next, dPure, dIo, endI, args0, argsI, fSeq, fIf, fSet, fSetN, fRet, fRetN, fDrop, fSkip, fAsg, fPar, xMk, fBool, fTruth, truth, fNot, fAnd, fOr, fBin, fUn, fVar, vE, eV, fzr, fC, rd, fCallP, fCallI, fCons, fNil, rCons, rNil, fCall, rds, g1, fTup, fLst, vNot, vAnd, vOr, vIf, heldAt, heldL, PL.putAt, Sl.held, Sl.put, fMut, mApp, gN, gTn, gsCons, gsNil, gPut, putD, aSeq, seqD, fYes, okW, wipeA, backA, fFor, fLc, fDc, fSc, fSortSet, gIsi, isK, gLen, gIntT, gTuple, gList, gDict, hdK_nil, hdK_i, hdK_s, dKey, gIs, gIsNot, isD, gEq_str, gNe_str, gEq_int, gNe_int, gEq_bool, gNe_bool, gIx_t0, gIx_t1, gIx_t2, gIx_l0, gIx_l1, gIx_l2, gIn2, gInL2, List.length_cons, List.length_nil, List.map_cons, List.map_nil, List.replicate, List.cons_append, List.nil_append, List.getElem?_cons_zero, List.getElem?_cons_succ, List.set_cons_zero, List.set_cons_succ, Nat.reduceAdd, Nat.reduceSub, Nat.reduceEqDiff, List.all_cons, List.all_nil, Option.isNone, Option.map_some, Option.map_none, Bool.and_self, Bool.and_true, Bool.true_and, Bool.and_false, Bool.false_and, Bool.or_true, Bool.true_or, Bool.or_false, Bool.false_or, Bool.or_self, Bool.not_true, Bool.not_false, if_true, if_false, reduceIte, Bool.false_eq_true, decide_true, decide_false, ite_true, ite_false, loopF, hz, p1, p2, e1, e2, hk_sg]
    | som x f =>
      unfold Fm.dep at h
      have l1 := put_len x false s
      have l2 := put_len x true s
      have e1 := e_lworth k f (put x false s) (by omega) (by rw [has_put]; exact hi) (by omega)
      have e2 := e_lworth k f (put x true s) (by omega) (by rw [has_put]; exact hi) (by omega)
      have hz : (s.map fun p => ((.str p.1 : Dt), (.bool p.2 : Dt))).length < sizeLine := by rw [List.length_map]; omega
      have p1 := put_sg x false s
      have p2 := put_sg x true s
      rw [env_put] at e1 e2
      unfold Fm.ev
      generalize f.ev (fun y => if y = x then false else env s y) = a at e1 ⊢
      generalize f.ev (fun y => if y = x then true else env s y) = b at e2 ⊢
      unfold sg at e1 e2 ⊢
      cases a <;> cases b <;> simp (decide := true) only [b__law_worth, Fm.d, Mir.next, dPure, dIo, endI, args0, argsI, fSeq, fIf, fSet, fSetN, fRet, fRetN, fDrop, fSkip, fAsg, fPar, xMk, fBool, fTruth, truth, fNot, fAnd, fOr, fBin, fUn, fVar, vE, eV, fzr, fC, rd, fCallP, fCallI, fCons, fNil, rCons, rNil, fCall, rds, g1, fTup, fLst, vNot, vAnd, vOr, vIf, heldAt, heldL, PL.putAt, Sl.held, Sl.put, fMut, mApp, gN, gTn, gsCons, gsNil, gPut, putD, aSeq, seqD, fYes, okW, wipeA, backA, fFor, fLc, fDc, fSc, fSortSet, gIsi, isK, gLen, gIntT, gTuple, gList, gDict, hdK_nil, hdK_i, hdK_s, dKey, gIs, gIsNot, isD, gEq_str, gNe_str, gEq_int, gNe_int, gEq_bool, gNe_bool, gIx_t0, gIx_t1, gIx_t2, gIx_l0, gIx_l1, gIx_l2, gIn2, gInL2, List.length_cons, List.length_nil, List.map_cons, List.map_nil, List.replicate, List.cons_append, List.nil_append, List.getElem?_cons_zero, List.getElem?_cons_succ, List.set_cons_zero, List.set_cons_succ, Nat.reduceAdd, Nat.reduceSub, Nat.reduceEqDiff, List.all_cons, List.all_nil, Option.isNone, Option.map_some, Option.map_none, Bool.and_self, Bool.and_true, Bool.true_and, Bool.and_false, Bool.false_and, Bool.or_true, Bool.true_or, Bool.or_false, Bool.false_or, Bool.or_self, Bool.not_true, Bool.not_false, if_true, if_false, reduceIte, Bool.false_eq_true, decide_true, decide_false, ite_true, ite_false, loopF, hz, p1, p2, e1, e2, hk_sg]
/-! ### all signs of some letters -/
def bothS (x : Str) (ss : List Sg0) : List Sg0 := ss.flatMap fun s => [put x false s, put x true s]
def allS : List Str → List Sg0 → List Sg0
  | [], ss => ss
  | x :: r, ss => allS r (bothS x ss)
def sgs (ss : List Sg0) : Dt := .list (ss.map sg)
def txts (xs : List Str) : Dt := .list (xs.map PyData.str)
theorem both_len (x : Str) : ∀ ss : List Sg0, (bothS x ss).length = 2 * ss.length
  | [] => rfl
  | s :: ss => by
    have e : bothS x (s :: ss) = put x false s :: put x true s :: bothS x ss := rfl
    rw [e, List.length_cons, List.length_cons, both_len x ss, List.length_cons]
    omega
theorem both_mem {x : Str} {ss : List Sg0} {t : Sg0} (h : t ∈ bothS x ss) : ∃ s ∈ ss, ∃ b, t = put x b s := by
  obtain ⟨s, hs, ht⟩ := List.mem_flatMap.mp h
  rcases List.mem_cons.mp ht with e | ht
  · exact ⟨s, hs, false, e⟩
  · rw [List.mem_singleton] at ht
    exact ⟨s, hs, true, ht⟩
abbrev T0 := List (Bool × Str)
def sd (b : Bool) : Str := if b = true then "some" else "all"
def tD (t : Bool × Str) : Dt := .tuple [.str (sd t.1), .str t.2]
def tn (ts : T0) : Dt := .tuple (ts.map tD)
def tl (ts : T0) : Dt := .list (ts.map tD)
def qf (t : Bool × Str) (f : Fm) : Fm := if t.1 = true then .som t.2 f else .all t.2 f
def cls (ts : T0) (f : Fm) : Fm := ts.foldr qf f
theorem qf_d (t : Bool × Str) (f : Fm) : (qf t f).d = .tuple [.str (sd t.1), .str t.2, f.d] := by
  obtain ⟨b, x⟩ := t
  cases b <;> rfl
/-! ### the law's own wins -/
theorem gIx_tl (ts : T0) (i : Nat) : gIx (tl ts) (.int (i : Int)) = (ts[i]?).map tD := by
  unfold tl
  rw [gIx_ln, List.getElem?_map]
theorem put_end (x : Str) (b : Bool) : ∀ s : Sg0, x ∉ s.map Prod.fst → put x b s = s ++ [(x, b)]
  | [], _ => rfl
  | (y, c) :: r, h => by
    rw [List.map_cons, List.mem_cons, not_or] at h
    unfold put
    rw [if_neg (fun z => h.1 z.symm), put_end x b r h.2]
    rfl
theorem has_mem (s : Sg0) (x : Str) : has s x = decide (x ∈ s.map Prod.fst) := by
  induction s with
  | nil => rfl
  | cons p r ih =>
    obtain ⟨y, c⟩ := p
    unfold has at ih ⊢
    unfold look0
    rw [List.map_cons]
    by_cases h : y = x
    · subst h; simp
    · have h' : ¬ x = y := fun z => h z.symm
      rw [if_neg h, ih]
      simp [h']
theorem cls_cons (t : Bool × Str) (r : T0) (f : Fm) : cls (t :: r) f = qf t (cls r f) := rfl
theorem dep_cls (f : Fm) : ∀ ts : T0, (cls ts f).dep = f.dep + ts.length
  | [] => rfl
  | (b, x) :: r => by
    rw [cls_cons]
    cases b
    · show (cls r f).dep + 1 = _
      rw [dep_cls f r, List.length_cons]
      omega
    · show (cls r f).dep + 1 = _
      rw [dep_cls f r, List.length_cons]
      omega
def lts (ts : T0) (m : Nat) : List Str := (ts.take m).map Prod.snd
theorem sd_inj (a b : Bool) : decide (sd a = sd b) = (a == b) := by cases a <;> cases b <;> decide
end K11
namespace K11
open PySem PySem.Spec PyProof.Rows L2 PL
theorem e_las_inner (x : Str) (L F1 : Sl) (all : List Sg0) (hz : all.length ≤ 8192) (ss : List Sg0) (h : ∀ s ∈ ss, s.length < 100) (s4 s5 s6 : Sl) (eall : bothS x ss = all) :
    ∃ s4' s5' s6', loopF (gN 4) (fFor (aSeq (fLst (fCons (fC (.bool false)) (fCons (fC (.bool true)) fNil)))) (gN 5) (fSeq (fSetN 6 (fCall (g1 gDict) (rCons (fVar 4) rNil))) (fSeq (fAsg (eV (fVar 5)) (gPut 6 (eV (fVar 2)))) (fDrop (fApp 3 (eV (fVar 6))))))) (ss.map sg) [L, F1, .fz (.str x), .ow (.list []), s4, s5, s6]
      = some (.nx [L, F1, .fz (.str x), .ow (sgs all), s4', s5', s6']) := by
  obtain ⟨st, ⟨a, b, c, e⟩, h2⟩ := loopF_inv (g := gN 4) (body := fFor (aSeq (fLst (fCons (fC (.bool false)) (fCons (fC (.bool true)) fNil)))) (gN 5) (fSeq (fSetN 6 (fCall (g1 gDict) (rCons (fVar 4) rNil))) (fSeq (fAsg (eV (fVar 5)) (gPut 6 (eV (fVar 2)))) (fDrop (fApp 3 (eV (fVar 6)))))))
    sg (fun r st => ∃ acc s4 s5 s6, st = [L, F1, .fz (.str x), .ow (.list (acc.map sg)), s4, s5, s6] ∧ acc ++ bothS x r = all ∧ ∀ s ∈ r, s.length < 100)
    (fun st => ∃ s4 s5 s6, st = [L, F1, .fz (.str x), .ow (sgs all), s4, s5, s6])
    (fun st ⟨acc, s4, s5, s6, e1, e2, _⟩ => ⟨s4, s5, s6, by
      have e3 : acc = all := by rw [← e2]; exact (List.append_nil acc).symm
      rw [e1, e3]
      rfl⟩)
    (fun s r st ⟨acc, s4, s5, s6, e1, e2, e3⟩ => by
      subst e1
      have hs := e3 s List.mem_cons_self
      have big : (9000 : Nat) < sizeLine := by decide
      have eb : bothS x (s :: r) = put x false s :: put x true s :: bothS x r := rfl
      rw [eb] at e2
      have ln : acc.length + 2 ≤ 8192 := by
        have z := congrArg List.length e2
        rw [List.length_append, List.length_cons, List.length_cons] at z
        omega
      have p1 := put_sg x false s
      have p2 := put_sg x true s
      have z0 : (s.map fun p => ((.str p.1 : Dt), (.bool p.2 : Dt))).length < sizeLine := by rw [List.length_map]; omega
      have z1 : (acc.map sg).length < sizeLine := by rw [List.length_map]; omega
      have z2 : (acc.map sg ++ [PyData.dict ((put x false s).map fun p => ((.str p.1 : Dt), (.bool p.2 : Dt)))]).length < sizeLine := by rw [List.length_append, List.length_map, List.length_singleton]; omega
      refine ⟨[L, F1, .fz (.str x), .ow (.list (acc.map sg)), .fz (sg s), s5, s6], [L, F1, .fz (.str x), .ow (.list ((acc ++ [put x false s, put x true s]).map sg)), .fz (sg s), .fz (.bool true), .fz (sg (put x true s))], rfl, ?_, _, _, _, _, rfl, by rw [List.append_assoc]; exact e2, fun t ht => e3 t (List.mem_cons_of_mem _ ht)⟩
      rw [List.map_append]
      unfold sg at z1 z2 ⊢
      simp (decide := true) only [Mir.next, dPure, dIo, endI, args0, argsI, fSeq, fIf, fSet, fSetN, fRet, fRetN, fDrop, fSkip, fAsg, fPar, xMk, fBool, fTruth, truth, fNot, fAnd, fOr, fBin, fUn, fVar, vE, eV, fzr, fC, rd, fCallP, fCallI, fCons, fNil, rCons, rNil, fCall, rds, g1, fTup, fLst, vNot, vAnd, vOr, vIf, heldAt, heldL, PL.putAt, Sl.held, Sl.put, fMut, mApp, gN, gTn, gsCons, gsNil, gPut, putD, aSeq, seqD, fYes, okW, wipeA, backA, fFor, fLc, fDc, fSc, fSortSet, gIsi, isK, gLen, gIntT, gTuple, gList, gDict, hdK_nil, hdK_i, hdK_s, dKey, gIs, gIsNot, isD, gEq_str, gNe_str, gEq_int, gNe_int, gEq_bool, gNe_bool, gIx_t0, gIx_t1, gIx_t2, gIx_l0, gIx_l1, gIx_l2, gIn2, gInL2, List.length_cons, List.length_nil, List.map_cons, List.map_nil, List.replicate, List.cons_append, List.nil_append, List.getElem?_cons_zero, List.getElem?_cons_succ, List.set_cons_zero, List.set_cons_succ, Nat.reduceAdd, Nat.reduceSub, Nat.reduceEqDiff, List.all_cons, List.all_nil, Option.isNone, Option.map_some, Option.map_none, Bool.and_self, Bool.and_true, Bool.true_and, Bool.and_false, Bool.false_and, Bool.or_true, Bool.true_or, Bool.or_false, Bool.false_or, Bool.or_self, Bool.not_true, Bool.not_false, if_true, if_false, reduceIte, Bool.false_eq_true, decide_true, decide_false, ite_true, ite_false, loopF, z0, z1, z2, p1, p2, hk_sg, List.append_assoc])
    ss [L, F1, .fz (.str x), .ow (.list []), s4, s5, s6] ⟨[], _, _, _, rfl, by rw [List.nil_append]; exact eall, h⟩
  exact ⟨a, b, c, by rw [h2, e]⟩
theorem all_sz : ∀ (xs : List Str) (ss : List Sg0), (allS xs ss).length = 2 ^ xs.length * ss.length
  | [], ss => by rw [List.length_nil, Nat.pow_zero, Nat.one_mul]; rfl
  | x :: xs, ss => by
    show (allS xs (bothS x ss)).length = _
    rw [all_sz xs, both_len, List.length_cons, Nat.pow_succ]
    rw [Nat.mul_assoc]
theorem e_las_loop (L : Sl) : ∀ (xs : List Str) (ss : List Sg0) (n : Nat) (s2 s3 s4 s5 s6 : Sl), (∀ s ∈ ss, s.length ≤ n) → n + xs.length ≤ 12 → ss.length ≤ 2 ^ n → 
    ∃ st', st'[1]? = some (.fz (sgs (allS xs ss))) ∧ loopF (gN 2) (fSeq (fSetN 3 (fLst fNil)) (fSeq (fFor (aSeq (eV (fVar 1))) (gN 4) (fFor (aSeq (fLst (fCons (fC (.bool false)) (fCons (fC (.bool true)) fNil)))) (gN 5) (fSeq (fSetN 6 (fCall (g1 gDict) (rCons (fVar 4) rNil))) (fSeq (fAsg (eV (fVar 5)) (gPut 6 (eV (fVar 2)))) (fDrop (fApp 3 (eV (fVar 6)))))))) (fSet 1 (eV (fVar 3))))) (xs.map PyData.str) [L, .fz (sgs ss), s2, s3, s4, s5, s6] = some (.nx st')
  | [], ss, n, s2, s3, s4, s5, s6, _, _, _ => ⟨_, rfl, rfl⟩
  | x :: xs, ss, n, s2, s3, s4, s5, s6, hs, hn, hl => by
    rw [List.length_cons] at hn
    have big : (2 : Nat) ^ n ≤ 4096 := by
      have : (2 : Nat) ^ n ≤ 2 ^ 12 := Nat.pow_le_pow_right (by omega) (by omega)
      exact this
    obtain ⟨a, b, c, inner⟩ := e_las_inner x L (.fz (sgs ss)) (bothS x ss) (by rw [both_len]; omega) ss (fun s h => by have := hs s h; omega) s4 s5 s6 rfl
    obtain ⟨st', h1, h2⟩ := e_las_loop L xs (bothS x ss) (n + 1) (.fz (.str x)) (.fz (sgs (bothS x ss))) a b c (fun t ht => by
      obtain ⟨s, h, b, e⟩ := both_mem ht
      have a1 := hs s h
      have a2 := put_len x b s
      rw [e]
      omega) (by omega) (by rw [both_len, Nat.pow_succ]; omega)
    refine ⟨st', h1, ?_⟩
    rw [List.map_cons]
    unfold loopF
    have e0 : sgs ss = .list (ss.map sg) := rfl
    rw [e0] at inner ⊢
    simp (decide := true) only [Mir.next, dPure, dIo, endI, args0, argsI, fSeq, fIf, fSet, fSetN, fRet, fRetN, fDrop, fSkip, fAsg, fPar, xMk, fBool, fTruth, truth, fNot, fAnd, fOr, fBin, fUn, fVar, vE, eV, fzr, fC, rd, fCallP, fCallI, fCons, fNil, rCons, rNil, fCall, rds, g1, fTup, fLst, vNot, vAnd, vOr, vIf, heldAt, heldL, PL.putAt, Sl.held, Sl.put, fMut, mApp, gN, gTn, gsCons, gsNil, gPut, putD, aSeq, seqD, fYes, okW, wipeA, backA, fFor, fLc, fDc, fSc, fSortSet, gIsi, isK, gLen, gIntT, gTuple, gList, gDict, hdK_nil, hdK_i, hdK_s, dKey, gIs, gIsNot, isD, gEq_str, gNe_str, gEq_int, gNe_int, gEq_bool, gNe_bool, gIx_t0, gIx_t1, gIx_t2, gIx_l0, gIx_l1, gIx_l2, gIn2, gInL2, List.length_cons, List.length_nil, List.map_cons, List.map_nil, List.replicate, List.cons_append, List.nil_append, List.getElem?_cons_zero, List.getElem?_cons_succ, List.set_cons_zero, List.set_cons_succ, Nat.reduceAdd, Nat.reduceSub, Nat.reduceEqDiff, List.all_cons, List.all_nil, Option.isNone, Option.map_some, Option.map_none, Bool.and_self, Bool.and_true, Bool.true_and, Bool.and_false, Bool.false_and, Bool.or_true, Bool.true_or, Bool.or_false, Bool.false_or, Bool.or_self, Bool.not_true, Bool.not_false, if_true, if_false, reduceIte, Bool.false_eq_true, decide_true, decide_false, ite_true, ite_false, inner]
    exact h2
theorem e_law_all_signs (M : Mir) (xs : List Str) (h : xs.length ≤ 12) : M.next.f__law_all_signs [txts xs] = some (sgs (allS xs [[]])) := by
  obtain ⟨st', h1, h2⟩ := e_las_loop (.fz (txts xs)) xs [[]] 0 .un .un .un .un .un (fun s hs => by
    rw [List.mem_singleton] at hs
    rw [hs]
    exact Nat.le_refl _) (by omega) (by decide)
  have e0 : sgs [[]] = .list [.dict []] := rfl
  have e1 : txts xs = .list (xs.map PyData.str) := rfl
  rw [e0, e1] at h2
  rw [e1]
  simp (decide := true) only [b__law_all_signs, Mir.next, dPure, dIo, endI, args0, argsI, fSeq, fIf, fSet, fSetN, fRet, fRetN, fDrop, fSkip, fAsg, fPar, xMk, fBool, fTruth, truth, fNot, fAnd, fOr, fBin, fUn, fVar, vE, eV, fzr, fC, rd, fCallP, fCallI, fCons, fNil, rCons, rNil, fCall, rds, g1, fTup, fLst, vNot, vAnd, vOr, vIf, heldAt, heldL, PL.putAt, Sl.held, Sl.put, fMut, mApp, gN, gTn, gsCons, gsNil, gPut, putD, aSeq, seqD, fYes, okW, wipeA, backA, fFor, fLc, fDc, fSc, fSortSet, gIsi, isK, gLen, gIntT, gTuple, gList, gDict, hdK_nil, hdK_i, hdK_s, dKey, gIs, gIsNot, isD, gEq_str, gNe_str, gEq_int, gNe_int, gEq_bool, gNe_bool, gIx_t0, gIx_t1, gIx_t2, gIx_l0, gIx_l1, gIx_l2, gIn2, gInL2, List.length_cons, List.length_nil, List.map_cons, List.map_nil, List.replicate, List.cons_append, List.nil_append, List.getElem?_cons_zero, List.getElem?_cons_succ, List.set_cons_zero, List.set_cons_succ, Nat.reduceAdd, Nat.reduceSub, Nat.reduceEqDiff, List.all_cons, List.all_nil, Option.isNone, Option.map_some, Option.map_none, Bool.and_self, Bool.and_true, Bool.true_and, Bool.and_false, Bool.false_and, Bool.or_true, Bool.true_or, Bool.or_false, Bool.false_or, Bool.or_self, Bool.not_true, Bool.not_false, if_true, if_false, reduceIte, Bool.false_eq_true, decide_true, decide_false, ite_true, ite_false, h2, h1]

end K11
namespace K11
open PySem PySem.Spec PyProof.Rows L2 PL
theorem e_lot_loop (L : Sl) : ∀ (xs : List Str) (l : List Str), xs.length + l.length + 1 < scanBound → loopS (gN 1) fYes (eV (fVar 1)) [1] (xs.map PyData.str) [L, .un] l = some (gather xs l, [L, .un])
  | [], l, _ => rfl
  | x :: r, l, h => by
    rw [List.length_cons] at h
    have h2 := insS_len x l
    have ih := e_lot_loop L r (insS x l) (by omega)
    have z : l.length + 1 < scanBound := by omega
    rw [List.map_cons]
    simp (decide := true) only [loopS, Mir.next, dPure, dIo, endI, args0, argsI, fSeq, fIf, fSet, fSetN, fRet, fRetN, fDrop, fSkip, fAsg, fPar, xMk, fBool, fTruth, truth, fNot, fAnd, fOr, fBin, fUn, fVar, vE, eV, fzr, fC, rd, fCallP, fCallI, fCons, fNil, rCons, rNil, fCall, rds, g1, fTup, fLst, vNot, vAnd, vOr, vIf, heldAt, heldL, PL.putAt, Sl.held, Sl.put, fMut, mApp, gN, gTn, gsCons, gsNil, gPut, putD, aSeq, seqD, fYes, okW, wipeA, backA, fFor, fLc, fDc, fSc, fSortSet, gIsi, isK, gLen, gIntT, gTuple, gList, gDict, hdK_nil, hdK_i, hdK_s, dKey, gIs, gIsNot, isD, gEq_str, gNe_str, gEq_int, gNe_int, gEq_bool, gNe_bool, gIx_t0, gIx_t1, gIx_t2, gIx_l0, gIx_l1, gIx_l2, gIn2, gInL2, List.length_cons, List.length_nil, List.map_cons, List.map_nil, List.replicate, List.cons_append, List.nil_append, List.getElem?_cons_zero, List.getElem?_cons_succ, List.set_cons_zero, List.set_cons_succ, Nat.reduceAdd, Nat.reduceSub, Nat.reduceEqDiff, List.all_cons, List.all_nil, Option.isNone, Option.map_some, Option.map_none, Bool.and_self, Bool.and_true, Bool.true_and, Bool.and_false, Bool.false_and, Bool.or_true, Bool.true_or, Bool.or_false, Bool.false_or, Bool.or_self, Bool.not_true, Bool.not_false, if_true, if_false, reduceIte, Bool.false_eq_true, decide_true, decide_false, ite_true, ite_false, z, ih]
    rfl
theorem e_lot (M : Mir) (xs : List Str) (h : xs.length + 1 < scanBound) : M.next.f_lot [txts xs] = some (.tuple (sortD ((gather xs []).map PyData.str))) := by
  have e := e_lot_loop (.fz (txts xs)) xs [] (by rw [List.length_nil]; omega)
  have e1 : txts xs = .list (xs.map PyData.str) := rfl
  rw [e1] at e ⊢
  simp (decide := true) only [b_lot, Mir.next, dPure, dIo, endI, args0, argsI, fSeq, fIf, fSet, fSetN, fRet, fRetN, fDrop, fSkip, fAsg, fPar, xMk, fBool, fTruth, truth, fNot, fAnd, fOr, fBin, fUn, fVar, vE, eV, fzr, fC, rd, fCallP, fCallI, fCons, fNil, rCons, rNil, fCall, rds, g1, fTup, fLst, vNot, vAnd, vOr, vIf, heldAt, heldL, PL.putAt, Sl.held, Sl.put, fMut, mApp, gN, gTn, gsCons, gsNil, gPut, putD, aSeq, seqD, fYes, okW, wipeA, backA, fFor, fLc, fDc, fSc, fSortSet, gIsi, isK, gLen, gIntT, gTuple, gList, gDict, hdK_nil, hdK_i, hdK_s, dKey, gIs, gIsNot, isD, gEq_str, gNe_str, gEq_int, gNe_int, gEq_bool, gNe_bool, gIx_t0, gIx_t1, gIx_t2, gIx_l0, gIx_l1, gIx_l2, gIn2, gInL2, List.length_cons, List.length_nil, List.map_cons, List.map_nil, List.replicate, List.cons_append, List.nil_append, List.getElem?_cons_zero, List.getElem?_cons_succ, List.set_cons_zero, List.set_cons_succ, Nat.reduceAdd, Nat.reduceSub, Nat.reduceEqDiff, List.all_cons, List.all_nil, Option.isNone, Option.map_some, Option.map_none, Bool.and_self, Bool.and_true, Bool.true_and, Bool.and_false, Bool.false_and, Bool.or_true, Bool.true_or, Bool.or_false, Bool.false_or, Bool.or_self, Bool.not_true, Bool.not_false, if_true, if_false, reduceIte, Bool.false_eq_true, decide_true, decide_false, ite_true, ite_false, e]
def lotD (xs : List Str) : Dt := .tuple (sortD ((gather xs []).map PyData.str))
def LO (M : Mir) : Prop := ∀ xs : List Str, xs.length ≤ 100 → M.f_lot [txts xs] = some (lotD xs)
theorem lo_mir (k : Nat) : LO (mir (k + 1)) := fun xs h => e_lot (mir k) xs (by have : (1000 : Nat) < scanBound := by decide
                                                                                omega)
theorem e_ahead_loop (M : Mir) (hM : LO M) (T : Sl) (x : Str) : ∀ (ts : T0) (found : List Str) (s3 s4 : Sl), ts.length + found.length ≤ 100 →
    (∃ ys st, ys.length ≤ 100 ∧ loopF (gTn 2 (gsCons (gN 3) (gsCons (gN 4) gsNil))) (fSeq (fIf (fBool (fBin gEq (fVar 4) (fVar 1))) (fRet (fCallP M.f_lot (fCons (eV (fVar 2)) fNil))) fSkip) (fIf (fBool (fBin gEq (fVar 3) (vE (fC (.str "all"))))) (fDrop (fApp 2 (eV (fVar 4)))) fSkip)) (ts.map tD) [T, .fz (.str x), .ow (txts found), s3, s4] = some (.rt (lotD ys) st)) ∨
    (∃ ys t3 t4, ys.length ≤ 100 ∧ loopF (gTn 2 (gsCons (gN 3) (gsCons (gN 4) gsNil))) (fSeq (fIf (fBool (fBin gEq (fVar 4) (fVar 1))) (fRet (fCallP M.f_lot (fCons (eV (fVar 2)) fNil))) fSkip) (fIf (fBool (fBin gEq (fVar 3) (vE (fC (.str "all"))))) (fDrop (fApp 2 (eV (fVar 4)))) fSkip)) (ts.map tD) [T, .fz (.str x), .ow (txts found), s3, s4] = some (.nx [T, .fz (.str x), .ow (txts ys), t3, t4]))
  | [], found, s3, s4, h => .inr ⟨found, s3, s4, by rw [List.length_nil] at h; omega, rfl⟩
  | (b, y) :: r, found, s3, s4, h => by
    rw [List.length_cons] at h
    have big : (1000 : Nat) < sizeLine := by decide
    have lo := hM found (by omega)
    have e1 : txts found = .list (found.map PyData.str) := rfl
    rw [List.map_cons]
    unfold loopF
    by_cases q : y = x
    · left
      refine ⟨found, [T, .fz (.str x), .fz (txts found), .fz (.str (sd b)), .fz (.str y)], by omega, ?_⟩
      rw [e1] at lo ⊢
      simp (decide := true) only [Mir.next, dPure, dIo, endI, args0, argsI, fSeq, fIf, fSet, fSetN, fRet, fRetN, fDrop, fSkip, fAsg, fPar, xMk, fBool, fTruth, truth, fNot, fAnd, fOr, fBin, fUn, fVar, vE, eV, fzr, fC, rd, fCallP, fCallI, fCons, fNil, rCons, rNil, fCall, rds, g1, fTup, fLst, vNot, vAnd, vOr, vIf, heldAt, heldL, PL.putAt, Sl.held, Sl.put, fMut, mApp, gN, gTn, gsCons, gsNil, gPut, putD, aSeq, seqD, fYes, okW, wipeA, backA, fFor, fLc, fDc, fSc, fSortSet, gIsi, isK, gLen, gIntT, gTuple, gList, gDict, hdK_nil, hdK_i, hdK_s, dKey, gIs, gIsNot, isD, gEq_str, gNe_str, gEq_int, gNe_int, gEq_bool, gNe_bool, gIx_t0, gIx_t1, gIx_t2, gIx_l0, gIx_l1, gIx_l2, gIn2, gInL2, List.length_cons, List.length_nil, List.map_cons, List.map_nil, List.replicate, List.cons_append, List.nil_append, List.getElem?_cons_zero, List.getElem?_cons_succ, List.set_cons_zero, List.set_cons_succ, Nat.reduceAdd, Nat.reduceSub, Nat.reduceEqDiff, List.all_cons, List.all_nil, Option.isNone, Option.map_some, Option.map_none, Bool.and_self, Bool.and_true, Bool.true_and, Bool.and_false, Bool.false_and, Bool.or_true, Bool.true_or, Bool.or_false, Bool.false_or, Bool.or_self, Bool.not_true, Bool.not_false, if_true, if_false, reduceIte, Bool.false_eq_true, decide_true, decide_false, ite_true, ite_false, tD, q, lo]
    · cases b with
      | true =>
        have ih := e_ahead_loop M hM T x r found (.fz (.str (sd true))) (.fz (.str y)) (by omega)
        rw [e1] at ih ⊢
        rcases ih with ⟨ys, st, h1, ih⟩ | ⟨ys, s3', s4', h1, ih⟩
        · left
          refine ⟨ys, st, h1, ?_⟩
          simp (decide := true) only [Mir.next, dPure, dIo, endI, args0, argsI, fSeq, fIf, fSet, fSetN, fRet, fRetN, fDrop, fSkip, fAsg, fPar, xMk, fBool, fTruth, truth, fNot, fAnd, fOr, fBin, fUn, fVar, vE, eV, fzr, fC, rd, fCallP, fCallI, fCons, fNil, rCons, rNil, fCall, rds, g1, fTup, fLst, vNot, vAnd, vOr, vIf, heldAt, heldL, PL.putAt, Sl.held, Sl.put, fMut, mApp, gN, gTn, gsCons, gsNil, gPut, putD, aSeq, seqD, fYes, okW, wipeA, backA, fFor, fLc, fDc, fSc, fSortSet, gIsi, isK, gLen, gIntT, gTuple, gList, gDict, hdK_nil, hdK_i, hdK_s, dKey, gIs, gIsNot, isD, gEq_str, gNe_str, gEq_int, gNe_int, gEq_bool, gNe_bool, gIx_t0, gIx_t1, gIx_t2, gIx_l0, gIx_l1, gIx_l2, gIn2, gInL2, List.length_cons, List.length_nil, List.map_cons, List.map_nil, List.replicate, List.cons_append, List.nil_append, List.getElem?_cons_zero, List.getElem?_cons_succ, List.set_cons_zero, List.set_cons_succ, Nat.reduceAdd, Nat.reduceSub, Nat.reduceEqDiff, List.all_cons, List.all_nil, Option.isNone, Option.map_some, Option.map_none, Bool.and_self, Bool.and_true, Bool.true_and, Bool.and_false, Bool.false_and, Bool.or_true, Bool.true_or, Bool.or_false, Bool.false_or, Bool.or_self, Bool.not_true, Bool.not_false, if_true, if_false, reduceIte, Bool.false_eq_true, decide_true, decide_false, ite_true, ite_false, tD, q, sd]
          exact ih
        · right
          refine ⟨ys, s3', s4', h1, ?_⟩
          simp (decide := true) only [Mir.next, dPure, dIo, endI, args0, argsI, fSeq, fIf, fSet, fSetN, fRet, fRetN, fDrop, fSkip, fAsg, fPar, xMk, fBool, fTruth, truth, fNot, fAnd, fOr, fBin, fUn, fVar, vE, eV, fzr, fC, rd, fCallP, fCallI, fCons, fNil, rCons, rNil, fCall, rds, g1, fTup, fLst, vNot, vAnd, vOr, vIf, heldAt, heldL, PL.putAt, Sl.held, Sl.put, fMut, mApp, gN, gTn, gsCons, gsNil, gPut, putD, aSeq, seqD, fYes, okW, wipeA, backA, fFor, fLc, fDc, fSc, fSortSet, gIsi, isK, gLen, gIntT, gTuple, gList, gDict, hdK_nil, hdK_i, hdK_s, dKey, gIs, gIsNot, isD, gEq_str, gNe_str, gEq_int, gNe_int, gEq_bool, gNe_bool, gIx_t0, gIx_t1, gIx_t2, gIx_l0, gIx_l1, gIx_l2, gIn2, gInL2, List.length_cons, List.length_nil, List.map_cons, List.map_nil, List.replicate, List.cons_append, List.nil_append, List.getElem?_cons_zero, List.getElem?_cons_succ, List.set_cons_zero, List.set_cons_succ, Nat.reduceAdd, Nat.reduceSub, Nat.reduceEqDiff, List.all_cons, List.all_nil, Option.isNone, Option.map_some, Option.map_none, Bool.and_self, Bool.and_true, Bool.true_and, Bool.and_false, Bool.false_and, Bool.or_true, Bool.true_or, Bool.or_false, Bool.false_or, Bool.or_self, Bool.not_true, Bool.not_false, if_true, if_false, reduceIte, Bool.false_eq_true, decide_true, decide_false, ite_true, ite_false, tD, q, sd]
          exact ih
      | false =>
        have ih := e_ahead_loop M hM T x r (found ++ [y]) (.fz (.str (sd false))) (.fz (.str y)) (by rw [List.length_append, List.length_singleton]; omega)
        have e2 : txts (found ++ [y]) = .list (found.map PyData.str ++ [.str y]) := by
          unfold txts
          rw [List.map_append]
          rfl
        have z : (found.map PyData.str).length < sizeLine := by rw [List.length_map]; omega
        rw [e1]
        rw [e2] at ih
        rcases ih with ⟨ys, st, h1, ih⟩ | ⟨ys, s3', s4', h1, ih⟩
        · left
          refine ⟨ys, st, h1, ?_⟩
          simp (decide := true) only [Mir.next, dPure, dIo, endI, args0, argsI, fSeq, fIf, fSet, fSetN, fRet, fRetN, fDrop, fSkip, fAsg, fPar, xMk, fBool, fTruth, truth, fNot, fAnd, fOr, fBin, fUn, fVar, vE, eV, fzr, fC, rd, fCallP, fCallI, fCons, fNil, rCons, rNil, fCall, rds, g1, fTup, fLst, vNot, vAnd, vOr, vIf, heldAt, heldL, PL.putAt, Sl.held, Sl.put, fMut, mApp, gN, gTn, gsCons, gsNil, gPut, putD, aSeq, seqD, fYes, okW, wipeA, backA, fFor, fLc, fDc, fSc, fSortSet, gIsi, isK, gLen, gIntT, gTuple, gList, gDict, hdK_nil, hdK_i, hdK_s, dKey, gIs, gIsNot, isD, gEq_str, gNe_str, gEq_int, gNe_int, gEq_bool, gNe_bool, gIx_t0, gIx_t1, gIx_t2, gIx_l0, gIx_l1, gIx_l2, gIn2, gInL2, List.length_cons, List.length_nil, List.map_cons, List.map_nil, List.replicate, List.cons_append, List.nil_append, List.getElem?_cons_zero, List.getElem?_cons_succ, List.set_cons_zero, List.set_cons_succ, Nat.reduceAdd, Nat.reduceSub, Nat.reduceEqDiff, List.all_cons, List.all_nil, Option.isNone, Option.map_some, Option.map_none, Bool.and_self, Bool.and_true, Bool.true_and, Bool.and_false, Bool.false_and, Bool.or_true, Bool.true_or, Bool.or_false, Bool.false_or, Bool.or_self, Bool.not_true, Bool.not_false, if_true, if_false, reduceIte, Bool.false_eq_true, decide_true, decide_false, ite_true, ite_false, tD, q, sd, z]
          exact ih
        · right
          refine ⟨ys, s3', s4', h1, ?_⟩
          simp (decide := true) only [Mir.next, dPure, dIo, endI, args0, argsI, fSeq, fIf, fSet, fSetN, fRet, fRetN, fDrop, fSkip, fAsg, fPar, xMk, fBool, fTruth, truth, fNot, fAnd, fOr, fBin, fUn, fVar, vE, eV, fzr, fC, rd, fCallP, fCallI, fCons, fNil, rCons, rNil, fCall, rds, g1, fTup, fLst, vNot, vAnd, vOr, vIf, heldAt, heldL, PL.putAt, Sl.held, Sl.put, fMut, mApp, gN, gTn, gsCons, gsNil, gPut, putD, aSeq, seqD, fYes, okW, wipeA, backA, fFor, fLc, fDc, fSc, fSortSet, gIsi, isK, gLen, gIntT, gTuple, gList, gDict, hdK_nil, hdK_i, hdK_s, dKey, gIs, gIsNot, isD, gEq_str, gNe_str, gEq_int, gNe_int, gEq_bool, gNe_bool, gIx_t0, gIx_t1, gIx_t2, gIx_l0, gIx_l1, gIx_l2, gIn2, gInL2, List.length_cons, List.length_nil, List.map_cons, List.map_nil, List.replicate, List.cons_append, List.nil_append, List.getElem?_cons_zero, List.getElem?_cons_succ, List.set_cons_zero, List.set_cons_succ, Nat.reduceAdd, Nat.reduceSub, Nat.reduceEqDiff, List.all_cons, List.all_nil, Option.isNone, Option.map_some, Option.map_none, Bool.and_self, Bool.and_true, Bool.true_and, Bool.and_false, Bool.false_and, Bool.or_true, Bool.true_or, Bool.or_false, Bool.false_or, Bool.or_self, Bool.not_true, Bool.not_false, if_true, if_false, reduceIte, Bool.false_eq_true, decide_true, decide_false, ite_true, ite_false, tD, q, sd, z]
          exact ih
theorem e_ahead (M : Mir) (hM : LO M) (ts : T0) (x : Str) (h : ts.length ≤ 100) : ∃ d, M.next.f_ahead_of [tn ts, .str x] = some d := by
  have e0 : tn ts = .tuple (ts.map tD) := rfl
  have e1 : txts [] = .list [] := rfl
  rcases e_ahead_loop M hM (.fz (tn ts)) x ts [] .un .un (by rw [List.length_nil]; omega) with ⟨ys, st, _, e⟩ | ⟨ys, s3, s4, hy, e⟩
  · refine ⟨lotD ys, ?_⟩
    rw [e0, e1] at e
    rw [e0]
    simp (decide := true) only [b_ahead_of, Mir.next, dPure, dIo, endI, args0, argsI, fSeq, fIf, fSet, fSetN, fRet, fRetN, fDrop, fSkip, fAsg, fPar, xMk, fBool, fTruth, truth, fNot, fAnd, fOr, fBin, fUn, fVar, vE, eV, fzr, fC, rd, fCallP, fCallI, fCons, fNil, rCons, rNil, fCall, rds, g1, fTup, fLst, vNot, vAnd, vOr, vIf, heldAt, heldL, PL.putAt, Sl.held, Sl.put, fMut, mApp, gN, gTn, gsCons, gsNil, gPut, putD, aSeq, seqD, fYes, okW, wipeA, backA, fFor, fLc, fDc, fSc, fSortSet, gIsi, isK, gLen, gIntT, gTuple, gList, gDict, hdK_nil, hdK_i, hdK_s, dKey, gIs, gIsNot, isD, gEq_str, gNe_str, gEq_int, gNe_int, gEq_bool, gNe_bool, gIx_t0, gIx_t1, gIx_t2, gIx_l0, gIx_l1, gIx_l2, gIn2, gInL2, List.length_cons, List.length_nil, List.map_cons, List.map_nil, List.replicate, List.cons_append, List.nil_append, List.getElem?_cons_zero, List.getElem?_cons_succ, List.set_cons_zero, List.set_cons_succ, Nat.reduceAdd, Nat.reduceSub, Nat.reduceEqDiff, List.all_cons, List.all_nil, Option.isNone, Option.map_some, Option.map_none, Bool.and_self, Bool.and_true, Bool.true_and, Bool.and_false, Bool.false_and, Bool.or_true, Bool.true_or, Bool.or_false, Bool.false_or, Bool.or_self, Bool.not_true, Bool.not_false, if_true, if_false, reduceIte, Bool.false_eq_true, decide_true, decide_false, ite_true, ite_false, e]
  · refine ⟨lotD ys, ?_⟩
    have lo := hM ys hy
    have e2 : txts ys = .list (ys.map PyData.str) := rfl
    rw [e0, e1, e2] at e
    rw [e2] at lo
    rw [e0]
    simp (decide := true) only [b_ahead_of, Mir.next, dPure, dIo, endI, args0, argsI, fSeq, fIf, fSet, fSetN, fRet, fRetN, fDrop, fSkip, fAsg, fPar, xMk, fBool, fTruth, truth, fNot, fAnd, fOr, fBin, fUn, fVar, vE, eV, fzr, fC, rd, fCallP, fCallI, fCons, fNil, rCons, rNil, fCall, rds, g1, fTup, fLst, vNot, vAnd, vOr, vIf, heldAt, heldL, PL.putAt, Sl.held, Sl.put, fMut, mApp, gN, gTn, gsCons, gsNil, gPut, putD, aSeq, seqD, fYes, okW, wipeA, backA, fFor, fLc, fDc, fSc, fSortSet, gIsi, isK, gLen, gIntT, gTuple, gList, gDict, hdK_nil, hdK_i, hdK_s, dKey, gIs, gIsNot, isD, gEq_str, gNe_str, gEq_int, gNe_int, gEq_bool, gNe_bool, gIx_t0, gIx_t1, gIx_t2, gIx_l0, gIx_l1, gIx_l2, gIn2, gInL2, List.length_cons, List.length_nil, List.map_cons, List.map_nil, List.replicate, List.cons_append, List.nil_append, List.getElem?_cons_zero, List.getElem?_cons_succ, List.set_cons_zero, List.set_cons_succ, Nat.reduceAdd, Nat.reduceSub, Nat.reduceEqDiff, List.all_cons, List.all_nil, Option.isNone, Option.map_some, Option.map_none, Bool.and_self, Bool.and_true, Bool.true_and, Bool.and_false, Bool.false_and, Bool.or_true, Bool.true_or, Bool.or_false, Bool.false_or, Bool.or_self, Bool.not_true, Bool.not_false, if_true, if_false, reduceIte, Bool.false_eq_true, decide_true, decide_false, ite_true, ite_false, e, lo]
/-! ### a plain game -/
def AO (M : Mir) : Prop := ∀ (ts : T0) (x : Str), ts.length ≤ 100 → ∃ d, M.f_ahead_of [tn ts, .str x] = some d
theorem e_plain_loop (M : Mir) (hM : AO M) (all : T0) (ha : all.length ≤ 100) (N : Sl) : ∀ (ts : T0) (acc : List (Dt × Dt)), ts.length + acc.length ≤ 200 →
    ∃ out, loopK (gTn 2 (gsCons (gN 2) (gsCons (gN 3) gsNil))) (fBool (fBin gEq (fVar 2) (vE (fC (.str "some"))))) (eV (fVar 3)) (fCallP M.f_ahead_of (fCons (eV (fVar 0)) (fCons (eV (fVar 3)) fNil))) [2, 3] (ts.map tD) [.fz (tn all), N, .un, .un] acc = some (out, [.fz (tn all), N, .un, .un])
  | [], acc, _ => ⟨acc, rfl⟩
  | (b, y) :: r, acc, h => by
    rw [List.length_cons] at h
    have big : (1000 : Nat) < sizeLine := by decide
    obtain ⟨d, hd⟩ := hM all y ha
    cases b with
    | false =>
      obtain ⟨out, ih⟩ := e_plain_loop M hM all ha N r acc (by omega)
      exact ⟨out, by rw [List.map_cons]; simp (decide := true) only [loopK, Mir.next, dPure, dIo, endI, args0, argsI, fSeq, fIf, fSet, fSetN, fRet, fRetN, fDrop, fSkip, fAsg, fPar, xMk, fBool, fTruth, truth, fNot, fAnd, fOr, fBin, fUn, fVar, vE, eV, fzr, fC, rd, fCallP, fCallI, fCons, fNil, rCons, rNil, fCall, rds, g1, fTup, fLst, vNot, vAnd, vOr, vIf, heldAt, heldL, PL.putAt, Sl.held, Sl.put, fMut, mApp, gN, gTn, gsCons, gsNil, gPut, putD, aSeq, seqD, fYes, okW, wipeA, backA, fFor, fLc, fDc, fSc, fSortSet, gIsi, isK, gLen, gIntT, gTuple, gList, gDict, hdK_nil, hdK_i, hdK_s, dKey, gIs, gIsNot, isD, gEq_str, gNe_str, gEq_int, gNe_int, gEq_bool, gNe_bool, gIx_t0, gIx_t1, gIx_t2, gIx_l0, gIx_l1, gIx_l2, gIn2, gInL2, List.length_cons, List.length_nil, List.map_cons, List.map_nil, List.replicate, List.cons_append, List.nil_append, List.getElem?_cons_zero, List.getElem?_cons_succ, List.set_cons_zero, List.set_cons_succ, Nat.reduceAdd, Nat.reduceSub, Nat.reduceEqDiff, List.all_cons, List.all_nil, Option.isNone, Option.map_some, Option.map_none, Bool.and_self, Bool.and_true, Bool.true_and, Bool.and_false, Bool.false_and, Bool.or_true, Bool.true_or, Bool.or_false, Bool.false_or, Bool.or_self, Bool.not_true, Bool.not_false, if_true, if_false, reduceIte, Bool.false_eq_true, decide_true, decide_false, ite_true, ite_false, tD, sd, ih]⟩
    | true =>
      have pl : (putKs (.str y) d acc).length ≤ acc.length + 1 := by
        have gen : ∀ l : List (Dt × Dt), (putKs (.str y) d l).length ≤ l.length + 1 := by
          intro l
          induction l with
          | nil => exact Nat.le_refl _
          | cons p l ihl =>
            obtain ⟨a, b⟩ := p
            unfold putKs
            split
            · split
              · rw [List.length_cons, List.length_cons]; omega
              · rw [List.length_cons, List.length_cons]; omega
            · rw [List.length_cons, List.length_cons]; omega
        exact gen acc
      obtain ⟨out, ih⟩ := e_plain_loop M hM all ha N r (putKs (.str y) d acc) (by omega)
      have z : acc.length < sizeLine := by omega
      exact ⟨out, by rw [List.map_cons]; simp (decide := true) only [loopK, Mir.next, dPure, dIo, endI, args0, argsI, fSeq, fIf, fSet, fSetN, fRet, fRetN, fDrop, fSkip, fAsg, fPar, xMk, fBool, fTruth, truth, fNot, fAnd, fOr, fBin, fUn, fVar, vE, eV, fzr, fC, rd, fCallP, fCallI, fCons, fNil, rCons, rNil, fCall, rds, g1, fTup, fLst, vNot, vAnd, vOr, vIf, heldAt, heldL, PL.putAt, Sl.held, Sl.put, fMut, mApp, gN, gTn, gsCons, gsNil, gPut, putD, aSeq, seqD, fYes, okW, wipeA, backA, fFor, fLc, fDc, fSc, fSortSet, gIsi, isK, gLen, gIntT, gTuple, gList, gDict, hdK_nil, hdK_i, hdK_s, dKey, gIs, gIsNot, isD, gEq_str, gNe_str, gEq_int, gNe_int, gEq_bool, gNe_bool, gIx_t0, gIx_t1, gIx_t2, gIx_l0, gIx_l1, gIx_l2, gIn2, gInL2, List.length_cons, List.length_nil, List.map_cons, List.map_nil, List.replicate, List.cons_append, List.nil_append, List.getElem?_cons_zero, List.getElem?_cons_succ, List.set_cons_zero, List.set_cons_succ, Nat.reduceAdd, Nat.reduceSub, Nat.reduceEqDiff, List.all_cons, List.all_nil, Option.isNone, Option.map_some, Option.map_none, Bool.and_self, Bool.and_true, Bool.true_and, Bool.and_false, Bool.false_and, Bool.or_true, Bool.true_or, Bool.or_false, Bool.false_or, Bool.or_self, Bool.not_true, Bool.not_false, if_true, if_false, reduceIte, Bool.false_eq_true, decide_true, decide_false, ite_true, ite_false, tD, sd, hd, z, ih]⟩
theorem e_plain (M : Mir) (hM : AO M) (ts : T0) (f : Dt) (h : ts.length ≤ 100) : ∃ g, M.next.f_plain_game [tn ts, f] = some (.tuple [tn ts, .dict g, f]) := by
  obtain ⟨out, e⟩ := e_plain_loop M hM ts h (.fz f) ts [] (by rw [List.length_nil]; omega)
  refine ⟨out, ?_⟩
  have e0 : tn ts = .tuple (ts.map tD) := rfl
  rw [e0] at e ⊢
  simp (decide := true) only [b_plain_game, Mir.next, dPure, dIo, endI, args0, argsI, fSeq, fIf, fSet, fSetN, fRet, fRetN, fDrop, fSkip, fAsg, fPar, xMk, fBool, fTruth, truth, fNot, fAnd, fOr, fBin, fUn, fVar, vE, eV, fzr, fC, rd, fCallP, fCallI, fCons, fNil, rCons, rNil, fCall, rds, g1, fTup, fLst, vNot, vAnd, vOr, vIf, heldAt, heldL, PL.putAt, Sl.held, Sl.put, fMut, mApp, gN, gTn, gsCons, gsNil, gPut, putD, aSeq, seqD, fYes, okW, wipeA, backA, fFor, fLc, fDc, fSc, fSortSet, gIsi, isK, gLen, gIntT, gTuple, gList, gDict, hdK_nil, hdK_i, hdK_s, dKey, gIs, gIsNot, isD, gEq_str, gNe_str, gEq_int, gNe_int, gEq_bool, gNe_bool, gIx_t0, gIx_t1, gIx_t2, gIx_l0, gIx_l1, gIx_l2, gIn2, gInL2, List.length_cons, List.length_nil, List.map_cons, List.map_nil, List.replicate, List.cons_append, List.nil_append, List.getElem?_cons_zero, List.getElem?_cons_succ, List.set_cons_zero, List.set_cons_succ, Nat.reduceAdd, Nat.reduceSub, Nat.reduceEqDiff, List.all_cons, List.all_nil, Option.isNone, Option.map_some, Option.map_none, Bool.and_self, Bool.and_true, Bool.true_and, Bool.and_false, Bool.false_and, Bool.or_true, Bool.true_or, Bool.or_false, Bool.false_or, Bool.or_self, Bool.not_true, Bool.not_false, if_true, if_false, reduceIte, Bool.false_eq_true, decide_true, decide_false, ite_true, ite_false, e]
theorem e_closed (M : Mir) (ts : T0) (g : Dt) (f : Fm) : M.next.f_closed [.tuple [tn ts, g, f.d]] = some (cls ts f).d := by
  obtain ⟨st, ⟨s2, s3, e⟩, h2⟩ := loopF_inv (g := gTn 2 (gsCons (gN 2) (gsCons (gN 3) gsNil))) (body := fSet 1 (fTup (fCons (eV (fVar 2)) (fCons (eV (fVar 3)) (fCons (eV (fVar 1)) fNil)))))
    tD (fun us st => ∃ h s2 s3, st = [.fz (.tuple [tn ts, g, f.d]), .fz h.d, s2, s3] ∧ us.foldl (fun h t => qf t h) h = cls ts f)
    (fun st => ∃ s2 s3, st = [.fz (.tuple [tn ts, g, f.d]), .fz (cls ts f).d, s2, s3])
    (fun st ⟨h, s2, s3, e1, e2⟩ => ⟨s2, s3, by rw [e1, ← e2]; rfl⟩)
    (fun t us st ⟨h, s2, s3, e1, e2⟩ => by
      subst e1
      have q := qf_d t h
      exact ⟨[.fz (.tuple [tn ts, g, f.d]), .fz h.d, .fz (.str (sd t.1)), .fz (.str t.2)], [.fz (.tuple [tn ts, g, f.d]), .fz (qf t h).d, .fz (.str (sd t.1)), .fz (.str t.2)], rfl, by simp (decide := true) only [Mir.next, dPure, dIo, endI, args0, argsI, fSeq, fIf, fSet, fSetN, fRet, fRetN, fDrop, fSkip, fAsg, fPar, xMk, fBool, fTruth, truth, fNot, fAnd, fOr, fBin, fUn, fVar, vE, eV, fzr, fC, rd, fCallP, fCallI, fCons, fNil, rCons, rNil, fCall, rds, g1, fTup, fLst, vNot, vAnd, vOr, vIf, heldAt, heldL, PL.putAt, Sl.held, Sl.put, fMut, mApp, gN, gTn, gsCons, gsNil, gPut, putD, aSeq, seqD, fYes, okW, wipeA, backA, fFor, fLc, fDc, fSc, fSortSet, gIsi, isK, gLen, gIntT, gTuple, gList, gDict, hdK_nil, hdK_i, hdK_s, dKey, gIs, gIsNot, isD, gEq_str, gNe_str, gEq_int, gNe_int, gEq_bool, gNe_bool, gIx_t0, gIx_t1, gIx_t2, gIx_l0, gIx_l1, gIx_l2, gIn2, gInL2, List.length_cons, List.length_nil, List.map_cons, List.map_nil, List.replicate, List.cons_append, List.nil_append, List.getElem?_cons_zero, List.getElem?_cons_succ, List.set_cons_zero, List.set_cons_succ, Nat.reduceAdd, Nat.reduceSub, Nat.reduceEqDiff, List.all_cons, List.all_nil, Option.isNone, Option.map_some, Option.map_none, Bool.and_self, Bool.and_true, Bool.true_and, Bool.and_false, Bool.false_and, Bool.or_true, Bool.true_or, Bool.or_false, Bool.false_or, Bool.or_self, Bool.not_true, Bool.not_false, if_true, if_false, reduceIte, Bool.false_eq_true, decide_true, decide_false, ite_true, ite_false, q], _, _, _, rfl, e2⟩)
    ts.reverse [.fz (.tuple [tn ts, g, f.d]), .fz f.d, .un, .un] ⟨f, _, _, rfl, by rw [List.foldl_reverse]; rfl⟩
  subst e
  rw [List.map_reverse] at h2
  have e0 : tn ts = .tuple (ts.map tD) := rfl
  rw [e0] at h2 ⊢
  simp (decide := true) only [b_closed, Mir.next, dPure, dIo, endI, args0, argsI, fSeq, fIf, fSet, fSetN, fRet, fRetN, fDrop, fSkip, fAsg, fPar, xMk, fBool, fTruth, truth, fNot, fAnd, fOr, fBin, fUn, fVar, vE, eV, fzr, fC, rd, fCallP, fCallI, fCons, fNil, rCons, rNil, fCall, rds, g1, fTup, fLst, vNot, vAnd, vOr, vIf, heldAt, heldL, PL.putAt, Sl.held, Sl.put, fMut, mApp, gN, gTn, gsCons, gsNil, gPut, putD, aSeq, seqD, fYes, okW, wipeA, backA, fFor, fLc, fDc, fSc, fSortSet, gIsi, isK, gLen, gIntT, gTuple, gList, gDict, hdK_nil, hdK_i, hdK_s, dKey, gIs, gIsNot, isD, gEq_str, gNe_str, gEq_int, gNe_int, gEq_bool, gNe_bool, gIx_t0, gIx_t1, gIx_t2, gIx_l0, gIx_l1, gIx_l2, gIn2, gInL2, List.length_cons, List.length_nil, List.map_cons, List.map_nil, List.replicate, List.cons_append, List.nil_append, List.getElem?_cons_zero, List.getElem?_cons_succ, List.set_cons_zero, List.set_cons_succ, Nat.reduceAdd, Nat.reduceSub, Nat.reduceEqDiff, List.all_cons, List.all_nil, Option.isNone, Option.map_some, Option.map_none, Bool.and_self, Bool.and_true, Bool.true_and, Bool.and_false, Bool.false_and, Bool.or_true, Bool.true_or, Bool.or_false, Bool.false_or, Bool.or_self, Bool.not_true, Bool.not_false, if_true, if_false, reduceIte, Bool.false_eq_true, decide_true, decide_false, ite_true, ite_false, gRev, h2]
theorem e_winner (M : Mir) (G : Dt) (h : Fm) (v : Bool) (h1 : M.f_closed [G] = some h.d) (h2 : M.f_worth [h.d, .dict []] = some (.bool v)) : M.next.f_winner [G] = some (.str (sd v)) := by
  cases v <;> simp (decide := true) only [b_winner, Mir.next, dPure, dIo, endI, args0, argsI, fSeq, fIf, fSet, fSetN, fRet, fRetN, fDrop, fSkip, fAsg, fPar, xMk, fBool, fTruth, truth, fNot, fAnd, fOr, fBin, fUn, fVar, vE, eV, fzr, fC, rd, fCallP, fCallI, fCons, fNil, rCons, rNil, fCall, rds, g1, fTup, fLst, vNot, vAnd, vOr, vIf, heldAt, heldL, PL.putAt, Sl.held, Sl.put, fMut, mApp, gN, gTn, gsCons, gsNil, gPut, putD, aSeq, seqD, fYes, okW, wipeA, backA, fFor, fLc, fDc, fSc, fSortSet, gIsi, isK, gLen, gIntT, gTuple, gList, gDict, hdK_nil, hdK_i, hdK_s, dKey, gIs, gIsNot, isD, gEq_str, gNe_str, gEq_int, gNe_int, gEq_bool, gNe_bool, gIx_t0, gIx_t1, gIx_t2, gIx_l0, gIx_l1, gIx_l2, gIn2, gInL2, List.length_cons, List.length_nil, List.map_cons, List.map_nil, List.replicate, List.cons_append, List.nil_append, List.getElem?_cons_zero, List.getElem?_cons_succ, List.set_cons_zero, List.set_cons_succ, Nat.reduceAdd, Nat.reduceSub, Nat.reduceEqDiff, List.all_cons, List.all_nil, Option.isNone, Option.map_some, Option.map_none, Bool.and_self, Bool.and_true, Bool.true_and, Bool.and_false, Bool.false_and, Bool.or_true, Bool.true_or, Bool.or_false, Bool.false_or, Bool.or_self, Bool.not_true, Bool.not_false, if_true, if_false, reduceIte, Bool.false_eq_true, decide_true, decide_false, ite_true, ite_false, h1, h2, sd]

end K11
namespace K11
open PySem PySem.Spec PyProof.Rows L2 PL
/-! ### free letters -/
def Fm.flat : Fm → Bool
  | .lit _ => true
  | .con _ => true
  | .not f => f.flat
  | .bin _ f g => f.flat && g.flat
  | _ => false
def Fm.lets : Fm → List Str
  | .lit x => [x]
  | .con _ => []
  | .not f => f.lets
  | .bin _ f g => f.lets ++ g.lets
  | _ => []
theorem fm_tup (f : Fm) : ∃ l, f.d = .tuple l := by
  cases f with
  | con b => cases b <;> exact ⟨_, rfl⟩
  | _ => exact ⟨_, rfl⟩
theorem isT (f : Fm) : isK .tuple f.d = true := by
  obtain ⟨l, e⟩ := fm_tup f
  rw [e]
  rfl
theorem isS (x : Str) : isK .tuple (.str x) = false := rfl
def Smd (M : Mir) (d : Dt) : Prop := M.f__law_same [d, d] = some (.bool true)
theorem s_none (M : Mir) : Smd M.next .none := by
  unfold Smd
  simp (decide := true) only [b__law_same, Mir.next, dPure, dIo, endI, args0, argsI, fSeq, fIf, fSet, fSetN, fRet, fRetN, fDrop, fSkip, fAsg, fPar, xMk, fBool, fTruth, truth, fNot, fAnd, fOr, fBin, fUn, fVar, vE, eV, fzr, fC, rd, fCallP, fCallI, fCons, fNil, rCons, rNil, fCall, rds, g1, fTup, fLst, vNot, vAnd, vOr, vIf, heldAt, heldL, PL.putAt, Sl.held, Sl.put, fMut, mApp, gN, gTn, gsCons, gsNil, gPut, putD, aSeq, seqD, fYes, okW, wipeA, backA, fFor, fLc, fDc, fSc, fSortSet, gIsi, isK, gLen, gIntT, gTuple, gList, gDict, hdK_nil, hdK_i, hdK_s, dKey, gIs, gIsNot, isD, gEq_str, gNe_str, gEq_int, gNe_int, gEq_bool, gNe_bool, gIx_t0, gIx_t1, gIx_t2, gIx_l0, gIx_l1, gIx_l2, gIn2, gInL2, List.length_cons, List.length_nil, List.map_cons, List.map_nil, List.replicate, List.cons_append, List.nil_append, List.getElem?_cons_zero, List.getElem?_cons_succ, List.set_cons_zero, List.set_cons_succ, Nat.reduceAdd, Nat.reduceSub, Nat.reduceEqDiff, List.all_cons, List.all_nil, Option.isNone, Option.map_some, Option.map_none, Bool.and_self, Bool.and_true, Bool.true_and, Bool.and_false, Bool.false_and, Bool.or_true, Bool.true_or, Bool.or_false, Bool.false_or, Bool.or_self, Bool.not_true, Bool.not_false, if_true, if_false, reduceIte, Bool.false_eq_true, decide_true, decide_false, ite_true, ite_false]
theorem s_bool (M : Mir) (b : Bool) : Smd M.next (.bool b) := by
  unfold Smd
  cases b <;> simp (decide := true) only [b__law_same, Mir.next, dPure, dIo, endI, args0, argsI, fSeq, fIf, fSet, fSetN, fRet, fRetN, fDrop, fSkip, fAsg, fPar, xMk, fBool, fTruth, truth, fNot, fAnd, fOr, fBin, fUn, fVar, vE, eV, fzr, fC, rd, fCallP, fCallI, fCons, fNil, rCons, rNil, fCall, rds, g1, fTup, fLst, vNot, vAnd, vOr, vIf, heldAt, heldL, PL.putAt, Sl.held, Sl.put, fMut, mApp, gN, gTn, gsCons, gsNil, gPut, putD, aSeq, seqD, fYes, okW, wipeA, backA, fFor, fLc, fDc, fSc, fSortSet, gIsi, isK, gLen, gIntT, gTuple, gList, gDict, hdK_nil, hdK_i, hdK_s, dKey, gIs, gIsNot, isD, gEq_str, gNe_str, gEq_int, gNe_int, gEq_bool, gNe_bool, gIx_t0, gIx_t1, gIx_t2, gIx_l0, gIx_l1, gIx_l2, gIn2, gInL2, List.length_cons, List.length_nil, List.map_cons, List.map_nil, List.replicate, List.cons_append, List.nil_append, List.getElem?_cons_zero, List.getElem?_cons_succ, List.set_cons_zero, List.set_cons_succ, Nat.reduceAdd, Nat.reduceSub, Nat.reduceEqDiff, List.all_cons, List.all_nil, Option.isNone, Option.map_some, Option.map_none, Bool.and_self, Bool.and_true, Bool.true_and, Bool.and_false, Bool.false_and, Bool.or_true, Bool.true_or, Bool.or_false, Bool.false_or, Bool.or_self, Bool.not_true, Bool.not_false, if_true, if_false, reduceIte, Bool.false_eq_true, decide_true, decide_false, ite_true, ite_false]
theorem s_str (M : Mir) (x : Str) (h : (reprText x).length ≤ sizeLine) : Smd M.next (.str x) := by
  unfold Smd
  simp (decide := true) only [b__law_same, Mir.next, dPure, dIo, endI, args0, argsI, fSeq, fIf, fSet, fSetN, fRet, fRetN, fDrop, fSkip, fAsg, fPar, xMk, fBool, fTruth, truth, fNot, fAnd, fOr, fBin, fUn, fVar, vE, eV, fzr, fC, rd, fCallP, fCallI, fCons, fNil, rCons, rNil, fCall, rds, g1, fTup, fLst, vNot, vAnd, vOr, vIf, heldAt, heldL, PL.putAt, Sl.held, Sl.put, fMut, mApp, gN, gTn, gsCons, gsNil, gPut, putD, aSeq, seqD, fYes, okW, wipeA, backA, fFor, fLc, fDc, fSc, fSortSet, gIsi, isK, gLen, gIntT, gTuple, gList, gDict, hdK_nil, hdK_i, hdK_s, dKey, gIs, gIsNot, isD, gEq_str, gNe_str, gEq_int, gNe_int, gEq_bool, gNe_bool, gIx_t0, gIx_t1, gIx_t2, gIx_l0, gIx_l1, gIx_l2, gIn2, gInL2, List.length_cons, List.length_nil, List.map_cons, List.map_nil, List.replicate, List.cons_append, List.nil_append, List.getElem?_cons_zero, List.getElem?_cons_succ, List.set_cons_zero, List.set_cons_succ, Nat.reduceAdd, Nat.reduceSub, Nat.reduceEqDiff, List.all_cons, List.all_nil, Option.isNone, Option.map_some, Option.map_none, Bool.and_self, Bool.and_true, Bool.true_and, Bool.and_false, Bool.false_and, Bool.or_true, Bool.true_or, Bool.or_false, Bool.false_or, Bool.or_self, Bool.not_true, Bool.not_false, if_true, if_false, reduceIte, Bool.false_eq_true, decide_true, decide_false, ite_true, ite_false, gRepr, h]
theorem s_seq (M : Mir) (X : Dt) (ds : List Dt) (hX : ∀ i : Nat, gIx X (.int (0 + (i : Int))) = ds[i]?) (h : ∀ d ∈ ds, Smd M d) : ∃ st, loopF (gN 2) (fIf (fNot (fTruth (vE (fCallP M.f__law_same (fCons (fBin gIx (fVar 0) (fVar 2)) (fCons (fBin gIx (fVar 1) (fVar 2)) fNil)))))) (fRet (fC (.bool false))) fSkip) (rgD 0 ds.length) [.fz X, .fz X, .un] = some (.nx st) := by
  obtain ⟨st, _, e⟩ := loopF_inv (g := gN 2) (body := fIf (fNot (fTruth (vE (fCallP M.f__law_same (fCons (fBin gIx (fVar 0) (fVar 2)) (fCons (fBin gIx (fVar 1) (fVar 2)) fNil)))))) (fRet (fC (.bool false))) fSkip)
    (fun i : Nat => PyData.int (0 + (i : Int))) (fun r st => ∃ s2, st = [.fz X, .fz X, s2] ∧ ∀ i ∈ r, i < ds.length) (fun _ => True) (fun _ _ => trivial)
    (fun i r st ⟨s2, e1, e2⟩ => by
      subst e1
      have hi := e2 i List.mem_cons_self
      have e3 : gIx X (.int (0 + (i : Int))) = some ds[i] := by rw [hX, List.getElem?_eq_getElem hi]
      have e4 : M.f__law_same [ds[i], ds[i]] = some (.bool true) := h _ (List.getElem_mem hi)
      exact ⟨[.fz X, .fz X, .fz (.int (0 + (i : Int)))], [.fz X, .fz X, .fz (.int (0 + (i : Int)))], rfl, by simp (decide := true) only [Mir.next, dPure, dIo, endI, args0, argsI, fSeq, fIf, fSet, fSetN, fRet, fRetN, fDrop, fSkip, fAsg, fPar, xMk, fBool, fTruth, truth, fNot, fAnd, fOr, fBin, fUn, fVar, vE, eV, fzr, fC, rd, fCallP, fCallI, fCons, fNil, rCons, rNil, fCall, rds, g1, fTup, fLst, vNot, vAnd, vOr, vIf, heldAt, heldL, PL.putAt, Sl.held, Sl.put, fMut, mApp, gN, gTn, gsCons, gsNil, gPut, putD, aSeq, seqD, fYes, okW, wipeA, backA, fFor, fLc, fDc, fSc, fSortSet, gIsi, isK, gLen, gIntT, gTuple, gList, gDict, hdK_nil, hdK_i, hdK_s, dKey, gIs, gIsNot, isD, gEq_str, gNe_str, gEq_int, gNe_int, gEq_bool, gNe_bool, gIx_t0, gIx_t1, gIx_t2, gIx_l0, gIx_l1, gIx_l2, gIn2, gInL2, List.length_cons, List.length_nil, List.map_cons, List.map_nil, List.replicate, List.cons_append, List.nil_append, List.getElem?_cons_zero, List.getElem?_cons_succ, List.set_cons_zero, List.set_cons_succ, Nat.reduceAdd, Nat.reduceSub, Nat.reduceEqDiff, List.all_cons, List.all_nil, Option.isNone, Option.map_some, Option.map_none, Bool.and_self, Bool.and_true, Bool.true_and, Bool.and_false, Bool.false_and, Bool.or_true, Bool.true_or, Bool.or_false, Bool.false_or, Bool.or_self, Bool.not_true, Bool.not_false, if_true, if_false, reduceIte, Bool.false_eq_true, decide_true, decide_false, ite_true, ite_false, e3, e4], _, rfl, fun j hj => e2 j (List.mem_cons_of_mem _ hj)⟩)
    (List.range ds.length) [.fz X, .fz X, .un] ⟨_, rfl, fun i hi => List.mem_range.mp hi⟩
  exact ⟨st, e⟩
theorem s_list (M : Mir) (ds : List Dt) (hl : ds.length ≤ 1000) (h : ∀ d ∈ ds, Smd M d) : Smd M.next (.list ds) := by
  obtain ⟨st, e⟩ := s_seq M (.list ds) ds (fun i => by rw [Int.zero_add, gIx_ln]) h
  have big : (1000 : Nat) < sizeLine := by decide
  have f := for_rng (f := fCall (g1 gLen) (rCons (fVar 1) rNil)) (g := gN 2) (body := fIf (fNot (fTruth (vE (fCallP M.f__law_same (fCons (fBin gIx (fVar 0) (fVar 2)) (fCons (fBin gIx (fVar 1) (fVar 2)) fNil)))))) (fRet (fC (.bool false))) fSkip) (as := [.fz (.list ds), .fz (.list ds), .un]) (n := ds.length) rfl (by omega)
  rw [e] at f
  unfold Smd
  simp (decide := true) only [b__law_same, Mir.next, dPure, dIo, endI, args0, argsI, fSeq, fIf, fSet, fSetN, fRet, fRetN, fDrop, fSkip, fAsg, fPar, xMk, fBool, fTruth, truth, fNot, fAnd, fOr, fBin, fUn, fVar, vE, eV, fzr, fC, rd, fCallP, fCallI, fCons, fNil, rCons, rNil, fCall, rds, g1, fTup, fLst, vNot, vAnd, vOr, vIf, heldAt, heldL, PL.putAt, Sl.held, Sl.put, fMut, mApp, gN, gTn, gsCons, gsNil, gPut, putD, aSeq, seqD, fYes, okW, wipeA, backA, fLc, fDc, fSc, fSortSet, gIsi, isK, gLen, gIntT, gTuple, gList, gDict, hdK_nil, hdK_i, hdK_s, dKey, gIs, gIsNot, isD, gEq_str, gNe_str, gEq_int, gNe_int, gEq_bool, gNe_bool, gIx_t0, gIx_t1, gIx_t2, gIx_l0, gIx_l1, gIx_l2, gIn2, gInL2, List.length_cons, List.length_nil, List.map_cons, List.map_nil, List.replicate, List.cons_append, List.nil_append, List.getElem?_cons_zero, List.getElem?_cons_succ, List.set_cons_zero, List.set_cons_succ, Nat.reduceAdd, Nat.reduceSub, Nat.reduceEqDiff, List.all_cons, List.all_nil, Option.isNone, Option.map_some, Option.map_none, Bool.and_self, Bool.and_true, Bool.true_and, Bool.and_false, Bool.false_and, Bool.or_true, Bool.true_or, Bool.or_false, Bool.false_or, Bool.or_self, Bool.not_true, Bool.not_false, if_true, if_false, reduceIte, Bool.false_eq_true, decide_true, decide_false, ite_true, ite_false, f]
theorem s_tup (M : Mir) (ds : List Dt) (hl : ds.length ≤ 1000) (h : ∀ d ∈ ds, Smd M d) : Smd M.next (.tuple ds) := by
  obtain ⟨st, e⟩ := s_seq M (.tuple ds) ds (fun i => by rw [Int.zero_add, gIx_tn]) h
  have big : (1000 : Nat) < sizeLine := by decide
  have f := for_rng (f := fCall (g1 gLen) (rCons (fVar 1) rNil)) (g := gN 2) (body := fIf (fNot (fTruth (vE (fCallP M.f__law_same (fCons (fBin gIx (fVar 0) (fVar 2)) (fCons (fBin gIx (fVar 1) (fVar 2)) fNil)))))) (fRet (fC (.bool false))) fSkip) (as := [.fz (.tuple ds), .fz (.tuple ds), .un]) (n := ds.length) rfl (by omega)
  rw [e] at f
  unfold Smd
  simp (decide := true) only [b__law_same, Mir.next, dPure, dIo, endI, args0, argsI, fSeq, fIf, fSet, fSetN, fRet, fRetN, fDrop, fSkip, fAsg, fPar, xMk, fBool, fTruth, truth, fNot, fAnd, fOr, fBin, fUn, fVar, vE, eV, fzr, fC, rd, fCallP, fCallI, fCons, fNil, rCons, rNil, fCall, rds, g1, fTup, fLst, vNot, vAnd, vOr, vIf, heldAt, heldL, PL.putAt, Sl.held, Sl.put, fMut, mApp, gN, gTn, gsCons, gsNil, gPut, putD, aSeq, seqD, fYes, okW, wipeA, backA, fLc, fDc, fSc, fSortSet, gIsi, isK, gLen, gIntT, gTuple, gList, gDict, hdK_nil, hdK_i, hdK_s, dKey, gIs, gIsNot, isD, gEq_str, gNe_str, gEq_int, gNe_int, gEq_bool, gNe_bool, gIx_t0, gIx_t1, gIx_t2, gIx_l0, gIx_l1, gIx_l2, gIn2, gInL2, List.length_cons, List.length_nil, List.map_cons, List.map_nil, List.replicate, List.cons_append, List.nil_append, List.getElem?_cons_zero, List.getElem?_cons_succ, List.set_cons_zero, List.set_cons_succ, Nat.reduceAdd, Nat.reduceSub, Nat.reduceEqDiff, List.all_cons, List.all_nil, Option.isNone, Option.map_some, Option.map_none, Bool.and_self, Bool.and_true, Bool.true_and, Bool.and_false, Bool.false_and, Bool.or_true, Bool.true_or, Bool.or_false, Bool.false_or, Bool.or_self, Bool.not_true, Bool.not_false, if_true, if_false, reduceIte, Bool.false_eq_true, decide_true, decide_false, ite_true, ite_false, f]
theorem s_dict (M : Mir) (ks : List (Dt × Dt)) (hk : hdK ks = true) (h : Smd M (.list (ks.map fun p => .tuple [p.1, p.2]))) : Smd M.next (.dict ks) := by
  have e : M.f__law_same [.list (ks.map fun p => .tuple [p.1, p.2]), .list (ks.map fun p => .tuple [p.1, p.2])] = some (.bool true) := h
  unfold Smd
  simp (decide := true) only [b__law_same, Mir.next, dPure, dIo, endI, args0, argsI, fSeq, fIf, fSet, fSetN, fRet, fRetN, fDrop, fSkip, fAsg, fPar, xMk, fBool, fTruth, truth, fNot, fAnd, fOr, fBin, fUn, fVar, vE, eV, fzr, fC, rd, fCallP, fCallI, fCons, fNil, rCons, rNil, fCall, rds, g1, fTup, fLst, vNot, vAnd, vOr, vIf, heldAt, heldL, PL.putAt, Sl.held, Sl.put, fMut, mApp, gN, gTn, gsCons, gsNil, gPut, putD, aSeq, seqD, fYes, okW, wipeA, backA, fFor, fLc, fDc, fSc, fSortSet, gIsi, isK, gLen, gIntT, gTuple, gList, gDict, hdK_nil, hdK_i, hdK_s, dKey, gIs, gIsNot, isD, gEq_str, gNe_str, gEq_int, gNe_int, gEq_bool, gNe_bool, gIx_t0, gIx_t1, gIx_t2, gIx_l0, gIx_l1, gIx_l2, gIn2, gInL2, List.length_cons, List.length_nil, List.map_cons, List.map_nil, List.replicate, List.cons_append, List.nil_append, List.getElem?_cons_zero, List.getElem?_cons_succ, List.set_cons_zero, List.set_cons_succ, Nat.reduceAdd, Nat.reduceSub, Nat.reduceEqDiff, List.all_cons, List.all_nil, Option.isNone, Option.map_some, Option.map_none, Bool.and_self, Bool.and_true, Bool.true_and, Bool.and_false, Bool.false_and, Bool.or_true, Bool.true_or, Bool.or_false, Bool.false_or, Bool.or_self, Bool.not_true, Bool.not_false, if_true, if_false, reduceIte, Bool.false_eq_true, decide_true, decide_false, ite_true, ite_false, fItems2, e, hk]
def Rp (x : Str) : Prop := (reprText x).length ≤ sizeLine
theorem s_sg (k : Nat) (s : Sg0) (hl : s.length ≤ 100) (h : ∀ p ∈ s, Rp p.1) : Smd (mir (k + 4)) (sg s) := by
  show Smd (mir (k + 3)).next (.dict _)
  refine s_dict _ _ (hk_sg s) ?_
  show Smd (mir (k + 2)).next _
  refine s_list _ _ (by rw [List.length_map, List.length_map]; omega) fun d hd => ?_
  obtain ⟨p, hp, e⟩ := List.mem_map.mp hd
  obtain ⟨q, hq, e2⟩ := List.mem_map.mp hp
  subst e2
  subst e
  show Smd (mir (k + 1)).next _
  refine s_tup _ _ (by show 2 ≤ 1000; omega) fun d hd => ?_
  rcases List.mem_cons.mp hd with e | hd
  · rw [e]
    exact s_str (mir k) q.1 (h q hq)
  · rw [List.mem_singleton] at hd
    rw [hd]
    exact s_bool (mir k) q.2
theorem s_two (k : Nat) (a b : Dt) (h1 : Smd (mir k) a) (h2 : Smd (mir k) b) : Smd (mir (k + 1)) (.list [a, b]) := by
  show Smd (mir k).next _
  refine s_list _ _ (by show 2 ≤ 1000; omega) fun d hd => ?_
  rcases List.mem_cons.mp hd with e | hd
  · rw [e]; exact h1
  · rw [List.mem_singleton] at hd
    rw [hd]; exact h2

/-! ### the same at every depth from n on -/
def SmN (n : Nat) (d : Dt) : Prop := ∀ k, n ≤ k → Smd (mir k) d
theorem sm_up {n m : Nat} {d : Dt} (h : SmN n d) (hm : n ≤ m) : SmN m d := fun k hk => h k (by omega)
theorem sm_of {n : Nat} {d : Dt} (h : ∀ k, n ≤ k → Smd (mir k).next d) : SmN (n + 1) d := fun k hk => by
  obtain ⟨m, rfl⟩ : ∃ m, k = m + 1 := ⟨k - 1, by omega⟩
  exact h m (by omega)
theorem sm_none : SmN 1 .none := sm_of fun k _ => s_none (mir k)
theorem sm_bool (b : Bool) : SmN 1 (.bool b) := sm_of fun k _ => s_bool (mir k) b
theorem sm_str {x : Str} (h : Rp x) : SmN 1 (.str x) := sm_of fun k _ => s_str (mir k) x h
theorem s_int (M : Mir) (i : Int) (h : i.natAbs.log2 < 1920) : Smd M.next (.int i) := by
  unfold Smd
  simp (decide := true) only [b__law_same, Mir.next, dPure, dIo, endI, args0, argsI, fSeq, fIf, fSet, fSetN, fRet, fRetN, fDrop, fSkip, fAsg, fPar, xMk, fBool, fTruth, truth, fNot, fAnd, fOr, fBin, fUn, fVar, vE, eV, fzr, fC, rd, fCallP, fCallI, fCons, fNil, rCons, rNil, fCall, rds, g1, fTup, fLst, vNot, vAnd, vOr, vIf, heldAt, heldL, PL.putAt, Sl.held, Sl.put, fMut, mApp, gN, gTn, gsCons, gsNil, gPut, putD, aSeq, seqD, fYes, okW, wipeA, backA, fFor, fLc, fDc, fSc, fSortSet, gIsi, isK, gLen, gIntT, gTuple, gList, gDict, hdK_nil, hdK_i, hdK_s, dKey, gIs, gIsNot, isD, gEq_str, gNe_str, gEq_int, gNe_int, gEq_bool, gNe_bool, gIx_t0, gIx_t1, gIx_t2, gIx_l0, gIx_l1, gIx_l2, gIn2, gInL2, List.length_cons, List.length_nil, List.map_cons, List.map_nil, List.replicate, List.cons_append, List.nil_append, List.getElem?_cons_zero, List.getElem?_cons_succ, List.set_cons_zero, List.set_cons_succ, Nat.reduceAdd, Nat.reduceSub, Nat.reduceEqDiff, List.all_cons, List.all_nil, Option.isNone, Option.map_some, Option.map_none, Bool.and_self, Bool.and_true, Bool.true_and, Bool.and_false, Bool.false_and, Bool.or_true, Bool.true_or, Bool.or_false, Bool.false_or, Bool.or_self, Bool.not_true, Bool.not_false, if_true, if_false, reduceIte, Bool.false_eq_true, decide_true, decide_false, ite_true, ite_false, gRepr, h]
theorem sm_int {i : Int} (h : i.natAbs.log2 < 1920) : SmN 1 (.int i) := sm_of fun k _ => s_int (mir k) i h
theorem sm_list {n : Nat} {ds : List Dt} (hl : ds.length ≤ 1000) (h : ∀ d ∈ ds, SmN n d) : SmN (n + 1) (.list ds) := sm_of fun k hk => s_list (mir k) ds hl fun d hd => h d hd k hk
theorem sm_tup {n : Nat} {ds : List Dt} (hl : ds.length ≤ 1000) (h : ∀ d ∈ ds, SmN n d) : SmN (n + 1) (.tuple ds) := sm_of fun k hk => s_tup (mir k) ds hl fun d hd => h d hd k hk
theorem sm_dict {n : Nat} {ks : List (Dt × Dt)} (hl : ks.length ≤ 1000) (hk : hdK ks = true) (h : ∀ p ∈ ks, SmN n p.1 ∧ SmN n p.2) : SmN (n + 3) (.dict ks) := sm_of fun k hk2 => s_dict (mir k) ks hk (sm_list (by rw [List.length_map]; exact hl) (fun d hd => by
  obtain ⟨p, hp, rfl⟩ := List.mem_map.mp hd
  exact sm_tup (by show 2 ≤ 1000; omega) (fun d hd => by
    rcases List.mem_cons.mp hd with e | hd
    · rw [e]; exact (h p hp).1
    · rw [List.mem_singleton] at hd
      rw [hd]; exact (h p hp).2)) k hk2)
end K11
namespace K11
open PySem PySem.Spec PyProof.Rows L2 PL
def intsD (ns : List Int) : Dt := .list (ns.map PyData.int)
theorem e_cell (M : Mir) (ns : List Int) (k : Nat) : ∃ c : Int, M.next.f__law_cell [intsD ns, .int (k : Int)] = some (.int c) := by
  by_cases h : k < ns.length
  · have e1 : (k : Int) < ((ns.map PyData.int).length : Int) := by rw [List.length_map]; omega
    have e2 : (ns.map PyData.int)[k]? = some (.int ns[k]) := by rw [List.getElem?_map, List.getElem?_eq_getElem h]; rfl
    exact ⟨ns[k], by simp (decide := true) only [b__law_cell, Mir.next, dPure, dIo, endI, args0, argsI, fSeq, fIf, fSet, fSetN, fRet, fRetN, fDrop, fSkip, fAsg, fPar, xMk, fBool, fTruth, truth, fNot, fAnd, fOr, fBin, fUn, fVar, vE, eV, fzr, fC, rd, fCallP, fCallI, fCons, fNil, rCons, rNil, fCall, rds, g1, fTup, fLst, vNot, vAnd, vOr, vIf, heldAt, heldL, PL.putAt, Sl.held, Sl.put, fMut, mApp, gN, gTn, gsCons, gsNil, gPut, putD, aSeq, seqD, fYes, okW, wipeA, backA, fFor, fLc, fDc, fSc, fSortSet, gIsi, isK, gLen, gIntT, gTuple, gList, gDict, hdK_nil, hdK_i, hdK_s, dKey, gIs, gIsNot, isD, gEq_str, gNe_str, gEq_int, gNe_int, gEq_bool, gNe_bool, gIx_t0, gIx_t1, gIx_t2, gIx_l0, gIx_l1, gIx_l2, gIn2, gInL2, List.length_cons, List.length_nil, List.map_cons, List.map_nil, List.replicate, List.cons_append, List.nil_append, List.getElem?_cons_zero, List.getElem?_cons_succ, List.set_cons_zero, List.set_cons_succ, Nat.reduceAdd, Nat.reduceSub, Nat.reduceEqDiff, List.all_cons, List.all_nil, Option.isNone, Option.map_some, Option.map_none, Bool.and_self, Bool.and_true, Bool.true_and, Bool.and_false, Bool.false_and, Bool.or_true, Bool.true_or, Bool.or_false, Bool.false_or, Bool.or_self, Bool.not_true, Bool.not_false, if_true, if_false, reduceIte, Bool.false_eq_true, decide_true, decide_false, ite_true, ite_false, intsD, gLt, e1, gIx_ln, e2]⟩
  · have e1 : ¬ (k : Int) < ((ns.map PyData.int).length : Int) := by rw [List.length_map]; omega
    exact ⟨0, by simp (decide := true) only [b__law_cell, Mir.next, dPure, dIo, endI, args0, argsI, fSeq, fIf, fSet, fSetN, fRet, fRetN, fDrop, fSkip, fAsg, fPar, xMk, fBool, fTruth, truth, fNot, fAnd, fOr, fBin, fUn, fVar, vE, eV, fzr, fC, rd, fCallP, fCallI, fCons, fNil, rCons, rNil, fCall, rds, g1, fTup, fLst, vNot, vAnd, vOr, vIf, heldAt, heldL, PL.putAt, Sl.held, Sl.put, fMut, mApp, gN, gTn, gsCons, gsNil, gPut, putD, aSeq, seqD, fYes, okW, wipeA, backA, fFor, fLc, fDc, fSc, fSortSet, gIsi, isK, gLen, gIntT, gTuple, gList, gDict, hdK_nil, hdK_i, hdK_s, dKey, gIs, gIsNot, isD, gEq_str, gNe_str, gEq_int, gNe_int, gEq_bool, gNe_bool, gIx_t0, gIx_t1, gIx_t2, gIx_l0, gIx_l1, gIx_l2, gIn2, gInL2, List.length_cons, List.length_nil, List.map_cons, List.map_nil, List.replicate, List.cons_append, List.nil_append, List.getElem?_cons_zero, List.getElem?_cons_succ, List.set_cons_zero, List.set_cons_succ, Nat.reduceAdd, Nat.reduceSub, Nat.reduceEqDiff, List.all_cons, List.all_nil, Option.isNone, Option.map_some, Option.map_none, Bool.and_self, Bool.and_true, Bool.true_and, Bool.and_false, Bool.false_and, Bool.or_true, Bool.true_or, Bool.or_false, Bool.false_or, Bool.or_self, Bool.not_true, Bool.not_false, if_true, if_false, reduceIte, Bool.false_eq_true, decide_true, decide_false, ite_true, ite_false, intsD, gLt, e1]⟩
def CM (M : Mir) : Prop := ∀ (ns : List Int) (k : Nat), ∃ c : Int, M.f__law_cell [intsD ns, .int (k : Int)] = some (.int c)
theorem ap_ints (ds : List Int) (r : Int) : ds.map PyData.int ++ [.int r] = (ds ++ [r]).map PyData.int := by rw [List.map_append]; rfl
/-- the great cells' loop -/
theorem dig_a (S A B K : Sl) (s7 : Sl) : ∀ (n : Nat) (ds : List Int) (c : Int) (s6 : Sl) (l : List Nat), l.length = n → ds.length + n ≤ 4000 →
    ∃ ds' c' s6', ds'.length ≤ ds.length + n ∧ loopF (gN 6) (fIf (fBool (fBin gGt (fVar 5) (vE (fC (.int 0))))) (fSeq (fDrop (fApp 3 (fBin gMod (vE (fCall (g1 gIntT) (rCons (fVar 5) rNil))) (vE (fC (.int 1000)))))) (fSet 5 (fBin gFDiv (fVar 5) (vE (fC (.int 1000)))))) fSkip) (l.map fun i : Nat => PyData.int (0 + (i : Int))) [S, A, B, .ow (intsD ds), K, .fz (.int c), s6, s7]
      = some (.nx [S, A, B, .ow (intsD ds'), K, .fz (.int c'), s6', s7])
  | 0, ds, c, s6, l, hl, _ => by
    have e : l = [] := List.eq_nil_of_length_eq_zero hl
    subst e
    exact ⟨ds, c, s6, Nat.le_refl _, rfl⟩
  | n + 1, ds, c, s6, [], hl, _ => by cases hl
  | n + 1, ds, c, s6, i :: l, hl, hz => by
    have big : (5000 : Nat) < sizeLine := by decide
    have z : (ds.map PyData.int).length < sizeLine := by rw [List.length_map]; omega
    have hl' : l.length = n := by rw [List.length_cons] at hl; omega
    by_cases q : c > 0
    · obtain ⟨ds', c', s6', h1, h2⟩ := dig_a S A B K s7 n (ds ++ [c % 1000]) (c / 1000) (.fz (.int (0 + (i : Int)))) l hl' (by rw [List.length_append, List.length_singleton]; omega)
      refine ⟨ds', c', s6', by rw [List.length_append, List.length_singleton] at h1; omega, ?_⟩
      have e := ap_ints ds (c % 1000)
      unfold intsD at h2 ⊢
      rw [← e] at h2
      rw [List.map_cons]
      unfold loopF
      simp (decide := true) only [Mir.next, dPure, dIo, endI, args0, argsI, fSeq, fIf, fSet, fSetN, fRet, fRetN, fDrop, fSkip, fAsg, fPar, xMk, fBool, fTruth, truth, fNot, fAnd, fOr, fBin, fUn, fVar, vE, eV, fzr, fC, rd, fCallP, fCallI, fCons, fNil, rCons, rNil, fCall, rds, g1, fTup, fLst, vNot, vAnd, vOr, vIf, heldAt, heldL, PL.putAt, Sl.held, Sl.put, fMut, mApp, gN, gTn, gsCons, gsNil, gPut, putD, aSeq, seqD, fYes, okW, wipeA, backA, fFor, fLc, fDc, fSc, fSortSet, gIsi, isK, gLen, gIntT, gTuple, gList, gDict, hdK_nil, hdK_i, hdK_s, dKey, gIs, gIsNot, isD, gEq_str, gNe_str, gEq_int, gNe_int, gEq_bool, gNe_bool, gIx_t0, gIx_t1, gIx_t2, gIx_l0, gIx_l1, gIx_l2, gIn2, gInL2, List.length_cons, List.length_nil, List.map_cons, List.map_nil, List.replicate, List.cons_append, List.nil_append, List.getElem?_cons_zero, List.getElem?_cons_succ, List.set_cons_zero, List.set_cons_succ, Nat.reduceAdd, Nat.reduceSub, Nat.reduceEqDiff, List.all_cons, List.all_nil, Option.isNone, Option.map_some, Option.map_none, Bool.and_self, Bool.and_true, Bool.true_and, Bool.and_false, Bool.false_and, Bool.or_true, Bool.true_or, Bool.or_false, Bool.false_or, Bool.or_self, Bool.not_true, Bool.not_false, if_true, if_false, reduceIte, Bool.false_eq_true, decide_true, decide_false, ite_true, ite_false, gGt, gCmpI, gMod, gFDiv, gInt, q, z]
      exact h2
    · obtain ⟨ds', c', s6', h1, h2⟩ := dig_a S A B K s7 n ds c (.fz (.int (0 + (i : Int)))) l hl' (by omega)
      refine ⟨ds', c', s6', by omega, ?_⟩
      rw [List.map_cons]
      unfold loopF
      simp (decide := true) only [Mir.next, dPure, dIo, endI, args0, argsI, fSeq, fIf, fSet, fSetN, fRet, fRetN, fDrop, fSkip, fAsg, fPar, xMk, fBool, fTruth, truth, fNot, fAnd, fOr, fBin, fUn, fVar, vE, eV, fzr, fC, rd, fCallP, fCallI, fCons, fNil, rCons, rNil, fCall, rds, g1, fTup, fLst, vNot, vAnd, vOr, vIf, heldAt, heldL, PL.putAt, Sl.held, Sl.put, fMut, mApp, gN, gTn, gsCons, gsNil, gPut, putD, aSeq, seqD, fYes, okW, wipeA, backA, fFor, fLc, fDc, fSc, fSortSet, gIsi, isK, gLen, gIntT, gTuple, gList, gDict, hdK_nil, hdK_i, hdK_s, dKey, gIs, gIsNot, isD, gEq_str, gNe_str, gEq_int, gNe_int, gEq_bool, gNe_bool, gIx_t0, gIx_t1, gIx_t2, gIx_l0, gIx_l1, gIx_l2, gIn2, gInL2, List.length_cons, List.length_nil, List.map_cons, List.map_nil, List.replicate, List.cons_append, List.nil_append, List.getElem?_cons_zero, List.getElem?_cons_succ, List.set_cons_zero, List.set_cons_succ, Nat.reduceAdd, Nat.reduceSub, Nat.reduceEqDiff, List.all_cons, List.all_nil, Option.isNone, Option.map_some, Option.map_none, Bool.and_self, Bool.and_true, Bool.true_and, Bool.and_false, Bool.false_and, Bool.or_true, Bool.true_or, Bool.or_false, Bool.false_or, Bool.or_self, Bool.not_true, Bool.not_false, if_true, if_false, reduceIte, Bool.false_eq_true, decide_true, decide_false, ite_true, ite_false, gGt, gCmpI, q]
      exact h2
theorem dig_b (S A B K C : Sl) : ∀ (n : Nat) (ds : List Int) (c : Int) (s6 : Sl) (l : List Nat), l.length = n → ds.length + n ≤ 4000 →
    ∃ ds' c' s6', ds'.length ≤ ds.length + n ∧ loopF (gN 6) (fSeq (fSet 7 (fBin gMod (vE (fCall (g1 gIntT) (rCons (vE (fBin gAdd (vE (fBin gAdd (vE (fBin gMul (fVar 7) (vE (fC (.int 16807))))) (vE (fBin gMul (vE (fC (.int 7))) (fVar 6))))) (vE (fC (.int 1))))) rNil))) (vE (fC (.int 2147483647))))) (fDrop (fApp 3 (fBin gMod (vE (fCall (g1 gIntT) (rCons (vE (fBin gFDiv (fVar 7) (vE (fC (.int 997))))) rNil))) (vE (fC (.int 1000))))))) (l.map fun i : Nat => PyData.int (0 + (i : Int))) [S, A, B, .ow (intsD ds), K, C, s6, .fz (.int c)]
      = some (.nx [S, A, B, .ow (intsD ds'), K, C, s6', .fz (.int c')])
  | 0, ds, c, s6, l, hl, _ => by
    have e : l = [] := List.eq_nil_of_length_eq_zero hl
    subst e
    exact ⟨ds, c, s6, Nat.le_refl _, rfl⟩
  | n + 1, ds, c, s6, [], hl, _ => by cases hl
  | n + 1, ds, c, s6, i :: l, hl, hz => by
    have big : (5000 : Nat) < sizeLine := by decide
    have z : (ds.map PyData.int).length < sizeLine := by rw [List.length_map]; omega
    have hl' : l.length = n := by rw [List.length_cons] at hl; omega
    have m1 : ∀ a : Int, cMul a 16807 = true := fun a => by unfold cMul; rw [show smallI 16807 = true by decide, Bool.or_true]
    have m2 : ∀ a : Int, cMul 7 a = true := fun a => by unfold cMul; rw [show smallI 7 = true by decide, Bool.true_or]
    obtain ⟨ds', c', s6', h1, h2⟩ := dig_b S A B K C n (ds ++ [((c * 16807 + 7 * (0 + (i : Int)) + 1) % 2147483647 / 997) % 1000]) ((c * 16807 + 7 * (0 + (i : Int)) + 1) % 2147483647) (.fz (.int (0 + (i : Int)))) l hl' (by rw [List.length_append, List.length_singleton]; omega)
    refine ⟨ds', c', s6', by rw [List.length_append, List.length_singleton] at h1; omega, ?_⟩
    have e := ap_ints ds (((c * 16807 + 7 * (0 + (i : Int)) + 1) % 2147483647 / 997) % 1000)
    unfold intsD at h2 ⊢
    rw [← e] at h2
    rw [List.map_cons]
    unfold loopF
    simp (decide := true) only [Mir.next, dPure, dIo, endI, args0, argsI, fSeq, fIf, fSet, fSetN, fRet, fRetN, fDrop, fSkip, fAsg, fPar, xMk, fBool, fTruth, truth, fNot, fAnd, fOr, fBin, fUn, fVar, vE, eV, fzr, fC, rd, fCallP, fCallI, fCons, fNil, rCons, rNil, fCall, rds, g1, fTup, fLst, vNot, vAnd, vOr, vIf, heldAt, heldL, PL.putAt, Sl.held, Sl.put, fMut, mApp, gN, gTn, gsCons, gsNil, gPut, putD, aSeq, seqD, fYes, okW, wipeA, backA, fFor, fLc, fDc, fSc, fSortSet, gIsi, isK, gLen, gIntT, gTuple, gList, gDict, hdK_nil, hdK_i, hdK_s, dKey, gIs, gIsNot, isD, gEq_str, gNe_str, gEq_int, gNe_int, gEq_bool, gNe_bool, gIx_t0, gIx_t1, gIx_t2, gIx_l0, gIx_l1, gIx_l2, gIn2, gInL2, List.length_cons, List.length_nil, List.map_cons, List.map_nil, List.replicate, List.cons_append, List.nil_append, List.getElem?_cons_zero, List.getElem?_cons_succ, List.set_cons_zero, List.set_cons_succ, Nat.reduceAdd, Nat.reduceSub, Nat.reduceEqDiff, List.all_cons, List.all_nil, Option.isNone, Option.map_some, Option.map_none, Bool.and_self, Bool.and_true, Bool.true_and, Bool.and_false, Bool.false_and, Bool.or_true, Bool.true_or, Bool.or_false, Bool.false_or, Bool.or_self, Bool.not_true, Bool.not_false, if_true, if_false, reduceIte, Bool.false_eq_true, decide_true, decide_false, ite_true, ite_false, gAdd, gMul, gMod, gFDiv, gInt, m1, m2, z]
    exact h2
/-- one cell -/
theorem dig_turn (M : Mir) (hM : CM M) (ns : List Int) (A B : Sl) (i : Nat) (hi : i ≤ 100) (ds : List Int) (s4 s5 s6 s7 : Sl) (hz : ds.length ≤ 3900) :
    ∃ ds' s5' s6' s7', ds'.length ≤ ds.length + 60 ∧ (fSeq (fSet 5 (fCallP M.f__law_cell (fCons (eV (fVar 0)) (fCons (eV (fVar 4)) fNil)))) (fSeq (fIf (fBool (fBin gLt (fVar 5) (vE (fC (.int 0))))) (fSet 5 (fBin PL.gSub (vE (fC (.int 1))) (vE (fBin gMul (vE (fC (.int 2))) (fVar 5))))) fSkip) (fIf (fBool (fBin gGe (fVar 5) (vE (fBin gPow (vE (fC (.int 10))) (vE (fC (.int 18))))))) (fFor (aRng1 (fC (.int 60))) (gN 6) (fIf (fBool (fBin gGt (fVar 5) (vE (fC (.int 0))))) (fSeq (fDrop (fApp 3 (fBin gMod (vE (fCall (g1 gIntT) (rCons (fVar 5) rNil))) (vE (fC (.int 1000)))))) (fSet 5 (fBin gFDiv (fVar 5) (vE (fC (.int 1000)))))) fSkip)) (fSeq (fSet 7 (fBin gMod (vE (fCall (g1 gIntT) (rCons (vE (fBin gAdd (vE (fBin gAdd (vE (fBin gMul (fVar 5) (vE (fC (.int 48271))))) (vE (fBin gMul (fVar 4) (vE (fC (.int 69621))))))) (vE (fC (.int 11))))) rNil))) (vE (fC (.int 2147483647))))) (fFor (aRng1 (fC (.int 12))) (gN 6) (fSeq (fSet 7 (fBin gMod (vE (fCall (g1 gIntT) (rCons (vE (fBin gAdd (vE (fBin gAdd (vE (fBin gMul (fVar 7) (vE (fC (.int 16807))))) (vE (fBin gMul (vE (fC (.int 7))) (fVar 6))))) (vE (fC (.int 1))))) rNil))) (vE (fC (.int 2147483647))))) (fDrop (fApp 3 (fBin gMod (vE (fCall (g1 gIntT) (rCons (vE (fBin gFDiv (fVar 7) (vE (fC (.int 997))))) rNil))) (vE (fC (.int 1000)))))))))))) [.fz (intsD ns), A, B, .ow (intsD ds), .fz (.int (i : Int)), s5, s6, s7]
      = some (.nx [.fz (intsD ns), A, B, .ow (intsD ds'), .fz (.int (i : Int)), s5', s6', s7']) := by
  obtain ⟨c0, hc⟩ := hM ns i
  have m1 : ∀ a : Int, cMul a 48271 = true := fun a => by unfold cMul; rw [show smallI 48271 = true by decide, Bool.or_true]
  have m2 : ∀ a : Int, cMul a 69621 = true := fun a => by unfold cMul; rw [show smallI 69621 = true by decide, Bool.or_true]
  have m3 : ∀ a : Int, cMul 2 a = true := fun a => by unfold cMul; rw [show smallI 2 = true by decide, Bool.true_or]
  -- the cell, brought above 0
  have key : ∀ c : Int, ∃ ds' s5' s6' s7', ds'.length ≤ ds.length + 60 ∧ (fIf (fBool (fBin gGe (fVar 5) (vE (fBin gPow (vE (fC (.int 10))) (vE (fC (.int 18))))))) (fFor (aRng1 (fC (.int 60))) (gN 6) (fIf (fBool (fBin gGt (fVar 5) (vE (fC (.int 0))))) (fSeq (fDrop (fApp 3 (fBin gMod (vE (fCall (g1 gIntT) (rCons (fVar 5) rNil))) (vE (fC (.int 1000)))))) (fSet 5 (fBin gFDiv (fVar 5) (vE (fC (.int 1000)))))) fSkip)) (fSeq (fSet 7 (fBin gMod (vE (fCall (g1 gIntT) (rCons (vE (fBin gAdd (vE (fBin gAdd (vE (fBin gMul (fVar 5) (vE (fC (.int 48271))))) (vE (fBin gMul (fVar 4) (vE (fC (.int 69621))))))) (vE (fC (.int 11))))) rNil))) (vE (fC (.int 2147483647))))) (fFor (aRng1 (fC (.int 12))) (gN 6) (fSeq (fSet 7 (fBin gMod (vE (fCall (g1 gIntT) (rCons (vE (fBin gAdd (vE (fBin gAdd (vE (fBin gMul (fVar 7) (vE (fC (.int 16807))))) (vE (fBin gMul (vE (fC (.int 7))) (fVar 6))))) (vE (fC (.int 1))))) rNil))) (vE (fC (.int 2147483647))))) (fDrop (fApp 3 (fBin gMod (vE (fCall (g1 gIntT) (rCons (vE (fBin gFDiv (fVar 7) (vE (fC (.int 997))))) rNil))) (vE (fC (.int 1000)))))))))) [.fz (intsD ns), A, B, .ow (intsD ds), .fz (.int (i : Int)), .fz (.int c), s6, s7]
      = some (.nx [.fz (intsD ns), A, B, .ow (intsD ds'), .fz (.int (i : Int)), s5', s6', s7']) := fun c => by
    have r60 := fun (as : AS) (g : FG) (b : FS) => for_rng (f := fC (.int 60)) (g := g) (body := b) (as := as) (as1 := as) (n := 60) rfl (by decide)
    have r12 := fun (as : AS) (g : FG) (b : FS) => for_rng (f := fC (.int 12)) (g := g) (body := b) (as := as) (as1 := as) (n := 12) rfl (by decide)
    have pw : gPow (.int 10) (.int 18) = some (.int (10 ^ 18)) := by rfl
    generalize (10 : Int) ^ 18 = big at pw
    cases q : decide (c ≥ big) with
    | true =>
      obtain ⟨ds', c', s6', h1, h2⟩ := dig_a (.fz (intsD ns)) A B (.fz (.int (i : Int))) s7 60 ds c s6 (List.range 60) (by rw [List.length_range]) (by omega)
      refine ⟨ds', .fz (.int c'), s6', s7, h1, ?_⟩
      unfold fIf
      have t : (fBool (fBin gGe (fVar 5) (vE (fBin gPow (vE (fC (.int 10))) (vE (fC (.int 18))))))) [.fz (intsD ns), A, B, .ow (intsD ds), .fz (.int (i : Int)), .fz (.int c), s6, s7] = some (true, [.fz (intsD ns), A, B, .ow (intsD ds), .fz (.int (i : Int)), .fz (.int c), s6, s7]) := by
        simp only [Mir.next, dPure, dIo, endI, args0, argsI, fSeq, fIf, fSet, fSetN, fRet, fRetN, fDrop, fSkip, fAsg, fPar, xMk, fBool, fTruth, truth, fNot, fAnd, fOr, fBin, fUn, fVar, vE, eV, fzr, fC, rd, fCallP, fCallI, fCons, fNil, rCons, rNil, fCall, rds, g1, fTup, fLst, vNot, vAnd, vOr, vIf, heldAt, heldL, PL.putAt, Sl.held, Sl.put, fMut, mApp, gN, gTn, gsCons, gsNil, gPut, putD, aSeq, seqD, fYes, okW, wipeA, backA, fFor, fLc, fDc, fSc, fSortSet, gIsi, isK, gLen, gIntT, gTuple, gList, gDict, hdK_nil, hdK_i, hdK_s, dKey, gIs, gIsNot, isD, gEq_str, gNe_str, gEq_int, gNe_int, gEq_bool, gNe_bool, gIx_t0, gIx_t1, gIx_t2, gIx_l0, gIx_l1, gIx_l2, gIn2, gInL2, List.length_cons, List.length_nil, List.map_cons, List.map_nil, List.replicate, List.cons_append, List.nil_append, List.getElem?_cons_zero, List.getElem?_cons_succ, List.set_cons_zero, List.set_cons_succ, Nat.reduceAdd, Nat.reduceSub, Nat.reduceEqDiff, List.all_cons, List.all_nil, Option.isNone, Option.map_some, Option.map_none, Bool.and_self, Bool.and_true, Bool.true_and, Bool.and_false, Bool.false_and, Bool.or_true, Bool.true_or, Bool.or_false, Bool.false_or, Bool.or_self, Bool.not_true, Bool.not_false, if_true, if_false, reduceIte, Bool.false_eq_true, decide_true, decide_false, ite_true, ite_false, pw, gGe, gCmpI, q]
      rw [t]
      dsimp only
      rw [r60]
      exact h2
    | false =>
      obtain ⟨ds', c', s6', h1, h2⟩ := dig_b (.fz (intsD ns)) A B (.fz (.int (i : Int))) (.fz (.int c)) 12 ds ((c * 48271 + (i : Int) * 69621 + 11) % 2147483647) s6 (List.range 12) (by rw [List.length_range]) (by omega)
      refine ⟨ds', .fz (.int c), s6', .fz (.int c'), by omega, ?_⟩
      unfold fIf
      have t : (fBool (fBin gGe (fVar 5) (vE (fBin gPow (vE (fC (.int 10))) (vE (fC (.int 18))))))) [.fz (intsD ns), A, B, .ow (intsD ds), .fz (.int (i : Int)), .fz (.int c), s6, s7] = some (false, [.fz (intsD ns), A, B, .ow (intsD ds), .fz (.int (i : Int)), .fz (.int c), s6, s7]) := by
        simp only [Mir.next, dPure, dIo, endI, args0, argsI, fSeq, fIf, fSet, fSetN, fRet, fRetN, fDrop, fSkip, fAsg, fPar, xMk, fBool, fTruth, truth, fNot, fAnd, fOr, fBin, fUn, fVar, vE, eV, fzr, fC, rd, fCallP, fCallI, fCons, fNil, rCons, rNil, fCall, rds, g1, fTup, fLst, vNot, vAnd, vOr, vIf, heldAt, heldL, PL.putAt, Sl.held, Sl.put, fMut, mApp, gN, gTn, gsCons, gsNil, gPut, putD, aSeq, seqD, fYes, okW, wipeA, backA, fFor, fLc, fDc, fSc, fSortSet, gIsi, isK, gLen, gIntT, gTuple, gList, gDict, hdK_nil, hdK_i, hdK_s, dKey, gIs, gIsNot, isD, gEq_str, gNe_str, gEq_int, gNe_int, gEq_bool, gNe_bool, gIx_t0, gIx_t1, gIx_t2, gIx_l0, gIx_l1, gIx_l2, gIn2, gInL2, List.length_cons, List.length_nil, List.map_cons, List.map_nil, List.replicate, List.cons_append, List.nil_append, List.getElem?_cons_zero, List.getElem?_cons_succ, List.set_cons_zero, List.set_cons_succ, Nat.reduceAdd, Nat.reduceSub, Nat.reduceEqDiff, List.all_cons, List.all_nil, Option.isNone, Option.map_some, Option.map_none, Bool.and_self, Bool.and_true, Bool.true_and, Bool.and_false, Bool.false_and, Bool.or_true, Bool.true_or, Bool.or_false, Bool.false_or, Bool.or_self, Bool.not_true, Bool.not_false, if_true, if_false, reduceIte, Bool.false_eq_true, decide_true, decide_false, ite_true, ite_false, pw, gGe, gCmpI, q]
      rw [t]
      simp (decide := true) only [Mir.next, dPure, dIo, endI, args0, argsI, fSeq, fIf, fSet, fSetN, fRet, fRetN, fDrop, fSkip, fAsg, fPar, xMk, fBool, fTruth, truth, fNot, fAnd, fOr, fBin, fUn, fVar, vE, eV, fzr, fC, rd, fCallP, fCallI, fCons, fNil, rCons, rNil, fCall, rds, g1, fTup, fLst, vNot, vAnd, vOr, vIf, heldAt, heldL, PL.putAt, Sl.held, Sl.put, fMut, mApp, gN, gTn, gsCons, gsNil, gPut, putD, aSeq, seqD, fYes, okW, wipeA, backA, fLc, fDc, fSc, fSortSet, gIsi, isK, gLen, gIntT, gTuple, gList, gDict, hdK_nil, hdK_i, hdK_s, dKey, gIs, gIsNot, isD, gEq_str, gNe_str, gEq_int, gNe_int, gEq_bool, gNe_bool, gIx_t0, gIx_t1, gIx_t2, gIx_l0, gIx_l1, gIx_l2, gIn2, gInL2, List.length_cons, List.length_nil, List.map_cons, List.map_nil, List.replicate, List.cons_append, List.nil_append, List.getElem?_cons_zero, List.getElem?_cons_succ, List.set_cons_zero, List.set_cons_succ, Nat.reduceAdd, Nat.reduceSub, Nat.reduceEqDiff, List.all_cons, List.all_nil, Option.isNone, Option.map_some, Option.map_none, Bool.and_self, Bool.and_true, Bool.true_and, Bool.and_false, Bool.false_and, Bool.or_true, Bool.true_or, Bool.or_false, Bool.false_or, Bool.or_self, Bool.not_true, Bool.not_false, if_true, if_false, reduceIte, Bool.false_eq_true, decide_true, decide_false, ite_true, ite_false, gAdd, gMul, gMod, gInt, m1, m2, r12]
      exact h2
  have hc' : M.f__law_cell [intsD ns, .int (i : Int)] = some (.int c0) := hc
  cases q : decide (c0 < 0) with
  | true =>
    obtain ⟨ds', t5, t6, t7, h1, h2⟩ := key (1 - 2 * c0)
    refine ⟨ds', t5, t6, t7, h1, ?_⟩
    have q' : c0 < 0 := of_decide_eq_true q
    simp only [Mir.next, dPure, dIo, endI, args0, argsI, fSeq, fIf, fSet, fSetN, fRet, fRetN, fDrop, fSkip, fAsg, fPar, xMk, fBool, fTruth, truth, fNot, fAnd, fOr, fBin, fUn, fVar, vE, eV, fzr, fC, rd, fCallP, fCallI, fCons, fNil, rCons, rNil, fCall, rds, g1, fTup, fLst, vNot, vAnd, vOr, vIf, heldAt, heldL, PL.putAt, Sl.held, Sl.put, fMut, mApp, gN, gTn, gsCons, gsNil, gPut, putD, aSeq, seqD, fYes, okW, wipeA, backA, fFor, fLc, fDc, fSc, fSortSet, gIsi, isK, gLen, gIntT, gTuple, gList, gDict, hdK_nil, hdK_i, hdK_s, dKey, gIs, gIsNot, isD, gEq_str, gNe_str, gEq_int, gNe_int, gEq_bool, gNe_bool, gIx_t0, gIx_t1, gIx_t2, gIx_l0, gIx_l1, gIx_l2, gIn2, gInL2, List.length_cons, List.length_nil, List.map_cons, List.map_nil, List.replicate, List.cons_append, List.nil_append, List.getElem?_cons_zero, List.getElem?_cons_succ, List.set_cons_zero, List.set_cons_succ, Nat.reduceAdd, Nat.reduceSub, Nat.reduceEqDiff, List.all_cons, List.all_nil, Option.isNone, Option.map_some, Option.map_none, Bool.and_self, Bool.and_true, Bool.true_and, Bool.and_false, Bool.false_and, Bool.or_true, Bool.true_or, Bool.or_false, Bool.false_or, Bool.or_self, Bool.not_true, Bool.not_false, if_true, if_false, reduceIte, Bool.false_eq_true, decide_true, decide_false, ite_true, ite_false] at h2
    simp (decide := true) only [Mir.next, dPure, dIo, endI, args0, argsI, fSeq, fIf, fSet, fSetN, fRet, fRetN, fDrop, fSkip, fAsg, fPar, xMk, fBool, fTruth, truth, fNot, fAnd, fOr, fBin, fUn, fVar, vE, eV, fzr, fC, rd, fCallP, fCallI, fCons, fNil, rCons, rNil, fCall, rds, g1, fTup, fLst, vNot, vAnd, vOr, vIf, heldAt, heldL, PL.putAt, Sl.held, Sl.put, fMut, mApp, gN, gTn, gsCons, gsNil, gPut, putD, aSeq, seqD, fYes, okW, wipeA, backA, fFor, fLc, fDc, fSc, fSortSet, gIsi, isK, gLen, gIntT, gTuple, gList, gDict, hdK_nil, hdK_i, hdK_s, dKey, gIs, gIsNot, isD, gEq_str, gNe_str, gEq_int, gNe_int, gEq_bool, gNe_bool, gIx_t0, gIx_t1, gIx_t2, gIx_l0, gIx_l1, gIx_l2, gIn2, gInL2, List.length_cons, List.length_nil, List.map_cons, List.map_nil, List.replicate, List.cons_append, List.nil_append, List.getElem?_cons_zero, List.getElem?_cons_succ, List.set_cons_zero, List.set_cons_succ, Nat.reduceAdd, Nat.reduceSub, Nat.reduceEqDiff, List.all_cons, List.all_nil, Option.isNone, Option.map_some, Option.map_none, Bool.and_self, Bool.and_true, Bool.true_and, Bool.and_false, Bool.false_and, Bool.or_true, Bool.true_or, Bool.or_false, Bool.false_or, Bool.or_self, Bool.not_true, Bool.not_false, if_true, if_false, reduceIte, Bool.false_eq_true, decide_true, decide_false, ite_true, ite_false, hc', gLt, PL.gSub, gMul, gInt, m3, q']
    exact h2
  | false =>
    obtain ⟨ds', t5, t6, t7, h1, h2⟩ := key c0
    refine ⟨ds', t5, t6, t7, h1, ?_⟩
    have q' : ¬ c0 < 0 := of_decide_eq_false q
    simp only [Mir.next, dPure, dIo, endI, args0, argsI, fSeq, fIf, fSet, fSetN, fRet, fRetN, fDrop, fSkip, fAsg, fPar, xMk, fBool, fTruth, truth, fNot, fAnd, fOr, fBin, fUn, fVar, vE, eV, fzr, fC, rd, fCallP, fCallI, fCons, fNil, rCons, rNil, fCall, rds, g1, fTup, fLst, vNot, vAnd, vOr, vIf, heldAt, heldL, PL.putAt, Sl.held, Sl.put, fMut, mApp, gN, gTn, gsCons, gsNil, gPut, putD, aSeq, seqD, fYes, okW, wipeA, backA, fFor, fLc, fDc, fSc, fSortSet, gIsi, isK, gLen, gIntT, gTuple, gList, gDict, hdK_nil, hdK_i, hdK_s, dKey, gIs, gIsNot, isD, gEq_str, gNe_str, gEq_int, gNe_int, gEq_bool, gNe_bool, gIx_t0, gIx_t1, gIx_t2, gIx_l0, gIx_l1, gIx_l2, gIn2, gInL2, List.length_cons, List.length_nil, List.map_cons, List.map_nil, List.replicate, List.cons_append, List.nil_append, List.getElem?_cons_zero, List.getElem?_cons_succ, List.set_cons_zero, List.set_cons_succ, Nat.reduceAdd, Nat.reduceSub, Nat.reduceEqDiff, List.all_cons, List.all_nil, Option.isNone, Option.map_some, Option.map_none, Bool.and_self, Bool.and_true, Bool.true_and, Bool.and_false, Bool.false_and, Bool.or_true, Bool.true_or, Bool.or_false, Bool.false_or, Bool.or_self, Bool.not_true, Bool.not_false, if_true, if_false, reduceIte, Bool.false_eq_true, decide_true, decide_false, ite_true, ite_false] at h2
    simp (decide := true) only [Mir.next, dPure, dIo, endI, args0, argsI, fSeq, fIf, fSet, fSetN, fRet, fRetN, fDrop, fSkip, fAsg, fPar, xMk, fBool, fTruth, truth, fNot, fAnd, fOr, fBin, fUn, fVar, vE, eV, fzr, fC, rd, fCallP, fCallI, fCons, fNil, rCons, rNil, fCall, rds, g1, fTup, fLst, vNot, vAnd, vOr, vIf, heldAt, heldL, PL.putAt, Sl.held, Sl.put, fMut, mApp, gN, gTn, gsCons, gsNil, gPut, putD, aSeq, seqD, fYes, okW, wipeA, backA, fFor, fLc, fDc, fSc, fSortSet, gIsi, isK, gLen, gIntT, gTuple, gList, gDict, hdK_nil, hdK_i, hdK_s, dKey, gIs, gIsNot, isD, gEq_str, gNe_str, gEq_int, gNe_int, gEq_bool, gNe_bool, gIx_t0, gIx_t1, gIx_t2, gIx_l0, gIx_l1, gIx_l2, gIn2, gInL2, List.length_cons, List.length_nil, List.map_cons, List.map_nil, List.replicate, List.cons_append, List.nil_append, List.getElem?_cons_zero, List.getElem?_cons_succ, List.set_cons_zero, List.set_cons_succ, Nat.reduceAdd, Nat.reduceSub, Nat.reduceEqDiff, List.all_cons, List.all_nil, Option.isNone, Option.map_some, Option.map_none, Bool.and_self, Bool.and_true, Bool.true_and, Bool.and_false, Bool.false_and, Bool.or_true, Bool.true_or, Bool.or_false, Bool.false_or, Bool.or_self, Bool.not_true, Bool.not_false, if_true, if_false, reduceIte, Bool.false_eq_true, decide_true, decide_false, ite_true, ite_false, hc', gLt, q']
    exact h2

end K11
namespace K11
open PySem PySem.Spec PyProof.Rows L2 PL
theorem seq_nx {a b : FS} {as as1 : AS} (h : a as = some (.nx as1)) : fSeq a b as = b as1 := by
  unfold fSeq
  rw [h]
theorem seq_rt {a b : FS} {as as1 : AS} {d : Dt} (h : a as = some (.rt d as1)) : fSeq a b as = some (.rt d as1) := by
  unfold fSeq
  rw [h]
theorem d_pure {N n : Nat} {body : FS} {ds : List Dt} {d : Dt} {as1 : AS} (hl : ds.length = n) (h : body (args0 N n ds) = some (.rt d as1)) : dPure N n body ds = some d := by
  unfold dPure
  rw [if_pos hl, h]
theorem d_io {N n : Nat} {body : FS} {db : Dt} {ds : List Dt} {d d' : Dt} {as1 : AS} (hl : ds.length + 1 = n) (h : body (argsI N n db ds) = some (.rt d (.io d' :: as1))) : dIo N n body db ds = some (d, d') := by
  unfold dIo
  rw [if_pos hl, h]
  rfl
theorem e_digits (M : Mir) (hM : CM M) (ns : List Int) : ∃ ds : List Int, ds.length ≤ 1800 ∧ M.next.f__law_digits [intsD ns, .int 0, .int 30] = some (intsD ds) := by
  obtain ⟨st, ⟨ds, s4, s5, s6, s7, e1, e2⟩, e3⟩ := loopF_inv (g := gN 4) (body := (fSeq (fSet 5 (fCallP M.f__law_cell (fCons (eV (fVar 0)) (fCons (eV (fVar 4)) fNil)))) (fSeq (fIf (fBool (fBin gLt (fVar 5) (vE (fC (.int 0))))) (fSet 5 (fBin PL.gSub (vE (fC (.int 1))) (vE (fBin gMul (vE (fC (.int 2))) (fVar 5))))) fSkip) (fIf (fBool (fBin gGe (fVar 5) (vE (fBin gPow (vE (fC (.int 10))) (vE (fC (.int 18))))))) (fFor (aRng1 (fC (.int 60))) (gN 6) (fIf (fBool (fBin gGt (fVar 5) (vE (fC (.int 0))))) (fSeq (fDrop (fApp 3 (fBin gMod (vE (fCall (g1 gIntT) (rCons (fVar 5) rNil))) (vE (fC (.int 1000)))))) (fSet 5 (fBin gFDiv (fVar 5) (vE (fC (.int 1000)))))) fSkip)) (fSeq (fSet 7 (fBin gMod (vE (fCall (g1 gIntT) (rCons (vE (fBin gAdd (vE (fBin gAdd (vE (fBin gMul (fVar 5) (vE (fC (.int 48271))))) (vE (fBin gMul (fVar 4) (vE (fC (.int 69621))))))) (vE (fC (.int 11))))) rNil))) (vE (fC (.int 2147483647))))) (fFor (aRng1 (fC (.int 12))) (gN 6) (fSeq (fSet 7 (fBin gMod (vE (fCall (g1 gIntT) (rCons (vE (fBin gAdd (vE (fBin gAdd (vE (fBin gMul (fVar 7) (vE (fC (.int 16807))))) (vE (fBin gMul (vE (fC (.int 7))) (fVar 6))))) (vE (fC (.int 1))))) rNil))) (vE (fC (.int 2147483647))))) (fDrop (fApp 3 (fBin gMod (vE (fCall (g1 gIntT) (rCons (vE (fBin gFDiv (fVar 7) (vE (fC (.int 997))))) rNil))) (vE (fC (.int 1000)))))))))))))
    (fun i : Nat => PyData.int (0 + (i : Int)))
    (fun r st => ∃ ds s4 s5 s6 s7, st = [.fz (intsD ns), .fz (.int 0), .fz (.int 30), .ow (intsD ds), s4, s5, s6, s7] ∧ ds.length + 60 * r.length ≤ 1800 ∧ ∀ i ∈ r, i ≤ 100)
    (fun st => ∃ ds s4 s5 s6 s7, st = [.fz (intsD ns), .fz (.int 0), .fz (.int 30), .ow (intsD ds), s4, s5, s6, s7] ∧ ds.length ≤ 1800)
    (fun st ⟨ds, s4, s5, s6, s7, e, h, _⟩ => ⟨ds, s4, s5, s6, s7, e, by rw [List.length_nil] at h; omega⟩)
    (fun i r st ⟨ds, s4, s5, s6, s7, e, h, hi⟩ => by
      subst e
      rw [List.length_cons] at h
      obtain ⟨ds', t5, t6, t7, h1, h2⟩ := dig_turn M hM ns (.fz (.int 0)) (.fz (.int 30)) i (hi i List.mem_cons_self) ds s4 s5 s6 s7 (by omega)
      refine ⟨[.fz (intsD ns), .fz (.int 0), .fz (.int 30), .ow (intsD ds), .fz (.int (i : Int)), s5, s6, s7], _, ?_, h2, ds', .fz (.int (i : Int)), t5, t6, t7, rfl, by omega, fun j hj => hi j (List.mem_cons_of_mem _ hj)⟩
      rw [Int.zero_add]
      rfl)
    (List.range 30) [.fz (intsD ns), .fz (.int 0), .fz (.int 30), .ow (intsD []), .un, .un, .un, .un] ⟨[], .un, .un, .un, .un, rfl, by rw [List.length_range]; decide, fun i hi => by have := List.mem_range.mp hi; omega⟩
  subst e1
  refine ⟨ds, e2, ?_⟩
  have f := for_rng2 (f := eV (fVar 1)) (f2 := eV (fVar 2)) (g := gN 4) (body := (fSeq (fSet 5 (fCallP M.f__law_cell (fCons (eV (fVar 0)) (fCons (eV (fVar 4)) fNil)))) (fSeq (fIf (fBool (fBin gLt (fVar 5) (vE (fC (.int 0))))) (fSet 5 (fBin PL.gSub (vE (fC (.int 1))) (vE (fBin gMul (vE (fC (.int 2))) (fVar 5))))) fSkip) (fIf (fBool (fBin gGe (fVar 5) (vE (fBin gPow (vE (fC (.int 10))) (vE (fC (.int 18))))))) (fFor (aRng1 (fC (.int 60))) (gN 6) (fIf (fBool (fBin gGt (fVar 5) (vE (fC (.int 0))))) (fSeq (fDrop (fApp 3 (fBin gMod (vE (fCall (g1 gIntT) (rCons (fVar 5) rNil))) (vE (fC (.int 1000)))))) (fSet 5 (fBin gFDiv (fVar 5) (vE (fC (.int 1000)))))) fSkip)) (fSeq (fSet 7 (fBin gMod (vE (fCall (g1 gIntT) (rCons (vE (fBin gAdd (vE (fBin gAdd (vE (fBin gMul (fVar 5) (vE (fC (.int 48271))))) (vE (fBin gMul (fVar 4) (vE (fC (.int 69621))))))) (vE (fC (.int 11))))) rNil))) (vE (fC (.int 2147483647))))) (fFor (aRng1 (fC (.int 12))) (gN 6) (fSeq (fSet 7 (fBin gMod (vE (fCall (g1 gIntT) (rCons (vE (fBin gAdd (vE (fBin gAdd (vE (fBin gMul (fVar 7) (vE (fC (.int 16807))))) (vE (fBin gMul (vE (fC (.int 7))) (fVar 6))))) (vE (fC (.int 1))))) rNil))) (vE (fC (.int 2147483647))))) (fDrop (fApp 3 (fBin gMod (vE (fCall (g1 gIntT) (rCons (vE (fBin gFDiv (fVar 7) (vE (fC (.int 997))))) rNil))) (vE (fC (.int 1000)))))))))))))
    (as := [.fz (intsD ns), .fz (.int 0), .fz (.int 30), .ow (intsD []), .un, .un, .un, .un]) (as1 := [.fz (intsD ns), .fz (.int 0), .fz (.int 30), .ow (intsD []), .un, .un, .un, .un]) (as2 := [.fz (intsD ns), .fz (.int 0), .fz (.int 30), .ow (intsD []), .un, .un, .un, .un]) (m := 0) (n := 30) rfl rfl (by decide) (by decide)
  show dPure 8 3 (b__law_digits M) [intsD ns, .int 0, .int 30] = _
  refine d_pure rfl (as1 := [.fz (intsD ns), .fz (.int 0), .fz (.int 30), .fz (intsD ds), s4, s5, s6, s7]) ?_
  unfold b__law_digits
  refine (seq_nx (as1 := [.fz (intsD ns), .fz (.int 0), .fz (.int 30), .ow (intsD []), .un, .un, .un, .un]) rfl).trans ?_
  exact (seq_nx (f.trans e3)).trans rfl
/-! ### the box -/
def bx (ds : List Int) (c : Nat) : Dt := .list [intsD ds, .int (c : Int)]
def DW (M : Mir) : Prop := ∀ (ds : List Int) (c n : Nat), 0 < n → ∃ r : Nat, r < n ∧ M.f__law_draw (bx ds c) [.int (n : Int)] = some (.int (r : Int), bx ds (c + 1))
theorem mod_nat (z : Int) (n : Nat) (h : 0 < n) : ∃ r : Nat, r < n ∧ z % (n : Int) = (r : Int) := by
  have h0 : 0 ≤ z % (n : Int) := Int.emod_nonneg _ (by omega)
  have h1 : z % (n : Int) < (n : Int) := Int.emod_lt_of_pos _ (by omega)
  exact ⟨(z % (n : Int)).toNat, by omega, by omega⟩
theorem g_mod (z : Int) (n : Nat) (h : 0 < n) : ∃ r : Nat, r < n ∧ gMod (.int z) (.int (n : Int)) = some (.int (r : Int)) := by
  obtain ⟨r, h1, h2⟩ := mod_nat z n h
  refine ⟨r, h1, ?_⟩
  rw [← h2]
  have h3 : decide (0 < (n : Int)) = true := decide_eq_true (by omega)
  show (if decide (0 < (n : Int)) = true then some (PyData.int (z % (n : Int))) else none) = _
  exact if_pos h3
theorem e_draw (M : Mir) : DW M.next := fun ds c n hn => by
  have m7 : ∀ a : Int, cMul a 7 = true := fun a => by unfold cMul; rw [show smallI 7 = true by decide, Bool.or_true]
  have nx : ((c : Int) + 1) = ((c + 1 : Nat) : Int) := by omega
  have dl : (ds.map PyData.int).length = ds.length := List.length_map _
  have ixn : ixN 2 1 = some 1 := rfl
  have bk : ((c + 1 : Nat) : Int) - 1 = (c : Int) := by omega
  by_cases q : ds.length < c + 1
  · obtain ⟨r, h1, h2⟩ := g_mod (((c + 1 : Nat) : Int) * 7 + 3) n hn
    refine ⟨r, h1, ?_⟩
    have q' : (((c + 1 : Nat) : Int) > ((ds.map PyData.int).length : Int)) := by rw [dl]; omega
    have q2 : gGt (.int ((c + 1 : Nat) : Int)) (.int ((ds.map PyData.int).length : Int)) = some (.bool true) := by
      show some (PyData.bool (decide (((c + 1 : Nat) : Int) > ((ds.map PyData.int).length : Int)))) = _
      rw [decide_eq_true q']
    simp (decide := true) only [b__law_draw, Mir.next, dPure, dIo, endI, args0, argsI, fSeq, fIf, fSet, fSetN, fRet, fRetN, fDrop, fSkip, fAsg, fPar, xMk, fBool, fTruth, truth, fNot, fAnd, fOr, fBin, fUn, fVar, vE, eV, fzr, fC, rd, fCallP, fCallI, fCons, fNil, rCons, rNil, fCall, rds, g1, fTup, fLst, vNot, vAnd, vOr, vIf, heldAt, heldL, PL.putAt, Sl.held, Sl.put, fMut, mApp, gN, gTn, gsCons, gsNil, gPut, putD, aSeq, seqD, fYes, okW, wipeA, backA, fFor, fLc, fDc, fSc, fSortSet, gIsi, isK, gLen, gIntT, gTuple, gList, gDict, hdK_nil, hdK_i, hdK_s, dKey, gIs, gIsNot, isD, gEq_str, gNe_str, gEq_int, gNe_int, gEq_bool, gNe_bool, gIx_t0, gIx_t1, gIx_t2, gIx_l0, gIx_l1, gIx_l2, gIn2, gInL2, List.length_cons, List.length_nil, List.map_cons, List.map_nil, List.replicate, List.cons_append, List.nil_append, List.getElem?_cons_zero, List.getElem?_cons_succ, List.set_cons_zero, List.set_cons_succ, Nat.reduceAdd, Nat.reduceSub, Nat.reduceEqDiff, List.all_cons, List.all_nil, Option.isNone, Option.map_some, Option.map_none, Bool.and_self, Bool.and_true, Bool.true_and, Bool.and_false, Bool.false_and, Bool.or_true, Bool.true_or, Bool.or_false, Bool.false_or, Bool.or_self, Bool.not_true, Bool.not_false, if_true, if_false, reduceIte, Bool.false_eq_true, decide_true, decide_false, ite_true, ite_false, bx, intsD, gAdd, gMul, gInt, m7, nx, ixn, q2, h2]
  · obtain ⟨r, h1, h2⟩ := g_mod (ds[c]'(by omega)) n hn
    refine ⟨r, h1, ?_⟩
    have q' : ¬ (((c + 1 : Nat) : Int) > ((ds.map PyData.int).length : Int)) := by rw [dl]; omega
    have q2 : gGt (.int ((c + 1 : Nat) : Int)) (.int ((ds.map PyData.int).length : Int)) = some (.bool false) := by
      show some (PyData.bool (decide (((c + 1 : Nat) : Int) > ((ds.map PyData.int).length : Int)))) = _
      rw [decide_eq_false q']
    have e2 : (ds.map PyData.int)[c]? = some (.int (ds[c]'(by omega))) := by rw [List.getElem?_map, List.getElem?_eq_getElem (by omega)]; rfl
    simp (decide := true) only [b__law_draw, Mir.next, dPure, dIo, endI, args0, argsI, fSeq, fIf, fSet, fSetN, fRet, fRetN, fDrop, fSkip, fAsg, fPar, xMk, fBool, fTruth, truth, fNot, fAnd, fOr, fBin, fUn, fVar, vE, eV, fzr, fC, rd, fCallP, fCallI, fCons, fNil, rCons, rNil, fCall, rds, g1, fTup, fLst, vNot, vAnd, vOr, vIf, heldAt, heldL, PL.putAt, Sl.held, Sl.put, fMut, mApp, gN, gTn, gsCons, gsNil, gPut, putD, aSeq, seqD, fYes, okW, wipeA, backA, fFor, fLc, fDc, fSc, fSortSet, gIsi, isK, gLen, gIntT, gTuple, gList, gDict, hdK_nil, hdK_i, hdK_s, dKey, gIs, gIsNot, isD, gEq_str, gNe_str, gEq_int, gNe_int, gEq_bool, gNe_bool, gIx_t0, gIx_t1, gIx_t2, gIx_l0, gIx_l1, gIx_l2, gIn2, gInL2, List.length_cons, List.length_nil, List.map_cons, List.map_nil, List.replicate, List.cons_append, List.nil_append, List.getElem?_cons_zero, List.getElem?_cons_succ, List.set_cons_zero, List.set_cons_succ, Nat.reduceAdd, Nat.reduceSub, Nat.reduceEqDiff, List.all_cons, List.all_nil, Option.isNone, Option.map_some, Option.map_none, Bool.and_self, Bool.and_true, Bool.true_and, Bool.and_false, Bool.false_and, Bool.or_true, Bool.true_or, Bool.or_false, Bool.false_or, Bool.or_self, Bool.not_true, Bool.not_false, if_true, if_false, reduceIte, Bool.false_eq_true, decide_true, decide_false, ite_true, ite_false, bx, intsD, gAdd, PL.gSub, gMul, gInt, m7, nx, bk, ixn, q2, gIx_ln, e2, h2]

end K11
namespace K11
open PySem PySem.Spec PyProof.Rows L2 PL
def PK (M : Mir) : Prop := ∀ (ds : List Int) (c : Nat) (row : List Dt), row ≠ [] → ∃ d ∈ row, M.f__law_pick (bx ds c) [.list row] = some (d, bx ds (c + 1))
theorem e_pick (M : Mir) (hM : DW M) : PK M.next := fun ds c row hr => by
  obtain ⟨r, _, h1⟩ := hM ds c 1000 (by decide)
  have hl : 0 < row.length := List.length_pos_iff.mpr hr
  obtain ⟨q, h2, h3⟩ := g_mod (r : Int) row.length hl
  have h1' : M.f__law_draw (bx ds c) [.int 1000] = some (.int (r : Int), bx ds (c + 1)) := h1
  refine ⟨row[q], List.getElem_mem h2, ?_⟩
  have e : row[q]? = some row[q] := List.getElem?_eq_getElem h2
  simp (decide := true) only [b__law_pick, Mir.next, dPure, dIo, endI, args0, argsI, fSeq, fIf, fSet, fSetN, fRet, fRetN, fDrop, fSkip, fAsg, fPar, xMk, fBool, fTruth, truth, fNot, fAnd, fOr, fBin, fUn, fVar, vE, eV, fzr, fC, rd, fCallP, fCallI, fCons, fNil, rCons, rNil, fCall, rds, g1, fTup, fLst, vNot, vAnd, vOr, vIf, heldAt, heldL, PL.putAt, Sl.held, Sl.put, fMut, mApp, gN, gTn, gsCons, gsNil, gPut, putD, aSeq, seqD, fYes, okW, wipeA, backA, fFor, fLc, fDc, fSc, fSortSet, gIsi, isK, gLen, gIntT, gTuple, gList, gDict, hdK_nil, hdK_i, hdK_s, dKey, gIs, gIsNot, isD, gEq_str, gNe_str, gEq_int, gNe_int, gEq_bool, gNe_bool, gIx_t0, gIx_t1, gIx_t2, gIx_l0, gIx_l1, gIx_l2, gIn2, gInL2, List.length_cons, List.length_nil, List.map_cons, List.map_nil, List.replicate, List.cons_append, List.nil_append, List.getElem?_cons_zero, List.getElem?_cons_succ, List.set_cons_zero, List.set_cons_succ, Nat.reduceAdd, Nat.reduceSub, Nat.reduceEqDiff, List.all_cons, List.all_nil, Option.isNone, Option.map_some, Option.map_none, Bool.and_self, Bool.and_true, Bool.true_and, Bool.and_false, Bool.false_and, Bool.or_true, Bool.true_or, Bool.or_false, Bool.false_or, Bool.or_self, Bool.not_true, Bool.not_false, if_true, if_false, reduceIte, Bool.false_eq_true, decide_true, decide_false, ite_true, ite_false, fCallI, h1', h3, gIx_ln, e]
theorem er_map {α β : Type} (f : α → β) : ∀ (xs : List α) (j : Nat), (xs.map f).eraseIdx j = (xs.eraseIdx j).map f
  | [], _ => rfl
  | _ :: _, 0 => rfl
  | x :: xs, j + 1 => by
    show f x :: (xs.map f).eraseIdx j = f x :: (xs.eraseIdx j).map f
    rw [er_map f xs j]
theorem er_perm {α : Type} : ∀ (xs : List α) (j : Nat) (h : j < xs.length), ([xs[j]] ++ xs.eraseIdx j).Perm xs
  | [], j, h => by cases h
  | x :: xs, 0, h => List.Perm.refl _
  | x :: xs, j + 1, h => by
    have r := er_perm xs j (Nat.lt_of_succ_lt_succ h)
    exact (List.Perm.swap _ _ _).trans (r.cons x)
def MX (M : Mir) : Prop := ∀ (ds : List Int) (c : Nat) (xs : List Str), xs.length ≤ 100 → ∃ (ys : List Str) (c' : Nat), ys.Perm xs ∧ M.f__law_mixed (bx ds c) [txts xs] = some (txts ys, bx ds c')
theorem e_mixed (M : Mir) (hM : DW M) : MX M.next := fun ds c xs hx => by
  have big : (1000 : Nat) < sizeLine := by decide
  obtain ⟨st, ⟨c', found, s2, s4, e1, e2⟩, e3⟩ := loopF_inv (g := gN 4) (body := (fDrop (fApp 3 (fPopAt 2 (fBin gMod (vE (fCall (g1 gIntT) (rCons (vE (fCallI M.f__law_draw 0 (fCons (fC (.int 1000)) fNil))) rNil))) (vE (fCall (g1 gLen) (rCons (fVar 2) rNil))))))))
    (fun i : Nat => PyData.int (0 + (i : Int)))
    (fun r st => ∃ c' left found s4, st = [.io (bx ds c'), .fz (txts xs), .ow (txts left), .ow (txts found), s4] ∧ left.length = r.length ∧ (found ++ left).Perm xs)
    (fun st => ∃ c' found s2 s4, st = [.io (bx ds c'), .fz (txts xs), s2, .ow (txts found), s4] ∧ found.Perm xs)
    (fun st ⟨c', left, found, s4, e, h1, h2⟩ => ⟨c', found, _, s4, e, by
      rw [List.length_nil] at h1
      rw [List.eq_nil_of_length_eq_zero h1, List.append_nil] at h2
      exact h2⟩)
    (fun i r st ⟨c', left, found, s4, e, h1, h2⟩ => by
      subst e
      obtain ⟨q, _, g1'⟩ := hM ds c' 1000 (by decide)
      have g1' : M.f__law_draw (bx ds c') [.int 1000] = some (.int (q : Int), bx ds (c' + 1)) := g1'
      rw [List.length_cons] at h1
      obtain ⟨j, g2, g3⟩ := g_mod (q : Int) left.length (by omega)
      have tot : (found ++ left).length = xs.length := h2.length_eq
      rw [List.length_append] at tot
      have lm : (left.map PyData.str).length = left.length := List.length_map _
      have fm : (found.map PyData.str).length < sizeLine := by rw [List.length_map]; omega
      have e5 : (left.map PyData.str)[j]? = some (.str left[j]) := by rw [List.getElem?_map, List.getElem?_eq_getElem g2]; rfl
      have e6 : (left.map PyData.str).eraseIdx j = (left.eraseIdx j).map PyData.str := er_map _ _ _
      have e7 : found.map PyData.str ++ [.str left[j]] = (found ++ [left[j]]).map PyData.str := by rw [List.map_append]; rfl
      have e8 : ixN left.length (j : Int) = some j := by
        unfold ixN
        rw [if_pos (by omega), if_pos (by omega)]
        rfl
      refine ⟨[.io (bx ds c'), .fz (txts xs), .ow (txts left), .ow (txts found), .fz (.int (0 + (i : Int)))], [.io (bx ds (c' + 1)), .fz (txts xs), .ow (txts (left.eraseIdx j)), .ow (txts (found ++ [left[j]])), .fz (.int (0 + (i : Int)))], rfl, ?_, c' + 1, left.eraseIdx j, found ++ [left[j]], _, rfl, by rw [List.length_eraseIdx_of_lt g2]; omega, ?_⟩
      · unfold txts
        simp (decide := true) only [Mir.next, dPure, dIo, endI, args0, argsI, fSeq, fIf, fSet, fSetN, fRet, fRetN, fDrop, fSkip, fAsg, fPar, xMk, fBool, fTruth, truth, fNot, fAnd, fOr, fBin, fUn, fVar, vE, eV, fzr, fC, rd, fCallP, fCallI, fCons, fNil, rCons, rNil, fCall, rds, g1, fTup, fLst, vNot, vAnd, vOr, vIf, heldAt, heldL, PL.putAt, Sl.held, Sl.put, fMut, mApp, gN, gTn, gsCons, gsNil, gPut, putD, aSeq, seqD, fYes, okW, wipeA, backA, fFor, fLc, fDc, fSc, fSortSet, gIsi, isK, gLen, gIntT, gTuple, gList, gDict, hdK_nil, hdK_i, hdK_s, dKey, gIs, gIsNot, isD, gEq_str, gNe_str, gEq_int, gNe_int, gEq_bool, gNe_bool, gIx_t0, gIx_t1, gIx_t2, gIx_l0, gIx_l1, gIx_l2, gIn2, gInL2, List.length_cons, List.length_nil, List.map_cons, List.map_nil, List.replicate, List.cons_append, List.nil_append, List.getElem?_cons_zero, List.getElem?_cons_succ, List.set_cons_zero, List.set_cons_succ, Nat.reduceAdd, Nat.reduceSub, Nat.reduceEqDiff, List.all_cons, List.all_nil, Option.isNone, Option.map_some, Option.map_none, Bool.and_self, Bool.and_true, Bool.true_and, Bool.and_false, Bool.false_and, Bool.or_true, Bool.true_or, Bool.or_false, Bool.false_or, Bool.or_self, Bool.not_true, Bool.not_false, if_true, if_false, reduceIte, Bool.false_eq_true, decide_true, decide_false, ite_true, ite_false, fCallI, g1', lm, g3, fPopAt, heldL, mPopAt, e8, e5, e6, fm, e7]
      · refine List.Perm.trans ?_ h2
        rw [List.append_assoc]
        refine List.Perm.append_left found ?_
        exact er_perm left j g2)
    (List.range xs.length) [.io (bx ds c), .fz (txts xs), .ow (txts xs), .ow (txts []), .un] ⟨c, xs, [], .un, rfl, by rw [List.length_range], List.Perm.refl _⟩
  subst e1
  refine ⟨found, c', e2, ?_⟩
  have f := for_rng (f := fCall (g1 gLen) (rCons (fVar 1) rNil)) (g := gN 4) (body := (fDrop (fApp 3 (fPopAt 2 (fBin gMod (vE (fCall (g1 gIntT) (rCons (vE (fCallI M.f__law_draw 0 (fCons (fC (.int 1000)) fNil))) rNil))) (vE (fCall (g1 gLen) (rCons (fVar 2) rNil)))))))) (as := [.io (bx ds c), .fz (txts xs), .ow (txts xs), .ow (txts []), .un]) (n := xs.length) (by
    show some (PyData.int ((xs.map PyData.str).length : Int), _) = _
    rw [List.length_map]) (by omega)
  show dIo 5 2 (b__law_mixed M) (bx ds c) [txts xs] = _
  refine d_io rfl (as1 := [.fz (txts xs), s2, .fz (txts found), s4]) ?_
  unfold b__law_mixed
  refine (seq_nx (as1 := [.io (bx ds c), .fz (txts xs), .ow (txts xs), .un, .un]) rfl).trans ?_
  refine (seq_nx (as1 := [.io (bx ds c), .fz (txts xs), .ow (txts xs), .ow (txts []), .un]) rfl).trans ?_
  exact (seq_nx (f.trans e3)).trans rfl
def TU (M : Mir) : Prop := ∀ (ds : List Int) (c : Nat) (xs : List Str), xs.length ≤ 100 → ∃ (ts : T0) (c' : Nat), (ts.map Prod.snd).Perm xs ∧ M.f__law_turns (bx ds c) [txts xs] = some (tl ts, bx ds c')
theorem e_turns_loop (M : Mir) (hM : PK M) (ds : List Int) (A : Sl) : ∀ (xs : List Str) (c : Nat) (acc : List Dt), acc.length + xs.length ≤ 1000 → ∃ (ts : T0) (c' : Nat), ts.map Prod.snd = xs ∧
    loopC (gN 2) fYes (fTup (fCons (fCallI M.f__law_pick 0 (fCons (fLst (fCons (fC (.str "all")) (fCons (fC (.str "some")) fNil))) fNil)) (fCons (eV (fVar 2)) fNil))) [2] (xs.map PyData.str) [.io (bx ds c), A, .un] acc = some (acc ++ ts.map tD, [.io (bx ds c'), A, .un])
  | [], c, acc, _ => ⟨[], c, rfl, by rw [List.map_nil, List.map_nil, List.append_nil]; rfl⟩
  | x :: xs, c, acc, hl => by
    have big : (1000 : Nat) < sizeLine := by decide
    rw [List.length_cons] at hl
    obtain ⟨d, hd, e⟩ := hM ds c [.str "all", .str "some"] (by simp)
    have hs : ∃ b, d = .str (sd b) := by
      rcases List.mem_cons.mp hd with h | h
      · exact ⟨false, h⟩
      · exact ⟨true, List.mem_singleton.mp h⟩
    obtain ⟨b, rfl⟩ := hs
    have z : acc.length < sizeLine := by omega
    obtain ⟨ts, c', e1, e2⟩ := e_turns_loop M hM ds A xs (c + 1) (acc ++ [tD (b, x)]) (by rw [List.length_append, List.length_singleton]; omega)
    refine ⟨(b, x) :: ts, c', by rw [List.map_cons, e1], ?_⟩
    rw [List.map_cons]
    unfold loopC
    simp (decide := true) only [Mir.next, dPure, dIo, endI, args0, argsI, fSeq, fIf, fSet, fSetN, fRet, fRetN, fDrop, fSkip, fAsg, fPar, xMk, fBool, fTruth, truth, fNot, fAnd, fOr, fBin, fUn, fVar, vE, eV, fzr, fC, rd, fCallP, fCallI, fCons, fNil, rCons, rNil, fCall, rds, g1, fTup, fLst, vNot, vAnd, vOr, vIf, heldAt, heldL, PL.putAt, Sl.held, Sl.put, fMut, mApp, gN, gTn, gsCons, gsNil, gPut, putD, aSeq, seqD, fYes, okW, wipeA, backA, fFor, fLc, fDc, fSc, fSortSet, gIsi, isK, gLen, gIntT, gTuple, gList, gDict, hdK_nil, hdK_i, hdK_s, dKey, gIs, gIsNot, isD, gEq_str, gNe_str, gEq_int, gNe_int, gEq_bool, gNe_bool, gIx_t0, gIx_t1, gIx_t2, gIx_l0, gIx_l1, gIx_l2, gIn2, gInL2, List.length_cons, List.length_nil, List.map_cons, List.map_nil, List.replicate, List.cons_append, List.nil_append, List.getElem?_cons_zero, List.getElem?_cons_succ, List.set_cons_zero, List.set_cons_succ, Nat.reduceAdd, Nat.reduceSub, Nat.reduceEqDiff, List.all_cons, List.all_nil, Option.isNone, Option.map_some, Option.map_none, Bool.and_self, Bool.and_true, Bool.true_and, Bool.and_false, Bool.false_and, Bool.or_true, Bool.true_or, Bool.or_false, Bool.false_or, Bool.or_self, Bool.not_true, Bool.not_false, if_true, if_false, reduceIte, Bool.false_eq_true, decide_true, decide_false, ite_true, ite_false, fCallI, e, z]
    refine e2.trans ?_
    rw [List.append_assoc]
    rfl
theorem e_turns (M : Mir) (hP : PK M) (hM : MX M) : TU M.next := fun ds c xs hx => by
  obtain ⟨ys, c1, p, e1⟩ := hM ds c xs hx
  obtain ⟨ts, c2, e2, e3⟩ := e_turns_loop M hP ds (.fz (txts xs)) ys c1 [] (by rw [List.length_nil, p.length_eq]; omega)
  refine ⟨ts, c2, by rw [e2]; exact p, ?_⟩
  have e1' : M.f__law_mixed (bx ds c) [txts xs] = some (.list (ys.map PyData.str), bx ds c1) := e1
  simp (decide := true) only [b__law_turns, Mir.next, dPure, dIo, endI, args0, argsI, fSeq, fIf, fSet, fSetN, fRet, fRetN, fDrop, fSkip, fAsg, fPar, xMk, fBool, fTruth, truth, fNot, fAnd, fOr, fBin, fUn, fVar, vE, eV, fzr, fC, rd, fCallP, fCallI, fCons, fNil, rCons, rNil, fCall, rds, g1, fTup, fLst, vNot, vAnd, vOr, vIf, heldAt, heldL, PL.putAt, Sl.held, Sl.put, fMut, mApp, gN, gTn, gsCons, gsNil, gPut, putD, aSeq, seqD, fYes, okW, wipeA, backA, fFor, fLc, fDc, fSc, fSortSet, gIsi, isK, gLen, gIntT, gTuple, gList, gDict, hdK_nil, hdK_i, hdK_s, dKey, gIs, gIsNot, isD, gEq_str, gNe_str, gEq_int, gNe_int, gEq_bool, gNe_bool, gIx_t0, gIx_t1, gIx_t2, gIx_l0, gIx_l1, gIx_l2, gIn2, gInL2, List.length_cons, List.length_nil, List.map_cons, List.map_nil, List.replicate, List.cons_append, List.nil_append, List.getElem?_cons_zero, List.getElem?_cons_succ, List.set_cons_zero, List.set_cons_succ, Nat.reduceAdd, Nat.reduceSub, Nat.reduceEqDiff, List.all_cons, List.all_nil, Option.isNone, Option.map_some, Option.map_none, Bool.and_self, Bool.and_true, Bool.true_and, Bool.and_false, Bool.false_and, Bool.or_true, Bool.true_or, Bool.or_false, Bool.false_or, Bool.or_self, Bool.not_true, Bool.not_false, if_true, if_false, reduceIte, Bool.false_eq_true, decide_true, decide_false, ite_true, ite_false, fCallI, e1', e3]
  rfl

end K11
namespace K11
open PySem PySem.Spec PyProof.Rows L2 PL
theorem gEq_nat (a b : Nat) : gEq (.int (a : Int)) (.int (b : Int)) = some (.bool (decide (a = b))) := by
  rw [gEq_int]
  by_cases h : a = b
  · rw [decide_eq_true h, decide_eq_true (by omega)]
  · rw [decide_eq_false h, decide_eq_false (by omega)]
def Flt (f : Fm) (xs : List Str) : Prop := f.flat = true ∧ ∀ x ∈ f.lets, x ∈ xs
theorem if_t {t : FB} {a b : FS} {as as1 : AS} (h : t as = some (true, as1)) : fIf t a b as = a as1 := by
  unfold fIf
  rw [h]
theorem if_f {t : FB} {a b : FS} {as as1 : AS} (h : t as = some (false, as1)) : fIf t a b as = b as1 := by
  unfold fIf
  rw [h]
def FOk (M : Mir) (n : Nat) : Prop := ∀ (ds : List Int) (c deep : Nat) (xs : List Str), deep ≤ n → ∃ (f : Fm) (c' : Nat), Flt f xs ∧ f.dep ≤ deep ∧ M.f__law_formula (bx ds c) [txts xs, .int (deep : Int)] = some (f.d, bx ds c')
theorem e_formula1 (M : Mir) (n : Nat) (hD : DW M) (hP : PK M) (hF : ∀ m, n = m + 1 → FOk M m) : FOk M.next n := fun ds c deep xs hn => by
  obtain ⟨r, _, g1⟩ := hD ds c 9 (by decide)
  have g1 : M.f__law_draw (bx ds c) [.int 9] = some (.int (r : Int), bx ds (c + 1)) := g1
  have t1 : gEq (.int (deep : Int)) (.int 0) = some (.bool (decide (deep = 0))) := gEq_nat deep 0
  have t2 : gEq (.int (r : Int)) (.int 0) = some (.bool (decide (r = 0))) := gEq_nat r 0
  have t3 : gEq (txts xs) (.list []) = some (.bool xs.isEmpty) := gEq_nil xs
  have hc : (fOr (fBool (fBin gEq (fVar 2) (vE (fC (.int 0))))) (fOr (fBool (fBin gEq (fVar 3) (vE (fC (.int 0))))) (fBool (fBin gEq (fVar 1) (vE (fLst fNil)))))) [.io (bx ds (c + 1)), .fz (txts xs), .fz (.int (deep : Int)), .fz (.int (r : Int)), .un] = some (decide (deep = 0) || (decide (r = 0) || xs.isEmpty), [.io (bx ds (c + 1)), .fz (txts xs), .fz (.int (deep : Int)), .fz (.int (r : Int)), .un]) := by
    revert t1 t2 t3
    generalize decide (deep = 0) = b1
    generalize decide (r = 0) = b2
    generalize xs.isEmpty = b3
    intro t1 t2 t3
    cases b1 <;> cases b2 <;> cases b3 <;> simp (decide := true) only [Mir.next, dPure, dIo, endI, args0, argsI, fSeq, fIf, fSet, fSetN, fRet, fRetN, fDrop, fSkip, fAsg, fPar, xMk, fBool, fTruth, truth, fNot, fAnd, fOr, fBin, fUn, fVar, vE, eV, fzr, fC, rd, fCallP, fCallI, fCons, fNil, rCons, rNil, fCall, rds, g1, fTup, fLst, vNot, vAnd, vOr, vIf, heldAt, heldL, PL.putAt, Sl.held, Sl.put, fMut, mApp, gN, gTn, gsCons, gsNil, gPut, putD, aSeq, seqD, fYes, okW, wipeA, backA, fFor, fLc, fDc, fSc, fSortSet, gIsi, isK, gLen, gIntT, gTuple, gList, gDict, hdK_nil, hdK_i, hdK_s, dKey, gIs, gIsNot, isD, gEq_str, gNe_str, gEq_int, gNe_int, gEq_bool, gNe_bool, gIx_t0, gIx_t1, gIx_t2, gIx_l0, gIx_l1, gIx_l2, gIn2, gInL2, List.length_cons, List.length_nil, List.map_cons, List.map_nil, List.replicate, List.cons_append, List.nil_append, List.getElem?_cons_zero, List.getElem?_cons_succ, List.set_cons_zero, List.set_cons_succ, Nat.reduceAdd, Nat.reduceSub, Nat.reduceEqDiff, List.all_cons, List.all_nil, Option.isNone, Option.map_some, Option.map_none, Bool.and_self, Bool.and_true, Bool.true_and, Bool.and_false, Bool.false_and, Bool.or_true, Bool.true_or, Bool.or_false, Bool.false_or, Bool.or_self, Bool.not_true, Bool.not_false, if_true, if_false, reduceIte, Bool.false_eq_true, decide_true, decide_false, ite_true, ite_false, t1, t2, t3]
  have s0 : fSet 3 (fCallI M.f__law_draw 0 (fCons (fC (.int 9)) fNil)) (argsI 5 3 (bx ds c) [txts xs, .int (deep : Int)]) = some (.nx [.io (bx ds (c + 1)), .fz (txts xs), .fz (.int (deep : Int)), .fz (.int (r : Int)), .un]) := by
    simp (decide := true) only [Mir.next, dPure, dIo, endI, args0, argsI, fSeq, fIf, fSet, fSetN, fRet, fRetN, fDrop, fSkip, fAsg, fPar, xMk, fBool, fTruth, truth, fNot, fAnd, fOr, fBin, fUn, fVar, vE, eV, fzr, fC, rd, fCallP, fCallI, fCons, fNil, rCons, rNil, fCall, rds, g1, fTup, fLst, vNot, vAnd, vOr, vIf, heldAt, heldL, PL.putAt, Sl.held, Sl.put, fMut, mApp, gN, gTn, gsCons, gsNil, gPut, putD, aSeq, seqD, fYes, okW, wipeA, backA, fFor, fLc, fDc, fSc, fSortSet, gIsi, isK, gLen, gIntT, gTuple, gList, gDict, hdK_nil, hdK_i, hdK_s, dKey, gIs, gIsNot, isD, gEq_str, gNe_str, gEq_int, gNe_int, gEq_bool, gNe_bool, gIx_t0, gIx_t1, gIx_t2, gIx_l0, gIx_l1, gIx_l2, gIn2, gInL2, List.length_cons, List.length_nil, List.map_cons, List.map_nil, List.replicate, List.cons_append, List.nil_append, List.getElem?_cons_zero, List.getElem?_cons_succ, List.set_cons_zero, List.set_cons_succ, Nat.reduceAdd, Nat.reduceSub, Nat.reduceEqDiff, List.all_cons, List.all_nil, Option.isNone, Option.map_some, Option.map_none, Bool.and_self, Bool.and_true, Bool.true_and, Bool.and_false, Bool.false_and, Bool.or_true, Bool.true_or, Bool.or_false, Bool.false_or, Bool.or_self, Bool.not_true, Bool.not_false, if_true, if_false, reduceIte, Bool.false_eq_true, decide_true, decide_false, ite_true, ite_false, fCallI, g1]
  by_cases A : (decide (deep = 0) || (decide (r = 0) || xs.isEmpty)) = true
  · rw [A] at hc
    by_cases B : xs.isEmpty = true
    · obtain ⟨d, hd, e⟩ := hP ds (c + 1) [.str "true", .str "false"] (by simp)
      have hs : ∃ b, PyData.tuple [d] = (Fm.con b).d := by
        rcases List.mem_cons.mp hd with h | h
        · exact ⟨true, by rw [h]; rfl⟩
        · exact ⟨false, by rw [List.mem_singleton.mp h]; rfl⟩
      obtain ⟨b, hb⟩ := hs
      refine ⟨.con b, c + 2, ⟨rfl, fun x hx => by cases hx⟩, Nat.zero_le _, ?_⟩
      rw [← hb]
      show dIo 5 3 (b__law_formula M) (bx ds c) [txts xs, .int (deep : Int)] = _
      refine d_io rfl (as1 := [.fz (txts xs), .fz (.int (deep : Int)), .fz (.int (r : Int)), .un]) ?_
      unfold b__law_formula
      refine (seq_nx s0).trans ?_
      refine seq_rt ?_
      refine (if_t hc).trans ?_
      rw [B] at t3
      simp (decide := true) only [Mir.next, dPure, dIo, endI, args0, argsI, fSeq, fIf, fSet, fSetN, fRet, fRetN, fDrop, fSkip, fAsg, fPar, xMk, fBool, fTruth, truth, fNot, fAnd, fOr, fBin, fUn, fVar, vE, eV, fzr, fC, rd, fCallP, fCallI, fCons, fNil, rCons, rNil, fCall, rds, g1, fTup, fLst, vNot, vAnd, vOr, vIf, heldAt, heldL, PL.putAt, Sl.held, Sl.put, fMut, mApp, gN, gTn, gsCons, gsNil, gPut, putD, aSeq, seqD, fYes, okW, wipeA, backA, fFor, fLc, fDc, fSc, fSortSet, gIsi, isK, gLen, gIntT, gTuple, gList, gDict, hdK_nil, hdK_i, hdK_s, dKey, gIs, gIsNot, isD, gEq_str, gNe_str, gEq_int, gNe_int, gEq_bool, gNe_bool, gIx_t0, gIx_t1, gIx_t2, gIx_l0, gIx_l1, gIx_l2, gIn2, gInL2, List.length_cons, List.length_nil, List.map_cons, List.map_nil, List.replicate, List.cons_append, List.nil_append, List.getElem?_cons_zero, List.getElem?_cons_succ, List.set_cons_zero, List.set_cons_succ, Nat.reduceAdd, Nat.reduceSub, Nat.reduceEqDiff, List.all_cons, List.all_nil, Option.isNone, Option.map_some, Option.map_none, Bool.and_self, Bool.and_true, Bool.true_and, Bool.and_false, Bool.false_and, Bool.or_true, Bool.true_or, Bool.or_false, Bool.false_or, Bool.or_self, Bool.not_true, Bool.not_false, if_true, if_false, reduceIte, Bool.false_eq_true, decide_true, decide_false, ite_true, ite_false, fCallI, t3, e]
    · obtain ⟨r2, _, g2⟩ := hD ds (c + 1) 12 (by decide)
      have g2 : M.f__law_draw (bx ds (c + 1)) [.int 12] = some (.int (r2 : Int), bx ds (c + 2)) := g2
      have t4 : gEq (.int (r2 : Int)) (.int 0) = some (.bool (decide (r2 = 0))) := gEq_nat r2 0
      have B' : xs.isEmpty = false := by cases h : xs.isEmpty with
        | true => exact absurd h B
        | false => rfl
      rw [B'] at t3
      by_cases C : r2 = 0
      · obtain ⟨d, hd, e⟩ := hP ds (c + 2) [.str "true", .str "false"] (by simp)
        have hs : ∃ b, PyData.tuple [d] = (Fm.con b).d := by
          rcases List.mem_cons.mp hd with h | h
          · exact ⟨true, by rw [h]; rfl⟩
          · exact ⟨false, by rw [List.mem_singleton.mp h]; rfl⟩
        obtain ⟨b, hb⟩ := hs
        refine ⟨.con b, c + 3, ⟨rfl, fun x hx => by cases hx⟩, Nat.zero_le _, ?_⟩
        rw [← hb]
        show dIo 5 3 (b__law_formula M) (bx ds c) [txts xs, .int (deep : Int)] = _
        refine d_io rfl (as1 := [.fz (txts xs), .fz (.int (deep : Int)), .fz (.int (r : Int)), .un]) ?_
        unfold b__law_formula
        refine (seq_nx s0).trans ?_
        refine seq_rt ?_
        refine (if_t hc).trans ?_
        rw [decide_eq_true C] at t4
        simp (decide := true) only [Mir.next, dPure, dIo, endI, args0, argsI, fSeq, fIf, fSet, fSetN, fRet, fRetN, fDrop, fSkip, fAsg, fPar, xMk, fBool, fTruth, truth, fNot, fAnd, fOr, fBin, fUn, fVar, vE, eV, fzr, fC, rd, fCallP, fCallI, fCons, fNil, rCons, rNil, fCall, rds, g1, fTup, fLst, vNot, vAnd, vOr, vIf, heldAt, heldL, PL.putAt, Sl.held, Sl.put, fMut, mApp, gN, gTn, gsCons, gsNil, gPut, putD, aSeq, seqD, fYes, okW, wipeA, backA, fFor, fLc, fDc, fSc, fSortSet, gIsi, isK, gLen, gIntT, gTuple, gList, gDict, hdK_nil, hdK_i, hdK_s, dKey, gIs, gIsNot, isD, gEq_str, gNe_str, gEq_int, gNe_int, gEq_bool, gNe_bool, gIx_t0, gIx_t1, gIx_t2, gIx_l0, gIx_l1, gIx_l2, gIn2, gInL2, List.length_cons, List.length_nil, List.map_cons, List.map_nil, List.replicate, List.cons_append, List.nil_append, List.getElem?_cons_zero, List.getElem?_cons_succ, List.set_cons_zero, List.set_cons_succ, Nat.reduceAdd, Nat.reduceSub, Nat.reduceEqDiff, List.all_cons, List.all_nil, Option.isNone, Option.map_some, Option.map_none, Bool.and_self, Bool.and_true, Bool.true_and, Bool.and_false, Bool.false_and, Bool.or_true, Bool.true_or, Bool.or_false, Bool.false_or, Bool.or_self, Bool.not_true, Bool.not_false, if_true, if_false, reduceIte, Bool.false_eq_true, decide_true, decide_false, ite_true, ite_false, fCallI, t3, g2, t4, e]
      · have ne : xs.map PyData.str ≠ [] := fun h => by
          rw [List.map_eq_nil_iff] at h
          rw [h] at B'
          cases B'
        obtain ⟨d, hd, e⟩ := hP ds (c + 2) (xs.map .str) ne
        obtain ⟨x, hx, rfl⟩ := List.mem_map.mp hd
        refine ⟨.lit x, c + 3, ⟨rfl, fun y hy => by rw [show (Fm.lit x).lets = [x] from rfl, List.mem_singleton] at hy; rw [hy]; exact hx⟩, Nat.zero_le _, ?_⟩
        show dIo 5 3 (b__law_formula M) (bx ds c) [txts xs, .int (deep : Int)] = some (.tuple [.str "letter", .str x], _)
        refine d_io rfl (as1 := [.fz (txts xs), .fz (.int (deep : Int)), .fz (.int (r : Int)), .un]) ?_
        unfold b__law_formula
        refine (seq_nx s0).trans ?_
        refine seq_rt ?_
        refine (if_t hc).trans ?_
        rw [decide_eq_false C] at t4
        have e : M.f__law_pick (bx ds (c + 2)) [txts xs] = _ := e
        simp (decide := true) only [Mir.next, dPure, dIo, endI, args0, argsI, fSeq, fIf, fSet, fSetN, fRet, fRetN, fDrop, fSkip, fAsg, fPar, xMk, fBool, fTruth, truth, fNot, fAnd, fOr, fBin, fUn, fVar, vE, eV, fzr, fC, rd, fCallP, fCallI, fCons, fNil, rCons, rNil, fCall, rds, g1, fTup, fLst, vNot, vAnd, vOr, vIf, heldAt, heldL, PL.putAt, Sl.held, Sl.put, fMut, mApp, gN, gTn, gsCons, gsNil, gPut, putD, aSeq, seqD, fYes, okW, wipeA, backA, fFor, fLc, fDc, fSc, fSortSet, gIsi, isK, gLen, gIntT, gTuple, gList, gDict, hdK_nil, hdK_i, hdK_s, dKey, gIs, gIsNot, isD, gEq_str, gNe_str, gEq_int, gNe_int, gEq_bool, gNe_bool, gIx_t0, gIx_t1, gIx_t2, gIx_l0, gIx_l1, gIx_l2, gIn2, gInL2, List.length_cons, List.length_nil, List.map_cons, List.map_nil, List.replicate, List.cons_append, List.nil_append, List.getElem?_cons_zero, List.getElem?_cons_succ, List.set_cons_zero, List.set_cons_succ, Nat.reduceAdd, Nat.reduceSub, Nat.reduceEqDiff, List.all_cons, List.all_nil, Option.isNone, Option.map_some, Option.map_none, Bool.and_self, Bool.and_true, Bool.true_and, Bool.and_false, Bool.false_and, Bool.or_true, Bool.true_or, Bool.or_false, Bool.false_or, Bool.or_self, Bool.not_true, Bool.not_false, if_true, if_false, reduceIte, Bool.false_eq_true, decide_true, decide_false, ite_true, ite_false, fCallI, t3, g2, t4, e]
  · have A' : (decide (deep = 0) || (decide (r = 0) || xs.isEmpty)) = false := by
      cases h : (decide (deep = 0) || (decide (r = 0) || xs.isEmpty)) with
      | true => exact absurd h A
      | false => rfl
    rw [A'] at hc
    have dz : deep ≠ 0 := fun h => by
      rw [decide_eq_true h] at A'
      cases A'
    obtain ⟨m, rfl⟩ : ∃ m, deep = m + 1 := ⟨deep - 1, by omega⟩
    obtain ⟨p, rfl⟩ : ∃ p, n = p + 1 := ⟨n - 1, by omega⟩
    have hR := hF p rfl
    obtain ⟨f1, c1, p1, q1, e1⟩ := hR ds (c + 1) m xs (by omega)
    have dm : PL.gSub (.int ((m + 1 : Nat) : Int)) (.int 1) = some (.int (m : Int)) := by
      show some (PyData.int (((m + 1 : Nat) : Int) - 1)) = _
      rw [show ((m + 1 : Nat) : Int) - 1 = (m : Int) by omega]
    by_cases C : r < 3
    · have t4 : gLt (.int (r : Int)) (.int 3) = some (.bool true) := by
        show some (PyData.bool (decide ((r : Int) < 3))) = _
        rw [decide_eq_true (by omega)]
      refine ⟨.not f1, c1, ⟨p1.1, p1.2⟩, by show f1.dep + 1 ≤ m + 1; omega, ?_⟩
      show dIo 5 3 (b__law_formula M) (bx ds c) [txts xs, .int ((m + 1 : Nat) : Int)] = some (.tuple [.str "not", f1.d], _)
      refine d_io rfl (as1 := [.fz (txts xs), .fz (.int ((m + 1 : Nat) : Int)), .fz (.int (r : Int)), .un]) ?_
      unfold b__law_formula
      refine (seq_nx s0).trans ?_
      refine (seq_nx ((if_f hc).trans rfl)).trans ?_
      refine seq_rt ?_
      simp (decide := true) only [Mir.next, dPure, dIo, endI, args0, argsI, fSeq, fIf, fSet, fSetN, fRet, fRetN, fDrop, fSkip, fAsg, fPar, xMk, fBool, fTruth, truth, fNot, fAnd, fOr, fBin, fUn, fVar, vE, eV, fzr, fC, rd, fCallP, fCallI, fCons, fNil, rCons, rNil, fCall, rds, g1, fTup, fLst, vNot, vAnd, vOr, vIf, heldAt, heldL, PL.putAt, Sl.held, Sl.put, fMut, mApp, gN, gTn, gsCons, gsNil, gPut, putD, aSeq, seqD, fYes, okW, wipeA, backA, fFor, fLc, fDc, fSc, fSortSet, gIsi, isK, gLen, gIntT, gTuple, gList, gDict, hdK_nil, hdK_i, hdK_s, dKey, gIs, gIsNot, isD, gEq_str, gNe_str, gEq_int, gNe_int, gEq_bool, gNe_bool, gIx_t0, gIx_t1, gIx_t2, gIx_l0, gIx_l1, gIx_l2, gIn2, gInL2, List.length_cons, List.length_nil, List.map_cons, List.map_nil, List.replicate, List.cons_append, List.nil_append, List.getElem?_cons_zero, List.getElem?_cons_succ, List.set_cons_zero, List.set_cons_succ, Nat.reduceAdd, Nat.reduceSub, Nat.reduceEqDiff, List.all_cons, List.all_nil, Option.isNone, Option.map_some, Option.map_none, Bool.and_self, Bool.and_true, Bool.true_and, Bool.and_false, Bool.false_and, Bool.or_true, Bool.true_or, Bool.or_false, Bool.false_or, Bool.or_self, Bool.not_true, Bool.not_false, if_true, if_false, reduceIte, Bool.false_eq_true, decide_true, decide_false, ite_true, ite_false, fCallI, t4, dm, e1]
    · have t4 : gLt (.int (r : Int)) (.int 3) = some (.bool false) := by
        show some (PyData.bool (decide ((r : Int) < 3))) = _
        rw [decide_eq_false (by omega)]
      obtain ⟨d, hd, e⟩ := hP ds c1 [.str "and", .str "or", .str "then", .str "same", .str "or", .str "and"] (by simp)
      have ho : ∃ o : Op, d = .str o.nm := by
        simp only [List.mem_cons, List.not_mem_nil, or_false] at hd
        rcases hd with h | h | h | h | h | h
        · exact ⟨.and, h⟩
        · exact ⟨.or, h⟩
        · exact ⟨.thn, h⟩
        · exact ⟨.same, h⟩
        · exact ⟨.or, h⟩
        · exact ⟨.and, h⟩
      obtain ⟨o, rfl⟩ := ho
      obtain ⟨f2, c2, p2, q2, e2⟩ := hR ds (c1 + 1) m xs (by omega)
      refine ⟨.bin o f1 f2, c2, ⟨by show (f1.flat && f2.flat) = true; rw [p1.1, p2.1]; rfl, fun x hx => by
        rcases List.mem_append.mp (show x ∈ f1.lets ++ f2.lets from hx) with h | h
        · exact p1.2 x h
        · exact p2.2 x h⟩, by show max f1.dep f2.dep + 1 ≤ m + 1; omega, ?_⟩
      show dIo 5 3 (b__law_formula M) (bx ds c) [txts xs, .int ((m + 1 : Nat) : Int)] = some (.tuple [.str o.nm, f1.d, f2.d], _)
      refine d_io rfl (as1 := [.fz (txts xs), .fz (.int ((m + 1 : Nat) : Int)), .fz (.int (r : Int)), .fz f1.d]) ?_
      unfold b__law_formula
      refine (seq_nx s0).trans ?_
      refine (seq_nx ((if_f hc).trans rfl)).trans ?_
      simp (decide := true) only [Mir.next, dPure, dIo, endI, args0, argsI, fSeq, fIf, fSet, fSetN, fRet, fRetN, fDrop, fSkip, fAsg, fPar, xMk, fBool, fTruth, truth, fNot, fAnd, fOr, fBin, fUn, fVar, vE, eV, fzr, fC, rd, fCallP, fCallI, fCons, fNil, rCons, rNil, fCall, rds, g1, fTup, fLst, vNot, vAnd, vOr, vIf, heldAt, heldL, PL.putAt, Sl.held, Sl.put, fMut, mApp, gN, gTn, gsCons, gsNil, gPut, putD, aSeq, seqD, fYes, okW, wipeA, backA, fFor, fLc, fDc, fSc, fSortSet, gIsi, isK, gLen, gIntT, gTuple, gList, gDict, hdK_nil, hdK_i, hdK_s, dKey, gIs, gIsNot, isD, gEq_str, gNe_str, gEq_int, gNe_int, gEq_bool, gNe_bool, gIx_t0, gIx_t1, gIx_t2, gIx_l0, gIx_l1, gIx_l2, gIn2, gInL2, List.length_cons, List.length_nil, List.map_cons, List.map_nil, List.replicate, List.cons_append, List.nil_append, List.getElem?_cons_zero, List.getElem?_cons_succ, List.set_cons_zero, List.set_cons_succ, Nat.reduceAdd, Nat.reduceSub, Nat.reduceEqDiff, List.all_cons, List.all_nil, Option.isNone, Option.map_some, Option.map_none, Bool.and_self, Bool.and_true, Bool.true_and, Bool.and_false, Bool.false_and, Bool.or_true, Bool.true_or, Bool.or_false, Bool.false_or, Bool.or_self, Bool.not_true, Bool.not_false, if_true, if_false, reduceIte, Bool.false_eq_true, decide_true, decide_false, ite_true, ite_false, fCallI, t4, dm, e1, e, e2]
theorem fo_mir : ∀ n : Nat, FOk (mir (n + 3)) n
  | 0 => e_formula1 (mir 2) 0 (e_draw (mir 1)) (e_pick (mir 1) (e_draw (mir 0))) (fun m h => by cases h)
  | n + 1 => e_formula1 (mir (n + 3)) (n + 1) (e_draw (mir (n + 2))) (e_pick (mir (n + 2)) (e_draw (mir (n + 1)))) (fun m h => by
    cases h
    exact fo_mir n)
theorem fo_more {n m : Nat} (h : m ≤ n) {M : Mir} (f : FOk M n) : FOk M m := fun ds c deep xs hd => f ds c deep xs (by omega)

theorem fo_all : ∀ (n k : Nat), FOk (mir (n + 3 + k)) n
  | 0, k => by
    rw [show 0 + 3 + k = k + 3 by omega]
    exact e_formula1 (mir (k + 2)) 0 (e_draw (mir (k + 1))) (e_pick (mir (k + 1)) (e_draw (mir k))) (fun m h => by cases h)
  | n + 1, k => by
    rw [show n + 1 + 3 + k = (n + k + 3) + 1 by omega]
    exact e_formula1 (mir (n + k + 3)) (n + 1) (e_draw (mir (n + k + 2))) (e_pick (mir (n + k + 2)) (e_draw (mir (n + k + 1)))) (fun m h => by
      cases h
      rw [show n + k + 3 = n + 3 + k by omega]
      exact fo_all n k)
theorem lit_flt {x : Str} {xs : List Str} (h : x ∈ xs) : Flt (.lit x) xs := ⟨rfl, fun y hy => by
  rw [show (Fm.lit x).lets = [x] from rfl, List.mem_singleton] at hy
  rw [hy]
  exact h⟩
theorem not_flt {f : Fm} {xs : List Str} (h : Flt f xs) : Flt (.not f) xs := ⟨h.1, h.2⟩
theorem bin_flt {o : Op} {f g : Fm} {xs : List Str} (h1 : Flt f xs) (h2 : Flt g xs) : Flt (.bin o f g) xs := ⟨by show (f.flat && g.flat) = true; rw [h1.1, h2.1]; rfl, fun x hx => by
  rcases List.mem_append.mp (show x ∈ f.lets ++ g.lets from hx) with h | h
  · exact h1.2 x h
  · exact h2.2 x h⟩
end K11
namespace K11
open PySem PySem.Spec PyProof.Rows L2 PL
abbrev Ev := Str → Bool
def upd (e : Ev) (x : Str) (b : Bool) : Ev := fun y => if y = x then b else e y
def gv : T0 → (Ev → Bool) → Ev → Bool
  | [], P, e => P e
  | t :: r, P, e => if t.1 = true then gv r P (upd e t.2 false) || gv r P (upd e t.2 true) else gv r P (upd e t.2 false) && gv r P (upd e t.2 true)
theorem cls_ev (f : Fm) : ∀ (ts : T0) (e : Ev), (cls ts f).ev e = gv ts f.ev e
  | [], e => rfl
  | (true, x) :: r, e => by
    show ((cls r f).ev (upd e x false) || (cls r f).ev (upd e x true)) = (gv r f.ev (upd e x false) || gv r f.ev (upd e x true))
    rw [cls_ev f r, cls_ev f r]
  | (false, x) :: r, e => by
    show ((cls r f).ev (upd e x false) && (cls r f).ev (upd e x true)) = (gv r f.ev (upd e x false) && gv r f.ev (upd e x true))
    rw [cls_ev f r, cls_ev f r]
theorem upd_out {e : Ev} {x y : Str} {b : Bool} (h : y ≠ x) : upd e x b y = e y := if_neg h
theorem upd_at (e : Ev) (x : Str) (b : Bool) : upd e x b x = b := if_pos rfl
theorem gv_congr {P Q : Ev → Bool} : ∀ (ts : T0) (e : Ev), (∀ e' : Ev, (∀ y, y ∉ ts.map Prod.snd → e' y = e y) → P e' = Q e') → gv ts P e = gv ts Q e
  | [], e, h => h e fun _ _ => rfl
  | t :: r, e, h => by
    have k : ∀ b, gv r P (upd e t.2 b) = gv r Q (upd e t.2 b) := fun b => gv_congr r _ fun e' h' => h e' fun y hy => by
      rw [List.map_cons, List.mem_cons, not_or] at hy
      rw [h' y hy.2, upd_out hy.1]
    unfold gv
    rw [k, k]
theorem gv_app (P : Ev → Bool) (b : T0) : ∀ (a : T0) (e : Ev), gv (a ++ b) P e = gv a (gv b P) e
  | [], e => rfl
  | t :: r, e => by
    rw [List.cons_append]
    unfold gv
    rw [gv_app P b r, gv_app P b r]
theorem gv_const (v : Bool) : ∀ (ts : T0) (e : Ev), gv ts (fun _ => v) e = v
  | [], e => rfl
  | t :: r, e => by
    unfold gv
    rw [gv_const v r, gv_const v r, Bool.or_self, Bool.and_self, if_true_true]
where
  if_true_true {c : Prop} [Decidable c] {v : Bool} : (if c then v else v) = v := by split <;> rfl
theorem ev_lets {s t : Ev} : ∀ f : Fm, f.flat = true → (∀ x ∈ f.lets, s x = t x) → f.ev s = f.ev t
  | .lit x, _, h => h x (List.mem_singleton.mpr rfl)
  | .con _, _, _ => rfl
  | .not f, hf, h => by
    show (!f.ev s) = !f.ev t
    rw [ev_lets f hf h]
  | .bin o f g, hf, h => by
    have hf' : (f.flat && g.flat) = true := hf
    rw [Bool.and_eq_true] at hf'
    show o.ap (f.ev s) (g.ev s) = o.ap (f.ev t) (g.ev t)
    rw [ev_lets f hf'.1 fun x hx => h x (List.mem_append.mpr (.inl hx)), ev_lets g hf'.2 fun x hx => h x (List.mem_append.mpr (.inr hx))]
  | .all _ _, hf, _ => by cases hf
  | .som _ _, hf, _ => by cases hf
theorem flat_inn {s : Ev} : ∀ f : Fm, f.flat = true → (∀ x ∈ f.lets, s x = true) → f.inn s = true
  | .lit x, _, h => h x (List.mem_singleton.mpr rfl)
  | .con _, _, _ => rfl
  | .not f, hf, h => flat_inn f hf h
  | .bin o f g, hf, h => by
    have hf' : (f.flat && g.flat) = true := hf
    rw [Bool.and_eq_true] at hf'
    show (f.inn s && g.inn s) = true
    rw [flat_inn f hf'.1 fun x hx => h x (List.mem_append.mpr (.inl hx)), flat_inn g hf'.2 fun x hx => h x (List.mem_append.mpr (.inr hx))]
    rfl
  | .all _ _, hf, _ => by cases hf
  | .som _ _, hf, _ => by cases hf
theorem cls_inn (f : Fm) (s : Ev) (hf : f.flat = true) : ∀ (ts : T0) (s : Ev), (∀ x ∈ f.lets, x ∈ ts.map Prod.snd ∨ s x = true) → (cls ts f).inn s = true
  | [], s, h => flat_inn f hf fun x hx => (h x hx).elim (fun z => nomatch z) id
  | (b, y) :: r, s, h => by
    have k : (cls r f).inn (fun z => decide (z = y) || s z) = true := cls_inn f s hf r _ fun x hx => by
      rcases h x hx with h1 | h1
      · rcases List.mem_cons.mp h1 with h2 | h2
        · right
          rw [decide_eq_true (show x = y from h2)]
          rfl
        · exact .inl h2
      · right
        rw [h1, Bool.or_true]
    rw [cls_cons]
    cases b
    · exact k
    · exact k
/-! ### paths -/
def run (e : Ev) : Sg0 → Ev
  | [] => e
  | p :: s => run (upd e p.1 p.2) s
theorem run_look : ∀ (s : Sg0) (e : Ev), (s.map Prod.fst).Nodup → ∀ y, run e s y = (look0 y s).getD (e y)
  | [], e, _, y => rfl
  | (x, b) :: s, e, nd, y => by
    rw [List.map_cons, List.nodup_cons] at nd
    show run (upd e x b) s y = (if x = y then some b else look0 y s).getD (e y)
    rw [run_look s _ nd.2]
    by_cases h : x = y
    · subst h
      rw [if_pos rfl, upd_at]
      have z := has_mem s x
      unfold has at z
      rw [decide_eq_false nd.1] at z
      cases q : look0 x s with
      | none => rfl
      | some c => rw [q] at z; cases z
    · rw [if_neg h, upd_out (fun z => h z.symm)]
def e0 : Ev := fun _ => false
theorem env_run {s : Sg0} (nd : (s.map Prod.fst).Nodup) : env s = run e0 s := by
  funext y
  rw [run_look s e0 nd]
  rfl
theorem env_nil : env [] = e0 := rfl
theorem gv_paths {P Q : Ev → Bool} : ∀ (pre : T0) (e : Ev), (∀ s : Sg0, s.map Prod.fst = pre.map Prod.snd → P (run e s) = Q (run e s)) → gv pre P e = gv pre Q e
  | [], e, h => h [] rfl
  | t :: r, e, h => by
    have k : ∀ b, gv r P (upd e t.2 b) = gv r Q (upd e t.2 b) := fun b => gv_paths r _ fun s hs => h ((t.2, b) :: s) (by rw [List.map_cons, List.map_cons, hs])
    unfold gv
    rw [k, k]
theorem env_snoc {s : Sg0} {x : Str} (h : x ∉ s.map Prod.fst) (b : Bool) : env (s ++ [(x, b)]) = upd (env s) x b := by
  rw [← put_end x b s h, env_put]
  rfl
theorem env_of {s : Sg0} (nd : (s.map Prod.fst).Nodup) : ∀ p ∈ s, env s p.1 = p.2 := by
  induction s with
  | nil => intro p hp; cases hp
  | cons q s ih =>
    intro p hp
    rw [List.map_cons, List.nodup_cons] at nd
    rcases List.mem_cons.mp hp with h | h
    · subst h
      show ((if p.1 = p.1 then some p.2 else look0 p.1 s).getD false) = p.2
      rw [if_pos rfl]
      rfl
    · have ne : ¬ q.1 = p.1 := fun z => nd.1 (by rw [z]; exact List.mem_map_of_mem h)
      show ((if q.1 = p.1 then some q.2 else look0 p.1 s).getD false) = p.2
      rw [if_neg ne]
      exact ih nd.2 p h
/-! ### all signs -/
theorem mem_both {x : Str} {ss : List Sg0} {t : Sg0} : t ∈ bothS x ss ↔ ∃ s ∈ ss, ∃ b, t = put x b s := by
  refine ⟨both_mem, fun ⟨s, hs, b, e⟩ => List.mem_flatMap.mpr ⟨s, hs, ?_⟩⟩
  subst e
  cases b
  · exact List.mem_cons_self
  · exact List.mem_cons_of_mem _ List.mem_cons_self
theorem mem_all : ∀ (xs : List Str) (ss : List Sg0) (t : Sg0), xs.Nodup → (∀ s ∈ ss, ∀ x ∈ xs, x ∉ s.map Prod.fst) → (t ∈ allS xs ss ↔ ∃ s ∈ ss, ∃ p : Sg0, p.map Prod.fst = xs ∧ t = s ++ p)
  | [], ss, t, _, _ => by
    show t ∈ ss ↔ _
    constructor
    · intro h
      exact ⟨t, h, [], rfl, (List.append_nil t).symm⟩
    · intro ⟨s, hs, p, hp, e⟩
      rw [List.map_eq_nil_iff] at hp
      subst hp
      rw [e, List.append_nil]
      exact hs
  | x :: xs, ss, t, nd, h => by
    rw [List.nodup_cons] at nd
    show t ∈ allS xs (bothS x ss) ↔ _
    have h' : ∀ s ∈ bothS x ss, ∀ y ∈ xs, y ∉ s.map Prod.fst := fun s hs y hy z => by
      obtain ⟨s0, h0, b, e⟩ := mem_both.mp hs
      rw [e, put_end x b s0 (h s0 h0 x List.mem_cons_self), List.map_append, List.mem_append] at z
      rcases z with z | z
      · exact h s0 h0 y (List.mem_cons_of_mem _ hy) z
      · rw [List.map_cons, List.map_nil, List.mem_singleton] at z
        subst z
        exact nd.1 hy
    rw [mem_all xs (bothS x ss) t nd.2 h']
    constructor
    · intro ⟨s, hs, p, hp, e⟩
      obtain ⟨s0, h0, b, e1⟩ := mem_both.mp hs
      rw [put_end x b s0 (h s0 h0 x List.mem_cons_self)] at e1
      refine ⟨s0, h0, (x, b) :: p, by rw [List.map_cons, hp], ?_⟩
      rw [e, e1, List.append_assoc]
      rfl
    · intro ⟨s0, h0, p, hp, e⟩
      cases p with
      | nil => cases hp
      | cons q p =>
        rw [List.map_cons, List.cons.injEq] at hp
        refine ⟨put x q.2 s0, mem_both.mpr ⟨s0, h0, q.2, rfl⟩, p, hp.2, ?_⟩
        rw [put_end x q.2 s0 (h s0 h0 x List.mem_cons_self), e, List.append_assoc, ← hp.1]
        rfl
theorem mem_all0 {xs : List Str} (nd : xs.Nodup) (t : Sg0) : t ∈ allS xs [[]] ↔ t.map Prod.fst = xs := by
  rw [mem_all xs [[]] t nd (fun s hs x hx z => by
    rw [List.mem_singleton] at hs
    subst hs
    cases z)]
  constructor
  · intro ⟨s, hs, p, hp, e⟩
    rw [List.mem_singleton] at hs
    subst hs
    rw [e]
    exact hp
  · intro h
    exact ⟨[], List.mem_singleton.mpr rfl, t, h, rfl⟩
end K11
namespace K11
open PySem PySem.Spec PyProof.Rows L2 PL
/-! ### all rows of n truth values, the last changing first -/
def allB : Nat → List (List Bool)
  | 0 => [[]]
  | n + 1 => (allB n).map (false :: ·) ++ (allB n).map (true :: ·)
theorem allB_mem : ∀ {n : Nat} {bs : List Bool}, bs ∈ allB n ↔ bs.length = n
  | 0, bs => by
    unfold allB
    rw [List.mem_singleton, List.length_eq_zero_iff]
  | n + 1, bs => by
    unfold allB
    rw [List.mem_append, List.mem_map, List.mem_map]
    constructor
    · rintro (⟨cs, h, rfl⟩ | ⟨cs, h, rfl⟩) <;> rw [List.length_cons, allB_mem.mp h]
    · intro h
      cases bs with
      | nil => cases h
      | cons b cs =>
        have hc : cs ∈ allB n := allB_mem.mpr (by rw [List.length_cons] at h; omega)
        cases b
        · exact .inl ⟨cs, hc, rfl⟩
        · exact .inr ⟨cs, hc, rfl⟩
theorem allB_nodup : ∀ n : Nat, (allB n).Nodup
  | 0 => by unfold allB; exact List.nodup_cons.mpr ⟨fun h => (nomatch h), List.nodup_nil⟩
  | n + 1 => by
    unfold allB
    have inj : ∀ b : Bool, ((allB n).map (b :: ·)).Nodup := fun b => List.Pairwise.map _ (fun a c h e => h (List.cons.inj e).2) (allB_nodup n)
    rw [List.nodup_append]
    refine ⟨inj _, inj _, fun a ha c hc e => ?_⟩
    obtain ⟨p, _, rfl⟩ := List.mem_map.mp ha
    obtain ⟨q, _, rfl⟩ := List.mem_map.mp hc
    cases e
theorem allB_len : ∀ n : Nat, (allB n).length = 2 ^ n
  | 0 => rfl
  | n + 1 => by
    unfold allB
    rw [List.length_append, List.length_map, List.length_map, allB_len n, Nat.pow_succ]
    omega
/-- those with False at p, without it -/
theorem allB_erase : ∀ (n p : Nat), p ≤ n → ((allB (n + 1)).filter (fun bs => bs[p]? == some false)).map (·.eraseIdx p) = allB n
  | n, 0, _ => by
    rw [show allB (n + 1) = (allB n).map (false :: ·) ++ (allB n).map (true :: ·) from rfl]
    have f : (((allB n).map (false :: ·)).filter fun bs => bs[0]? == some false) = (allB n).map (false :: ·) := List.filter_eq_self.mpr fun a h => by
      obtain ⟨c, _, rfl⟩ := List.mem_map.mp h
      rfl
    have t : (((allB n).map (true :: ·)).filter fun bs => bs[0]? == some false) = [] := List.filter_eq_nil_iff.mpr fun a h => by
      obtain ⟨c, _, rfl⟩ := List.mem_map.mp h
      exact fun z => (nomatch z)
    rw [List.filter_append, f, t, List.append_nil, List.map_map]
    exact (show (allB n).map ((fun x => x.eraseIdx 0) ∘ fun x => false :: x) = allB n from List.map_id' (allB n))
  | 0, p + 1, h => by omega
  | n + 1, p + 1, h => by
    have ih := allB_erase n p (by omega)
    have one : ∀ b : Bool, (((allB (n + 1)).map (b :: ·)).filter (fun bs => bs[p + 1]? == some false)).map (·.eraseIdx (p + 1)) = (allB n).map (b :: ·) := fun b => by
      rw [← ih, List.filter_map, List.map_map, List.map_map]
      rfl
    rw [show allB (n + 1 + 1) = (allB (n + 1)).map (false :: ·) ++ (allB (n + 1)).map (true :: ·) from rfl, List.filter_append, List.map_append, one, one]
    rfl
def ins (p : Nat) (b : Bool) (bs : List Bool) : List Bool := bs.take p ++ b :: bs.drop p
theorem ins_erase {p : Nat} {bs : List Bool} {c : Bool} (h : bs[p]? = some c) (b : Bool) : ins p b (bs.eraseIdx p) = bs.take p ++ [b] ++ bs.drop (p + 1) := by
  have hp := (List.getElem?_eq_some_iff.mp h).1
  unfold ins
  rw [List.eraseIdx_eq_take_drop_succ]
  have e1 : (bs.take p).length = p := by rw [List.length_take]; omega
  rw [List.take_append_of_le_length (by omega), List.take_take, Nat.min_self]
  have e2 : (List.take p bs ++ List.drop (p + 1) bs).drop p = List.drop (p + 1) bs := by
    rw [List.drop_append, e1, Nat.sub_self, List.drop_zero, List.drop_take_self, List.nil_append]
  rw [e2, List.append_assoc]
  rfl
theorem ins_same {p : Nat} {bs : List Bool} {c : Bool} (h : bs[p]? = some c) : ins p c (bs.eraseIdx p) = bs := by
  rw [ins_erase h]
  obtain ⟨hp, e⟩ := List.getElem?_eq_some_iff.mp h
  have : bs.take p ++ [c] = bs.take (p + 1) := by
    rw [List.take_add_one, h]; rfl
  rw [this, List.take_append_drop]
theorem ins_len {p : Nat} {b : Bool} {bs : List Bool} (h : p ≤ bs.length) : (ins p b bs).length = bs.length + 1 := by
  unfold ins
  rw [List.length_append, List.length_cons, List.length_take, List.length_drop]
  omega
def opB (s a b : Bool) : Bool := if s = true then a || b else a && b
/-- a letter after the other chosen over -/
def elim (side : Str → Bool) : List Str → List Str → (List Bool → Bool) → Bool
  | [], _, tab => tab []
  | x :: r, left, tab => elim side r (left.eraseIdx (left.idxOf x)) fun bs => opB (side x) (tab (ins (left.idxOf x) false bs)) (tab (ins (left.idxOf x) true bs))
theorem elim_congr (side : Str → Bool) : ∀ (r left : List Str) (tab tab2 : List Bool → Bool), r.Perm left → (∀ bs, bs.length = left.length → tab bs = tab2 bs) → elim side r left tab = elim side r left tab2
  | [], left, tab, tab2, p, h => h [] (by rw [← List.Perm.nil_eq p]; rfl)
  | x :: r, left, tab, tab2, p, h => by
    have hx : x ∈ left := p.subset List.mem_cons_self
    have hi : left.idxOf x < left.length := List.idxOf_lt_length_iff.mpr hx
    have p' : r.Perm (left.eraseIdx (left.idxOf x)) := by
      rw [← List.erase_eq_eraseIdx_of_idxOf (show left.idxOf x = left.idxOf x from rfl)]
      exact List.cons_perm_iff_perm_erase.mp p |>.2
    unfold elim
    refine elim_congr side r _ _ _ p' fun bs hb => ?_
    rw [List.length_eraseIdx_of_lt hi] at hb
    have l : ∀ b, (ins (left.idxOf x) b bs).length = left.length := fun b => by rw [ins_len (by omega)]; omega
    rw [h _ (l false), h _ (l true)]
theorem run_upd {x : Str} {b : Bool} : ∀ (s : Sg0) (e : Ev), x ∉ s.map Prod.fst → run (upd e x b) s = upd (run e s) x b
  | [], e, _ => rfl
  | (y, c) :: s, e, h => by
    rw [List.map_cons, List.mem_cons, not_or] at h
    have sw : upd (upd e x b) y c = upd (upd e y c) x b := by
      funext z
      unfold upd
      by_cases h1 : z = y
      · have h2 : ¬ z = x := fun q => h.1 (q.symm.trans h1)
        rw [if_pos h1, if_neg h2, if_pos h1]
      · rw [if_neg h1]
        by_cases h2 : z = x
        · rw [if_pos h2, if_pos h2]
        · rw [if_neg h2, if_neg h2, if_neg h1]
    show run (upd (upd e x b) y c) s = upd (run (upd e y c) s) x b
    rw [sw]
    exact run_upd s _ h.2
theorem run_ins {x : Str} {b : Bool} : ∀ (left : List Str) (p : Nat) (bs : List Bool) (e : Ev), left.Nodup → left[p]? = some x → bs.length + 1 = left.length → run e (left.zip (ins p b bs)) = upd (run e ((left.eraseIdx p).zip bs)) x b
  | [], p, bs, e, _, h, _ => by cases h
  | y :: l, 0, bs, e, nd, h, hl => by
    have h' : y = x := Option.some.inj h
    subst h'
    rw [List.nodup_cons] at nd
    show run (upd e y b) (l.zip bs) = upd (run e (l.zip bs)) y b
    refine run_upd _ _ fun z => nd.1 ?_
    obtain ⟨q, hq, rfl⟩ := List.mem_map.mp z
    exact (List.of_mem_zip hq).1
  | y :: l, p + 1, [], e, nd, h, hl => by
    rw [List.length_cons, List.length_nil] at hl
    have : l = [] := List.eq_nil_of_length_eq_zero (by omega)
    subst this
    cases h
  | y :: l, p + 1, c :: bs, e, nd, h, hl => by
    rw [List.nodup_cons] at nd
    exact run_ins l p bs (upd e y c) nd.2 h (by rw [List.length_cons, List.length_cons] at hl; omega)
theorem elim_gv (side : Str → Bool) : ∀ (r left : List Str) (Q : Ev → Bool) (e : Ev), r.Perm left → left.Nodup → elim side r left (fun bs => Q (run e (left.zip bs))) = gv (r.reverse.map fun x => (side x, x)) Q e
  | [], left, Q, e, p, _ => by
    have : left = [] := (List.Perm.nil_eq p).symm
    subst this
    rfl
  | x :: r, left, Q, e, p, nd => by
    have hx : x ∈ left := p.subset List.mem_cons_self
    have hi : left.idxOf x < left.length := List.idxOf_lt_length_iff.mpr hx
    have p' : r.Perm (left.eraseIdx (left.idxOf x)) := by
      rw [← List.erase_eq_eraseIdx_of_idxOf (show left.idxOf x = left.idxOf x from rfl)]
      exact List.cons_perm_iff_perm_erase.mp p |>.2
    have nd' : (left.eraseIdx (left.idxOf x)).Nodup := nd.sublist (List.eraseIdx_sublist _ _)
    have gx : left[left.idxOf x]? = some x := by
      rw [List.getElem?_eq_getElem hi, List.getElem_idxOf hi]
    rw [List.reverse_cons, List.map_append, gv_app, ← elim_gv side r _ _ e p' nd']
    show elim side r (left.eraseIdx (left.idxOf x)) _ = _
    refine elim_congr side r _ _ _ p' fun bs hb => ?_
    rw [List.length_eraseIdx_of_lt hi] at hb
    dsimp only
    rw [run_ins left _ bs e nd gx (by omega), run_ins left _ bs e nd gx (by omega)]
    show opB (side x) _ _ = if side x = true then Q (upd _ x false) || Q (upd _ x true) else Q (upd _ x false) && Q (upd _ x true)
    rfl

/-! ### such rows as keys -/
def tb (bs : List Bool) : Dt := .tuple (bs.map .bool)
theorem nums_tb : ∀ bs : List Bool, numsD (bs.map .bool) = some (bs.map PL.b2i)
  | [] => rfl
  | b :: bs => by
    rw [List.map_cons]
    unfold numsD
    rw [nums_tb bs]
    rfl
theorem tKey_tb (bs : List Bool) : tKey (tb bs) = some (bs.map PL.b2i) := nums_tb bs
theorem b2is_inj : ∀ {a b : List Bool}, a.map PL.b2i = b.map PL.b2i → a = b
  | [], [], _ => rfl
  | [], _ :: _, h => by cases h
  | _ :: _, [], h => by cases h
  | x :: a, y :: b, h => by
    rw [List.map_cons, List.map_cons] at h
    injection h with h1 h2
    rw [b2i_inj h1, b2is_inj h2]
def rw2 (L : List (List Bool)) (v : List Bool → Bool) : List (Dt × Dt) := L.map fun bs => (tb bs, .bool (v bs))
theorem lk_rw (q : List Bool) (v : List Bool → Bool) : ∀ L : List (List Bool), lkT (q.map PL.b2i) (rw2 L v) = some (if q ∈ L then some (.bool (v q)) else none)
  | [] => rfl
  | c :: L => by
    have ih := lk_rw q v L
    show (match tKey (tb c) with | some n => if n = q.map PL.b2i then some (some (PyData.bool (v c))) else lkT (q.map PL.b2i) (rw2 L v) | none => none) = _
    rw [tKey_tb, ih]
    dsimp only
    by_cases h : c = q
    · subst h
      rw [if_pos rfl, if_pos List.mem_cons_self]
    · rw [if_neg fun z => h (b2is_inj z)]
      by_cases m : q ∈ L
      · rw [if_pos m, if_pos (List.mem_cons_of_mem _ m)]
      · rw [if_neg m, if_neg fun z => (List.mem_cons.mp z).elim (fun e => h e.symm) m]
theorem put_rw (q : List Bool) (d : Dt) (v : List Bool → Bool) : ∀ L : List (List Bool), q ∉ L → putT (q.map PL.b2i) (tb q) d (rw2 L v) = some (rw2 L v ++ [(tb q, d)])
  | [], _ => rfl
  | c :: L, h => by
    rw [List.mem_cons, not_or] at h
    have ih := put_rw q d v L h.2
    show (match tKey (tb c) with | some n => if n = q.map PL.b2i then some ((tb c, d) :: rw2 L v) else (putT (q.map PL.b2i) (tb q) d (rw2 L v)).map ((tb c, PyData.bool (v c)) :: ·) | none => none) = _
    rw [tKey_tb, ih]
    dsimp only
    rw [if_neg fun z => h.1 (b2is_inj z).symm]
    rfl
theorem ix_rw (L : List (List Bool)) (v : List Bool → Bool) (q : List Bool) (h : q ∈ L) : gIx (.dict (rw2 L v)) (tb q) = some (.bool (v q)) := by
  show (match tKey (tb q) with | some k => (match lkT k (rw2 L v) with | some o => o | none => none) | none => none) = _
  rw [tKey_tb]
  dsimp only
  rw [lk_rw, if_pos h]
theorem putD_rw (L : List (List Bool)) (v : List Bool → Bool) (q : List Bool) (h : q ∉ L) (hl : L.length < 1000) : putD (.dict (rw2 L v)) (tb q) (.bool (v q)) = some (.dict (rw2 (L ++ [q]) v)) := by
  show (match tKey (tb q) with | some k => if (rw2 L v).length < sizeLine then (putT k (tb q) (.bool (v q)) (rw2 L v)).map PyData.dict else none | none => none) = _
  rw [tKey_tb]
  dsimp only
  have big : (1000 : Nat) < sizeLine := by decide
  rw [if_pos (by unfold rw2; rw [List.length_map]; omega), put_rw q _ v L h]
  unfold rw2
  rw [List.map_append]
  rfl
theorem hd_rw (L : List (List Bool)) (v : List Bool → Bool) (h : L ≠ []) : hdK (rw2 L v) = false := by
  cases L with
  | nil => exact absurd rfl h
  | cons c L => rfl
theorem hap_rw (L : List (List Bool)) (v : List Bool → Bool) : hapT (rw2 L v) = decide ((L.map fun bs => hashT (bs.map PL.b2i)).Nodup) := by
  unfold hapT rw2
  have e : (L.map fun bs => (tb bs, PyData.bool (v bs))).filterMap (fun p => (tKey p.1).map hashT) = L.map fun bs => hashT (bs.map PL.b2i) := by
    induction L with
    | nil => rfl
    | cons c L ih =>
      rw [List.map_cons, List.filterMap_cons]
      dsimp only
      rw [tKey_tb]
      show hashT _ :: _ = _
      rw [ih, List.map_cons]
  rw [e]
end K11
namespace K11
open PySem PySem.Spec PyProof.Rows L2 PL
theorem hap4 : ((allB 4).map fun bs => hashT (bs.map PL.b2i)).Nodup := by decide +kernel
theorem hap5 : ((allB 5).map fun bs => hashT (bs.map PL.b2i)).Nodup := by decide +kernel
end K11
namespace K11
open PySem PySem.Spec PyProof.Rows L2 PL
theorem cut_drop {α : Type} (xs : List α) (m : Nat) : cut xs (some (m : Int)) none = xs.drop m := by
  unfold cut
  rw [HT.sIx_none, HT.sIx_nat]
  by_cases h : m ≤ xs.length
  · rw [Nat.min_eq_left h, List.take_of_length_le (by rw [List.length_drop]; omega)]
  · rw [Nat.min_eq_right (by omega), List.drop_of_length_le (Nat.le_refl _), List.drop_of_length_le (by omega), List.take_nil]
theorem gIx_tb (bs : List Bool) (p : Nat) (c : Bool) (h : bs[p]? = some c) : gIx (tb bs) (.int (p : Int)) = some (.bool c) := by
  unfold tb
  rw [gIx_tn, List.getElem?_map, h]
  rfl
theorem low_key (bs : List Bool) (p : Nat) : gSl (tb bs) none (some (p : Int)) = some (tb (bs.take p)) := by
  show some (PyData.tuple (cut (bs.map PyData.bool) none (some (p : Int)))) = _
  rw [cut_take, ← List.map_take]
  rfl
theorem high_key (bs : List Bool) (p : Nat) : gSl (tb bs) (some ((p : Int) + 1)) none = some (tb (bs.drop (p + 1))) := by
  show some (PyData.tuple (cut (bs.map PyData.bool) (some ((p : Int) + 1)) none)) = _
  rw [show (p : Int) + 1 = ((p + 1 : Nat) : Int) by omega, cut_drop, ← List.map_drop]
  rfl
theorem add_tb (a b : List Bool) (h : a.length + b.length ≤ 100) : gAdd (tb a) (tb b) = some (tb (a ++ b)) := by
  have big : (1000 : Nat) < sizeLine := by decide
  show (if (a.map PyData.bool).length + (b.map PyData.bool).length ≤ sizeLine then some (PyData.tuple (a.map PyData.bool ++ b.map PyData.bool)) else none) = _
  rw [if_pos (by rw [List.length_map, List.length_map]; omega), ← List.map_append]
  rfl
theorem tb_true : PyData.tuple [.bool true] = tb [true] := rfl
theorem index_txts (xs : List Str) (x : Str) (h : x ∈ xs) : gIndex (txts xs) (.str x) = some (.int ((xs.idxOf x : Nat) : Int)) := by
  show (match strsD (xs.map PyData.str) with | some ys => if x ∈ ys then some (PyData.int ((ys.idxOf x : Nat) : Int)) else none | none => none) = _
  rw [strsD_map]
  dsimp only
  rw [if_pos h]
def rowsD (n : Nat) (tab : List Bool → Bool) : Dt := .dict (rw2 (allB n) tab)
theorem take_drop_erase (bs : List Bool) (p : Nat) : bs.take p ++ bs.drop (p + 1) = bs.eraseIdx p := (List.eraseIdx_eq_take_drop_succ ..).symm
def chB : FS := (fIf (fNot (fTruth (vE (fBin gIx (fVar 9) (fVar 7))))) (fSeq (fPar 10 11 false false (fBin gIx (fVar 4) (fVar 9)) (fBin gIx (fVar 4) (vE (fBin gAdd (vE (fBin gAdd (vE (fSl (fVar 9) pNo (pYes (eV (fVar 7))))) (vE (fTup (fCons (fC (.bool true)) fNil))))) (vE (fSl (fVar 9) (pYes (fBin gAdd (fVar 7) (vE (fC (.int 1))))) pNo)))))) (fAsg (vIf (fBool (fBin gEq (vE (fBin gIx (fVar 1) (fVar 6))) (vE (fC (.str "all"))))) (vAnd (eV (fVar 10)) (eV (fVar 11))) (vOr (eV (fVar 10)) (eV (fVar 11)))) (gPut 8 (fBin gAdd (vE (fSl (fVar 9) pNo (pYes (eV (fVar 7))))) (vE (fSl (fVar 9) (pYes (fBin gAdd (fVar 7) (vE (fC (.int 1))))) pNo)))))) fSkip)
def stepT (side : Bool) (p : Nat) (tab : List Bool → Bool) : List Bool → Bool := fun bs => opB side (tab (ins p false bs)) (tab (ins p true bs))
theorem ch_inner (L0 SD O T E5 : Sl) (sdd : Dt) (hSD : SD = .fz sdd) (x : Str) (side : Bool) (hx : gIx sdd (.str x) = some (.str (sd side))) (n p : Nat) (hp : p ≤ n) (hn : n < 8) (tab : List Bool → Bool) (s9 s10 s11 : Sl) :
    ∃ s9' s10' s11', loopF (gN 9) chB ((allB (n + 1)).map tb) [L0, SD, O, T, .fz (rowsD (n + 1) tab), E5, .fz (.str x), .fz (.int (p : Int)), .ow (.dict []), s9, s10, s11]
      = some (.nx [L0, SD, O, T, .fz (rowsD (n + 1) tab), E5, .fz (.str x), .fz (.int (p : Int)), .ow (rowsD n (stepT side p tab)), s9', s10', s11']) := by
  subst hSD
  obtain ⟨st, ⟨a, b, c, e⟩, h2⟩ := loopF_inv (g := gN 9) (body := chB) tb
    (fun K st => ∃ (acc : List (List Bool)) (s9 s10 s11 : Sl), st = [L0, .fz sdd, O, T, .fz (rowsD (n + 1) tab), E5, .fz (.str x), .fz (.int (p : Int)), .ow (.dict (rw2 acc (stepT side p tab))), s9, s10, s11] ∧ acc ++ (K.filter (fun bs => bs[p]? == some false)).map (·.eraseIdx p) = allB n ∧ ∀ bs ∈ K, bs.length = n + 1)
    (fun st => ∃ s9 s10 s11, st = [L0, .fz sdd, O, T, .fz (rowsD (n + 1) tab), E5, .fz (.str x), .fz (.int (p : Int)), .ow (rowsD n (stepT side p tab)), s9, s10, s11])
    (fun st ⟨acc, s9, s10, s11, e1, e2, _⟩ => ⟨s9, s10, s11, by
      have e3 : acc = allB n := by rw [← e2]; exact (List.append_nil acc).symm
      rw [e1, e3]
      rfl⟩)
    (fun bs K st ⟨acc, s9, s10, s11, e1, e2, e3⟩ => by
      subst e1
      have hl := e3 bs List.mem_cons_self
      have e3' : ∀ cs ∈ K, cs.length = n + 1 := fun cs hc => e3 cs (List.mem_cons_of_mem _ hc)
      have hbp : p < bs.length := by omega
      obtain ⟨c, hc⟩ : ∃ c, bs[p]? = some c := ⟨_, List.getElem?_eq_getElem hbp⟩
      have ix1 := gIx_tb bs p c hc
      cases c with
      | true =>
        refine ⟨[L0, .fz sdd, O, T, .fz (rowsD (n + 1) tab), E5, .fz (.str x), .fz (.int (p : Int)), .ow (.dict (rw2 acc (stepT side p tab))), .fz (tb bs), s10, s11], [L0, .fz sdd, O, T, .fz (rowsD (n + 1) tab), E5, .fz (.str x), .fz (.int (p : Int)), .ow (.dict (rw2 acc (stepT side p tab))), .fz (tb bs), s10, s11], rfl, ?_, acc, _, _, _, rfl, ?_, e3'⟩
        · unfold chB
          simp (decide := true) only [Mir.next, dPure, dIo, endI, args0, argsI, fSeq, fIf, fSet, fSetN, fRet, fRetN, fDrop, fSkip, fAsg, fPar, xMk, fBool, fTruth, truth, fNot, fAnd, fOr, fBin, fUn, fVar, vE, eV, fzr, fC, rd, fCallP, fCallI, fCons, fNil, rCons, rNil, fCall, rds, g1, fTup, fLst, vNot, vAnd, vOr, vIf, heldAt, heldL, PL.putAt, Sl.held, Sl.put, fMut, mApp, gN, gTn, gsCons, gsNil, gPut, putD, aSeq, seqD, fYes, okW, wipeA, backA, fFor, fLc, fDc, fSc, fSortSet, gIsi, isK, gLen, gIntT, gTuple, gList, gDict, hdK_nil, hdK_i, hdK_s, dKey, gIs, gIsNot, isD, gEq_str, gNe_str, gEq_int, gNe_int, gEq_bool, gNe_bool, gIx_t0, gIx_t1, gIx_t2, gIx_l0, gIx_l1, gIx_l2, gIn2, gInL2, List.length_cons, List.length_nil, List.map_cons, List.map_nil, List.replicate, List.cons_append, List.nil_append, List.getElem?_cons_zero, List.getElem?_cons_succ, List.set_cons_zero, List.set_cons_succ, Nat.reduceAdd, Nat.reduceSub, Nat.reduceEqDiff, List.all_cons, List.all_nil, Option.isNone, Option.map_some, Option.map_none, Bool.and_self, Bool.and_true, Bool.true_and, Bool.and_false, Bool.false_and, Bool.or_true, Bool.true_or, Bool.or_false, Bool.false_or, Bool.or_self, Bool.not_true, Bool.not_false, if_true, if_false, reduceIte, Bool.false_eq_true, decide_true, decide_false, ite_true, ite_false, ix1]
        · rw [List.filter_cons_of_neg (by rw [hc]; decide)] at e2
          exact e2
      | false =>
        rw [List.filter_cons_of_pos (by rw [hc]; decide), List.map_cons] at e2
        have m1 : bs ∈ allB (n + 1) := allB_mem.mpr hl
        have le : (bs.eraseIdx p).length = n := by rw [List.length_eraseIdx_of_lt hbp]; omega
        have m2 : ins p true (bs.eraseIdx p) ∈ allB (n + 1) := allB_mem.mpr (by rw [ins_len (by omega)]; omega)
        have ai : gAdd (.int (p : Int)) (.int 1) = some (.int ((p : Int) + 1)) := rfl
        have low := ix_rw (allB (n + 1)) tab bs m1
        have high := ix_rw (allB (n + 1)) tab _ m2
        have k1 := low_key bs p
        have k2 := high_key bs p
        have lt : (bs.take p).length = p := by rw [List.length_take]; omega
        have ld : (bs.drop (p + 1)).length = n - p := by rw [List.length_drop]; omega
        have a1 := add_tb (bs.take p) [true] (by rw [lt, List.length_singleton]; omega)
        have a2 := add_tb (bs.take p ++ [true]) (bs.drop (p + 1)) (by rw [List.length_append, lt, ld, List.length_singleton]; omega)
        have a3 := add_tb (bs.take p) (bs.drop (p + 1)) (by rw [lt, ld]; omega)
        rw [← ins_erase hc true] at a2
        rw [take_drop_erase] at a3
        have nd : bs.eraseIdx p ∉ acc := fun z => by
          have q := allB_nodup n
          rw [← e2, List.nodup_append] at q
          exact q.2.2 _ z _ List.mem_cons_self rfl
        have al : acc.length < 1000 := by
          have q := congrArg List.length e2
          rw [List.length_append, List.length_cons, allB_len] at q
          have : (2 : Nat) ^ n ≤ 2 ^ 8 := Nat.pow_le_pow_right (by omega) (by omega)
          have : (2 : Nat) ^ 8 = 256 := rfl
          omega
        have pt := putD_rw acc (stepT side p tab) (bs.eraseIdx p) nd al
        have st0 : stepT side p tab (bs.eraseIdx p) = opB side (tab bs) (tab (ins p true (bs.eraseIdx p))) := by
          unfold stepT
          rw [ins_same hc]
        rw [st0] at pt
        refine ⟨[L0, .fz sdd, O, T, .fz (rowsD (n + 1) tab), E5, .fz (.str x), .fz (.int (p : Int)), .ow (.dict (rw2 acc (stepT side p tab))), .fz (tb bs), s10, s11], [L0, .fz sdd, O, T, .fz (rowsD (n + 1) tab), E5, .fz (.str x), .fz (.int (p : Int)), .ow (.dict (rw2 (acc ++ [bs.eraseIdx p]) (stepT side p tab))), .fz (tb bs), .fz (.bool (tab bs)), .fz (.bool (tab (ins p true (bs.eraseIdx p))))], rfl, ?_, acc ++ [bs.eraseIdx p], _, _, _, rfl, ?_, e3'⟩
        · unfold chB rowsD
          unfold rowsD at low high
          revert pt
          generalize tab bs = u at low ⊢
          generalize tab (ins p true (bs.eraseIdx p)) = w at high ⊢
          intro pt
          cases side <;> cases u <;> cases w <;> simp (decide := true) only [opB, reduceIte, Bool.false_eq_true, if_true, if_false, Bool.and_self, Bool.and_true, Bool.true_and, Bool.and_false, Bool.false_and, Bool.or_true, Bool.true_or, Bool.or_false, Bool.false_or, Bool.or_self, Bool.not_true, Bool.not_false] at pt <;> simp (decide := true) only [Mir.next, dPure, dIo, endI, args0, argsI, fSeq, fIf, fSet, fSetN, fRet, fRetN, fDrop, fSkip, fAsg, fPar, xMk, fBool, fTruth, truth, fNot, fAnd, fOr, fBin, fUn, fVar, vE, eV, fzr, fC, rd, fCallP, fCallI, fCons, fNil, rCons, rNil, fCall, rds, g1, fTup, fLst, vNot, vAnd, vOr, vIf, heldAt, heldL, PL.putAt, Sl.held, Sl.put, fMut, mApp, gN, gTn, gsCons, gsNil, gPut, aSeq, seqD, fYes, okW, wipeA, backA, fFor, fLc, fDc, fSc, fSortSet, gIsi, isK, gLen, gIntT, gTuple, gList, gDict, hdK_nil, hdK_i, hdK_s, dKey, gIs, gIsNot, isD, gEq_str, gNe_str, gEq_int, gNe_int, gEq_bool, gNe_bool, gIx_t0, gIx_t1, gIx_t2, gIx_l0, gIx_l1, gIx_l2, gIn2, gInL2, List.length_cons, List.length_nil, List.map_cons, List.map_nil, List.replicate, List.cons_append, List.nil_append, List.getElem?_cons_zero, List.getElem?_cons_succ, List.set_cons_zero, List.set_cons_succ, Nat.reduceAdd, Nat.reduceSub, Nat.reduceEqDiff, List.all_cons, List.all_nil, Option.isNone, Option.map_some, Option.map_none, Bool.and_self, Bool.and_true, Bool.true_and, Bool.and_false, Bool.false_and, Bool.or_true, Bool.true_or, Bool.or_false, Bool.false_or, Bool.or_self, Bool.not_true, Bool.not_false, if_true, if_false, reduceIte, Bool.false_eq_true, decide_true, decide_false, ite_true, ite_false, fPar, xMk, fSl, pNo, pYes, ix1, k1, k2, tb_true, a1, a2, a3, ai, low, high, hx, sd, pt]
        · rw [List.append_assoc]
          exact e2)
    (allB (n + 1)) [L0, .fz sdd, O, T, .fz (rowsD (n + 1) tab), E5, .fz (.str x), .fz (.int (p : Int)), .ow (.dict []), s9, s10, s11] ⟨[], _, _, _, rfl, by rw [List.nil_append]; exact allB_erase n p hp, fun bs h => allB_mem.mp h⟩
  exact ⟨a, b, c, by rw [h2, e]⟩
theorem idx_lt {xs : List Str} {x : Str} (h : x ∈ xs) : xs.idxOf x < xs.length := List.idxOf_lt_length_iff.mpr h
def chL : FS := (fSeq (fPar 7 8 false true (fIndex (fVar 5) (fVar 6)) (fC (.dict []))) (fSeq (fFor (aSeq (fCall (g1 gList) (rCons (fVar 4) rNil))) (gN 9) chB) (fSeq (fSet 4 (eV (fVar 8))) (fDrop (fPopAt 5 (eV (fVar 7)))))))
theorem keys_rw (L : List (List Bool)) (v : List Bool → Bool) : (rw2 L v).map Prod.fst = L.map tb := by
  unfold rw2
  rw [List.map_map]
  rfl
theorem ch_step (L0 SD O T : Sl) (sdd : Dt) (hSD : SD = .fz sdd) (x : Str) (side : Bool) (hx : gIx sdd (.str x) = some (.str (sd side))) (left : List Str) (hl : left.length ≤ 8) (hm : x ∈ left) (tab : List Bool → Bool) (s7 s8 s9 s10 s11 : Sl) :
    ∃ s7' s8' s9' s10' s11', chL [L0, SD, O, T, .fz (rowsD left.length tab), .ow (txts left), .fz (.str x), s7, s8, s9, s10, s11]
      = some (.nx [L0, SD, O, T, .fz (rowsD (left.eraseIdx (left.idxOf x)).length (stepT side (left.idxOf x) tab)), .ow (txts (left.eraseIdx (left.idxOf x))), .fz (.str x), s7', s8', s9', s10', s11']) := by
  have hi := idx_lt hm
  obtain ⟨n, hn⟩ : ∃ n, left.length = n + 1 := ⟨left.length - 1, by omega⟩
  have le : (left.eraseIdx (left.idxOf x)).length = n := by rw [List.length_eraseIdx_of_lt hi]; omega
  obtain ⟨a, b, c, inner⟩ := ch_inner L0 SD O T (.ow (txts left)) sdd hSD x side hx n (left.idxOf x) (by omega) (by omega) tab s9 s10 s11
  rw [le, hn]
  have ixt := index_txts left x hm
  have lm : (left.map PyData.str).length = left.length := List.length_map _
  have e5 : (left.map PyData.str)[left.idxOf x]? = some (.str left[left.idxOf x]) := by rw [List.getElem?_map, List.getElem?_eq_getElem hi]; rfl
  have e6 : (left.map PyData.str).eraseIdx (left.idxOf x) = (left.eraseIdx (left.idxOf x)).map PyData.str := er_map _ _ _
  have e8 : ixN left.length ((left.idxOf x : Nat) : Int) = some (left.idxOf x) := by
    unfold ixN
    rw [if_pos (by omega), if_pos (by omega)]
    rfl
  have kr := keys_rw (allB (n + 1)) tab
  refine ⟨.fz (.int ((left.idxOf x : Nat) : Int)), .fz (rowsD n (stepT side (left.idxOf x) tab)), a, b, c, ?_⟩
  subst hSD
  unfold chL
  unfold rowsD at inner ⊢
  unfold txts at inner ixt ⊢
  simp (decide := true) only [Mir.next, dPure, dIo, endI, args0, argsI, fSeq, fIf, fSet, fSetN, fRet, fRetN, fDrop, fSkip, fAsg, fPar, xMk, fBool, fTruth, truth, fNot, fAnd, fOr, fBin, fUn, fVar, vE, eV, fzr, fC, rd, fCallP, fCallI, fCons, fNil, rCons, rNil, fCall, rds, g1, fTup, fLst, vNot, vAnd, vOr, vIf, heldAt, heldL, PL.putAt, Sl.held, Sl.put, fMut, mApp, gN, gTn, gsCons, gsNil, gPut, putD, aSeq, seqD, fYes, okW, wipeA, backA, fFor, fLc, fDc, fSc, fSortSet, gIsi, isK, gLen, gIntT, gTuple, gList, gDict, hdK_nil, hdK_i, hdK_s, dKey, gIs, gIsNot, isD, gEq_str, gNe_str, gEq_int, gNe_int, gEq_bool, gNe_bool, gIx_t0, gIx_t1, gIx_t2, gIx_l0, gIx_l1, gIx_l2, gIn2, gInL2, List.length_cons, List.length_nil, List.map_cons, List.map_nil, List.replicate, List.cons_append, List.nil_append, List.getElem?_cons_zero, List.getElem?_cons_succ, List.set_cons_zero, List.set_cons_succ, Nat.reduceAdd, Nat.reduceSub, Nat.reduceEqDiff, List.all_cons, List.all_nil, Option.isNone, Option.map_some, Option.map_none, Bool.and_self, Bool.and_true, Bool.true_and, Bool.and_false, Bool.false_and, Bool.or_true, Bool.true_or, Bool.or_false, Bool.false_or, Bool.or_self, Bool.not_true, Bool.not_false, if_true, if_false, reduceIte, Bool.false_eq_true, decide_true, decide_false, ite_true, ite_false, fPar, xMk, fIndex, ixt, kr, inner, fPopAt, heldL, mPopAt, lm, e8, e5, e6]
end K11
namespace K11
open PySem PySem.Spec PyProof.Rows L2 PL
theorem perm_erase {x : Str} {r left : List Str} (p : (x :: r).Perm left) : x ∈ left ∧ r.Perm (left.eraseIdx (left.idxOf x)) := by
  refine ⟨p.subset List.mem_cons_self, ?_⟩
  rw [← List.erase_eq_eraseIdx_of_idxOf (show left.idxOf x = left.idxOf x from rfl)]
  exact (List.cons_perm_iff_perm_erase.mp p).2
theorem e_chosen (M : Mir) (xs o : List Str) (sdd : Dt) (side : Str → Bool) (tab : List Bool → Bool) (hs : ∀ x ∈ xs, gIx sdd (.str x) = some (.str (sd (side x)))) (p : o.Perm xs) (hn : xs.length = 4 ∨ xs.length = 5) :
    M.next.f__law_chosen [txts xs, sdd, .tuple (o.map .str), rowsD xs.length tab] = some (.bool (elim side o.reverse xs tab)) := by
  have ne : allB xs.length ≠ [] := fun z => by
    have q := allB_len xs.length
    rw [z] at q
    have : 0 < 2 ^ xs.length := Nat.pow_pos (by decide)
    rw [List.length_nil] at q
    omega
  have hd0 := hd_rw (allB xs.length) tab ne
  have hp0 : hapT (rw2 (allB xs.length) tab) = true := by
    rw [hap_rw]
    rcases hn with h | h
    · rw [h]; exact decide_eq_true hap4
    · rw [h]; exact decide_eq_true hap5
  obtain ⟨st, ⟨tab', s5, s6, s7, s8, s9, s10, s11, e1, e2⟩, h2⟩ := loopF_inv (g := gN 6) (body := chL) PyData.str
    (fun r st => ∃ (left : List Str) (tab' : List Bool → Bool) (s6 s7 s8 s9 s10 s11 : Sl), st = [.fz (txts xs), .fz sdd, .fz (.tuple (o.map .str)), .fz (rowsD xs.length tab), .fz (rowsD left.length tab'), .ow (txts left), s6, s7, s8, s9, s10, s11] ∧ r.Perm left ∧ left.length ≤ 8 ∧ elim side r left tab' = elim side o.reverse xs tab ∧ ∀ x ∈ left, gIx sdd (.str x) = some (.str (sd (side x))))
    (fun st => ∃ (tab' : List Bool → Bool) (s5 s6 s7 s8 s9 s10 s11 : Sl), st = [.fz (txts xs), .fz sdd, .fz (.tuple (o.map .str)), .fz (rowsD xs.length tab), .fz (rowsD 0 tab'), s5, s6, s7, s8, s9, s10, s11] ∧ tab' [] = elim side o.reverse xs tab)
    (fun st ⟨left, tab', s6, s7, s8, s9, s10, s11, e1, e2, _, e3, _⟩ => by
      have e4 : left = [] := (List.Perm.nil_eq e2).symm
      subst e4
      exact ⟨tab', _, s6, s7, s8, s9, s10, s11, e1, e3⟩)
    (fun x r st ⟨left, tab', s6, s7, s8, s9, s10, s11, e1, e2, hl, e3, e4⟩ => by
      subst e1
      obtain ⟨hm, pe⟩ := perm_erase e2
      obtain ⟨t7, t8, t9, t10, t11, stp⟩ := ch_step (.fz (txts xs)) (.fz sdd) (.fz (.tuple (o.map .str))) (.fz (rowsD xs.length tab)) sdd rfl x (side x) (e4 x hm) left hl hm tab' s7 s8 s9 s10 s11
      refine ⟨_, _, rfl, stp, left.eraseIdx (left.idxOf x), stepT (side x) (left.idxOf x) tab', _, _, _, _, _, _, rfl, pe, ?_, e3, fun y hy => e4 y ((List.eraseIdx_sublist _ _).subset hy)⟩
      have := idx_lt hm
      rw [List.length_eraseIdx_of_lt this]
      omega)
    o.reverse [.fz (txts xs), .fz sdd, .fz (.tuple (o.map .str)), .fz (rowsD xs.length tab), .fz (rowsD xs.length tab), .ow (txts xs), .un, .un, .un, .un, .un, .un]
    ⟨xs, tab, _, _, _, _, _, _, rfl, (List.reverse_perm o).trans p, by rcases hn with h | h <;> omega, rfl, hs⟩
  subst e1
  have last := ix_rw (allB 0) tab' [] (by decide)
  rw [e2] at last
  have e0 : PyData.tuple [] = tb [] := rfl
  rw [List.map_reverse] at h2
  show dPure 12 4 (fSeq (fPar 4 5 false true (fCall (g1 gDict) (rCons (fVar 3) rNil)) (fCall (g1 gList) (rCons (fVar 0) rNil))) (fSeq (fFor (aSeq (fUn gRev (vE (fCall (g1 gList) (rCons (fVar 2) rNil))))) (gN 6) chL) (fRet (fBin gIx (fVar 4) (vE (fTup fNil)))))) [txts xs, sdd, .tuple (o.map .str), rowsD xs.length tab] = _
  unfold rowsD at h2 ⊢
  unfold txts at h2 ⊢
  simp (decide := true) only [Mir.next, dPure, dIo, endI, args0, argsI, fSeq, fIf, fSet, fSetN, fRet, fRetN, fDrop, fSkip, fAsg, fPar, xMk, fBool, fTruth, truth, fNot, fAnd, fOr, fBin, fUn, fVar, vE, eV, fzr, fC, rd, fCallP, fCallI, fCons, fNil, rCons, rNil, fCall, rds, g1, fTup, fLst, vNot, vAnd, vOr, vIf, heldAt, heldL, PL.putAt, Sl.held, Sl.put, fMut, mApp, gN, gTn, gsCons, gsNil, gPut, putD, aSeq, seqD, fYes, okW, wipeA, backA, fFor, fLc, fDc, fSc, fSortSet, gIsi, isK, gLen, gIntT, gTuple, gList, gDict, hdK_nil, hdK_i, hdK_s, dKey, gIs, gIsNot, isD, gEq_str, gNe_str, gEq_int, gNe_int, gEq_bool, gNe_bool, gIx_t0, gIx_t1, gIx_t2, gIx_l0, gIx_l1, gIx_l2, gIn2, gInL2, List.length_cons, List.length_nil, List.map_cons, List.map_nil, List.replicate, List.cons_append, List.nil_append, List.getElem?_cons_zero, List.getElem?_cons_succ, List.set_cons_zero, List.set_cons_succ, Nat.reduceAdd, Nat.reduceSub, Nat.reduceEqDiff, List.all_cons, List.all_nil, Option.isNone, Option.map_some, Option.map_none, Bool.and_self, Bool.and_true, Bool.true_and, Bool.and_false, Bool.false_and, Bool.or_true, Bool.true_or, Bool.or_false, Bool.false_or, Bool.or_self, Bool.not_true, Bool.not_false, if_true, if_false, reduceIte, Bool.false_eq_true, decide_true, decide_false, ite_true, ite_false, fPar, xMk, gRev, hd0, hp0, h2, e0, last]
/-! ### the signs in order -/
theorem both_app (x : Str) (a b : List Sg0) : bothS x (a ++ b) = bothS x a ++ bothS x b := List.flatMap_append
theorem fm_congr {α β : Type} {f g : α → List β} : ∀ {ss : List α}, (∀ s ∈ ss, f s = g s) → ss.flatMap f = ss.flatMap g
  | [], _ => rfl
  | s :: ss, h => by
    rw [List.flatMap_cons, List.flatMap_cons, h s List.mem_cons_self, fm_congr fun t ht => h t (List.mem_cons_of_mem _ ht)]
theorem allS_eq : ∀ (xs : List Str) (ss : List Sg0), xs.Nodup → (∀ s ∈ ss, ∀ x ∈ xs, x ∉ s.map Prod.fst) → allS xs ss = ss.flatMap fun s => (allB xs.length).map fun bs => s ++ xs.zip bs
  | [], ss, _, _ => by
    show ss = _
    have : (fun s : Sg0 => (allB ([] : List Str).length).map fun bs => s ++ ([] : List Str).zip bs) = fun s => [s] := by
      funext s
      show [s ++ []] = [s]
      rw [List.append_nil]
    rw [this, List.flatMap_singleton']
  | x :: r, ss, nd, h => by
    rw [List.nodup_cons] at nd
    show allS r (bothS x ss) = _
    rw [allS_eq r (bothS x ss) nd.2 (fun t ht y hy => by
      obtain ⟨s, hs, b, rfl⟩ := both_mem ht
      rw [put_end x b s (h s hs x List.mem_cons_self), List.map_append, List.mem_append, not_or]
      refine ⟨h s hs y (List.mem_cons_of_mem _ hy), fun z => ?_⟩
      rw [List.map_cons, List.map_nil, List.mem_singleton] at z
      have z' : y = x := z
      exact nd.1 (by rw [← z']; exact hy))]
    unfold bothS
    rw [List.flatMap_assoc]
    refine fm_congr fun s hs => ?_
    have px := fun b => put_end x b s (h s hs x List.mem_cons_self)
    rw [List.flatMap_cons, List.flatMap_cons, List.flatMap_nil, List.append_nil, px, px]
    show _ = ((allB r.length).map (false :: ·) ++ (allB r.length).map (true :: ·)).map fun bs => s ++ (x :: r).zip bs
    rw [List.map_append, List.map_map, List.map_map]
    congr 1
    · refine List.map_congr_left fun bs _ => ?_
      rw [List.append_assoc]
      rfl
    · refine List.map_congr_left fun bs _ => ?_
      rw [List.append_assoc]
      rfl
theorem allS_zip {xs : List Str} (nd : xs.Nodup) : allS xs [[]] = (allB xs.length).map fun bs => xs.zip bs := by
  rw [allS_eq xs [[]] nd (fun s hs x _ => by rw [List.mem_singleton.mp hs]; exact fun z => (nomatch z)), List.flatMap_cons, List.flatMap_nil, List.append_nil]
  rfl
theorem zip_fst {xs : List Str} {bs : List Bool} (h : bs.length = xs.length) : (xs.zip bs).map Prod.fst = xs := by
  rw [List.map_fst_zip]
  omega
theorem env_zip : ∀ (xs : List Str) (bs : List Bool), xs.Nodup → bs.length = xs.length → xs.map (env (xs.zip bs)) = bs
  | [], [], _, _ => rfl
  | [], _ :: _, _, h => by cases h
  | _ :: _, [], _, h => by cases h
  | x :: xs, b :: bs, nd, h => by
    rw [List.nodup_cons] at nd
    have ih := env_zip xs bs nd.2 (by rw [List.length_cons, List.length_cons] at h; omega)
    rw [List.map_cons]
    have e1 : env ((x :: xs).zip (b :: bs)) x = b := by
      show ((if x = x then some b else look0 x (xs.zip bs)).getD false) = b
      rw [if_pos rfl]
      rfl
    have e2 : xs.map (env ((x :: xs).zip (b :: bs))) = xs.map (env (xs.zip bs)) := List.map_congr_left fun y hy => by
      show ((if x = y then some b else look0 y (xs.zip bs)).getD false) = _
      rw [if_neg (show ¬ x = y from fun z => nd.1 (by rw [z]; exact hy))]
      rfl
    rw [e1, e2, ih]
end K11
namespace K11
open PySem PySem.Spec PyProof.Rows L2 PL
def SO (xs : List Str) : Prop := xs.Pairwise fun a b => PySem.W.dataLe false id (PyData.str a) (PyData.str b) = true
theorem srt {xs : List Str} (h : SO xs) : sortD (xs.map PyData.str) = xs.map PyData.str := by
  unfold sortD
  exact List.mergeSort_of_pairwise (List.pairwise_map.mpr h)
theorem gSort_strs {xs : List Str} (h : SO xs) : gSort (txts xs) = some (txts xs) := by
  show (if sortOk (xs.map PyData.str) = true then some (PyData.list (sortD (xs.map PyData.str))) else none) = _
  rw [if_pos (sortOk_strs xs), srt h]
  rfl
theorem gSort_perm {xs ys : List Str} (h : SO xs) (p : ys.Perm xs) : sortD (ys.map PyData.str) = xs.map PyData.str := by
  rw [sort_perm p, srt h]
def tpl (o : List Str) : Dt := .tuple (o.map .str)
def ordD (os : List (List Str)) : Dt := .list (os.map tpl)
def ordsN : Nat → List Str → List (List Str)
  | 0, _ => [[]]
  | n + 1, xs => xs.flatMap fun x => (ordsN n (xs.filter fun y => y != x)).map (x :: ·)
theorem fm_len {α β : Type} {f : α → List β} {B : Nat} : ∀ {ss : List α}, (∀ s ∈ ss, (f s).length ≤ B) → (ss.flatMap f).length ≤ ss.length * B
  | [], _ => Nat.zero_le _
  | s :: ss, h => by
    rw [List.flatMap_cons, List.length_append, List.length_cons, Nat.succ_mul]
    have h1 := h s List.mem_cons_self
    have h2 := fm_len (ss := ss) fun t ht => h t (List.mem_cons_of_mem _ ht)
    omega
theorem filt_len {x : Str} {xs : List Str} {n : Nat} (nd : xs.Nodup) (h : x ∈ xs) (hn : xs.length = n + 1) : (xs.filter fun y => y != x).length = n := by
  rw [← nd.erase_eq_filter x, List.length_erase_of_mem h]
  omega
theorem ords_len : ∀ (n : Nat) (xs : List Str), xs.length ≤ 6 → (ordsN n xs).length ≤ 6 ^ n
  | 0, xs, _ => Nat.le_refl _
  | n + 1, xs, h => by
    have b := fm_len (ss := xs) (f := fun x => (ordsN n (xs.filter fun y => y != x)).map (x :: ·)) (B := 6 ^ n) fun x hx => by
      rw [List.length_map]
      exact ords_len n _ (Nat.le_trans (List.length_filter_le _ _) h)
    have c : xs.length * 6 ^ n ≤ 6 * 6 ^ n := Nat.mul_le_mul_right _ h
    rw [Nat.pow_succ, Nat.mul_comm (6 ^ n)]
    exact Nat.le_trans b c
theorem ords_row : ∀ (n : Nat) (xs : List Str), ∀ o ∈ ordsN n xs, o.length = n
  | 0, xs, o, h => by rw [List.mem_singleton.mp h]; rfl
  | n + 1, xs, o, h => by
    obtain ⟨x, hx, ho⟩ := List.mem_flatMap.mp h
    obtain ⟨p, hp, rfl⟩ := List.mem_map.mp ho
    rw [List.length_cons, ords_row n _ p hp]
theorem fm_some {α β : Type} (f : α → β) : ∀ xs : List α, xs.filterMap (fun x => some (f x)) = xs.map f
  | [] => rfl
  | x :: xs => by rw [List.filterMap_cons, List.map_cons, fm_some f xs]
theorem fm_filter {α β : Type} (p : α → Bool) (f : α → β) : ∀ xs : List α, xs.filterMap (fun x => if p x = true then some (f x) else none) = (xs.filter p).map f
  | [] => rfl
  | x :: xs => by
    rw [List.filterMap_cons]
    cases h : p x with
    | true => rw [List.filter_cons_of_pos h, List.map_cons, fm_filter p f xs]; rfl
    | false => rw [List.filter_cons_of_neg (by rw [h]; exact Bool.false_ne_true), fm_filter p f xs]; rfl
def orB (M : Mir) : FS := (fSet 1 (fBin gAdd (fVar 1) (vE (fLc (aSeq (fCallP M.f__law_orders (fCons (fLc (aSeq (eV (fVar 0))) (gN 4) (fBool (fBin gNe (fVar 4) (fVar 2))) (eV (fVar 4)) [4]) fNil))) (gN 3) fYes (fBin gAdd (vE (fTup (fCons (eV (fVar 2)) fNil))) (fVar 3)) [3]))))
theorem e_orders : ∀ (n : Nat) (xs : List Str) (k : Nat), xs.length = n → n ≤ 5 → xs.Nodup → SO xs → n < k → (mir k).f__law_orders [txts xs] = some (ordD (ordsN n xs))
  | n, xs, 0, _, _, _, _, h => by omega
  | 0, xs, k + 1, hn, _, _, _, _ => by
    have e : xs = [] := List.eq_nil_of_length_eq_zero hn
    subst e
    show (mir k).next.f__law_orders _ = _
    have q : gEq (txts []) (.list []) = some (.bool true) := gEq_nil []
    simp (decide := true) only [b__law_orders, Mir.next, dPure, dIo, endI, args0, argsI, fSeq, fIf, fSet, fSetN, fRet, fRetN, fDrop, fSkip, fAsg, fPar, xMk, fBool, fTruth, truth, fNot, fAnd, fOr, fBin, fUn, fVar, vE, eV, fzr, fC, rd, fCallP, fCallI, fCons, fNil, rCons, rNil, fCall, rds, g1, fTup, fLst, vNot, vAnd, vOr, vIf, heldAt, heldL, PL.putAt, Sl.held, Sl.put, fMut, mApp, gN, gTn, gsCons, gsNil, gPut, putD, aSeq, seqD, fYes, okW, wipeA, backA, fFor, fLc, fDc, fSc, fSortSet, gIsi, isK, gLen, gIntT, gTuple, gList, gDict, hdK_nil, hdK_i, hdK_s, dKey, gIs, gIsNot, isD, gEq_str, gNe_str, gEq_int, gNe_int, gEq_bool, gNe_bool, gIx_t0, gIx_t1, gIx_t2, gIx_l0, gIx_l1, gIx_l2, gIn2, gInL2, List.length_cons, List.length_nil, List.map_cons, List.map_nil, List.replicate, List.cons_append, List.nil_append, List.getElem?_cons_zero, List.getElem?_cons_succ, List.set_cons_zero, List.set_cons_succ, Nat.reduceAdd, Nat.reduceSub, Nat.reduceEqDiff, List.all_cons, List.all_nil, Option.isNone, Option.map_some, Option.map_none, Bool.and_self, Bool.and_true, Bool.true_and, Bool.and_false, Bool.false_and, Bool.or_true, Bool.true_or, Bool.or_false, Bool.false_or, Bool.or_self, Bool.not_true, Bool.not_false, if_true, if_false, reduceIte, Bool.false_eq_true, decide_true, decide_false, ite_true, ite_false, q]
    rfl
  | n + 1, xs, k + 1, hn, h5, nd, so, hk => by
    have big : (100000 : Nat) < sizeLine := by decide
    have tot := ords_len (n + 1) xs (by omega)
    have pw : (6 : Nat) ^ (n + 1) ≤ 6 ^ 5 := Nat.pow_le_pow_right (by decide) h5
    have pw5 : (6 : Nat) ^ 5 = 7776 := rfl
    have ne : xs.isEmpty = false := by cases xs with
      | nil => cases hn
      | cons _ _ => rfl
    obtain ⟨st, ⟨s2, e1⟩, h2⟩ := loopF_inv (g := gN 2) (body := orB (mir k)) PyData.str
      (fun r st => ∃ (acc : List (List Str)) (s2 : Sl), st = [.fz (txts xs), .fz (ordD acc), s2, .un, .un] ∧ acc ++ (r.flatMap fun x => (ordsN n (xs.filter fun y => y != x)).map (x :: ·)) = ordsN (n + 1) xs ∧ ∀ x ∈ r, x ∈ xs)
      (fun st => ∃ s2, st = [.fz (txts xs), .fz (ordD (ordsN (n + 1) xs)), s2, .un, .un])
      (fun st ⟨acc, s2, e1, e2, _⟩ => ⟨s2, by
        rw [List.flatMap_nil, List.append_nil] at e2
        rw [e1, e2]⟩)
      (fun x r st ⟨acc, s2, e1, e2, e3⟩ => by
        subst e1
        have hx := e3 x List.mem_cons_self
        rw [List.flatMap_cons] at e2
        have fl := filt_len nd hx hn
        have ih := e_orders n (xs.filter fun y => y != x) k fl (by omega) (nd.sublist List.filter_sublist) (so.sublist List.filter_sublist) (by omega)
        have ln := congrArg List.length e2
        rw [List.length_append, List.length_append, List.length_map] at ln
        have c1 := loopC_pure (g := gN 4) (tt := fBool (fBin gNe (fVar 4) (fVar 2))) (te := eV (fVar 4)) (vs := [4]) (st := [.fz (txts xs), .fz (ordD acc), .fz (.str x), .un, .un]) (fun y => if (y != x) = true then some (PyData.str y) else none) PyData.str xs []
          (fun y hy => by
            refine ⟨_, rfl, ?_⟩
            have q := gNe_str y x
            by_cases z : y = x
            · left
              refine ⟨[.fz (txts xs), .fz (ordD acc), .fz (.str x), .un, .fz (.str y)], ?_, rfl, by rw [z]; simp⟩
              simp (decide := true) only [Mir.next, dPure, dIo, endI, args0, argsI, fSeq, fIf, fSet, fSetN, fRet, fRetN, fDrop, fSkip, fAsg, fPar, xMk, fBool, fTruth, truth, fNot, fAnd, fOr, fBin, fUn, fVar, vE, eV, fzr, fC, rd, fCallP, fCallI, fCons, fNil, rCons, rNil, fCall, rds, g1, fTup, fLst, vNot, vAnd, vOr, vIf, heldAt, heldL, PL.putAt, Sl.held, Sl.put, fMut, mApp, gN, gTn, gsCons, gsNil, gPut, putD, aSeq, seqD, fYes, okW, wipeA, backA, fFor, fLc, fDc, fSc, fSortSet, gIsi, isK, gLen, gIntT, gTuple, gList, gDict, hdK_nil, hdK_i, hdK_s, dKey, gIs, gIsNot, isD, gEq_str, gNe_str, gEq_int, gNe_int, gEq_bool, gNe_bool, gIx_t0, gIx_t1, gIx_t2, gIx_l0, gIx_l1, gIx_l2, gIn2, gInL2, List.length_cons, List.length_nil, List.map_cons, List.map_nil, List.replicate, List.cons_append, List.nil_append, List.getElem?_cons_zero, List.getElem?_cons_succ, List.set_cons_zero, List.set_cons_succ, Nat.reduceAdd, Nat.reduceSub, Nat.reduceEqDiff, List.all_cons, List.all_nil, Option.isNone, Option.map_some, Option.map_none, Bool.and_self, Bool.and_true, Bool.true_and, Bool.and_false, Bool.false_and, Bool.or_true, Bool.true_or, Bool.or_false, Bool.false_or, Bool.or_self, Bool.not_true, Bool.not_false, if_true, if_false, reduceIte, Bool.false_eq_true, decide_true, decide_false, ite_true, ite_false, z]
            · right
              refine ⟨[.fz (txts xs), .fz (ordD acc), .fz (.str x), .un, .fz (.str y)], _, [.fz (txts xs), .fz (ordD acc), .fz (.str x), .un, .fz (.str y)], ?_, rfl, rfl, by simp [z]⟩
              simp (decide := true) only [Mir.next, dPure, dIo, endI, args0, argsI, fSeq, fIf, fSet, fSetN, fRet, fRetN, fDrop, fSkip, fAsg, fPar, xMk, fBool, fTruth, truth, fNot, fAnd, fOr, fBin, fUn, fVar, vE, eV, fzr, fC, rd, fCallP, fCallI, fCons, fNil, rCons, rNil, fCall, rds, g1, fTup, fLst, vNot, vAnd, vOr, vIf, heldAt, heldL, PL.putAt, Sl.held, Sl.put, fMut, mApp, gN, gTn, gsCons, gsNil, gPut, putD, aSeq, seqD, fYes, okW, wipeA, backA, fFor, fLc, fDc, fSc, fSortSet, gIsi, isK, gLen, gIntT, gTuple, gList, gDict, hdK_nil, hdK_i, hdK_s, dKey, gIs, gIsNot, isD, gEq_str, gNe_str, gEq_int, gNe_int, gEq_bool, gNe_bool, gIx_t0, gIx_t1, gIx_t2, gIx_l0, gIx_l1, gIx_l2, gIn2, gInL2, List.length_cons, List.length_nil, List.map_cons, List.map_nil, List.replicate, List.cons_append, List.nil_append, List.getElem?_cons_zero, List.getElem?_cons_succ, List.set_cons_zero, List.set_cons_succ, Nat.reduceAdd, Nat.reduceSub, Nat.reduceEqDiff, List.all_cons, List.all_nil, Option.isNone, Option.map_some, Option.map_none, Bool.and_self, Bool.and_true, Bool.true_and, Bool.and_false, Bool.false_and, Bool.or_true, Bool.true_or, Bool.or_false, Bool.false_or, Bool.or_self, Bool.not_true, Bool.not_false, if_true, if_false, reduceIte, Bool.false_eq_true, decide_true, decide_false, ite_true, ite_false, z]) (by rw [List.length_nil]; omega)
        rw [fm_filter, List.nil_append] at c1
        have c2 := loopC_pure (g := gN 3) (tt := fYes) (te := fBin gAdd (vE (fTup (fCons (eV (fVar 2)) fNil))) (fVar 3)) (vs := [3]) (st := [.fz (txts xs), .fz (ordD acc), .fz (.str x), .un, .un]) (fun o => some (tpl (x :: o))) tpl (ordsN n (xs.filter fun y => y != x)) []
          (fun o ho => by
            refine ⟨[.fz (txts xs), .fz (ordD acc), .fz (.str x), .fz (tpl o), .un], rfl, .inr ⟨[.fz (txts xs), .fz (ordD acc), .fz (.str x), .fz (tpl o), .un], tpl (x :: o), [.fz (txts xs), .fz (ordD acc), .fz (.str x), .fz (tpl o), .un], rfl, ?_, rfl, rfl⟩⟩
            have lo := ords_row n _ o ho
            have z : [PyData.str x].length + (o.map PyData.str).length ≤ sizeLine := by rw [List.length_map]; show 1 + _ ≤ _; omega
            have ad : gAdd (.tuple [.str x]) (tpl o) = some (tpl (x :: o)) := if_pos z
            simp (decide := true) only [Mir.next, dPure, dIo, endI, args0, argsI, fSeq, fIf, fSet, fSetN, fRet, fRetN, fDrop, fSkip, fAsg, fPar, xMk, fBool, fTruth, truth, fNot, fAnd, fOr, fBin, fUn, fVar, vE, eV, fzr, fC, rd, fCallP, fCallI, fCons, fNil, rCons, rNil, fCall, rds, g1, fTup, fLst, vNot, vAnd, vOr, vIf, heldAt, heldL, PL.putAt, Sl.held, Sl.put, fMut, mApp, gN, gTn, gsCons, gsNil, gPut, putD, aSeq, seqD, fYes, okW, wipeA, backA, fFor, fLc, fDc, fSc, fSortSet, gIsi, isK, gLen, gIntT, gTuple, gList, gDict, hdK_nil, hdK_i, hdK_s, dKey, gIs, gIsNot, isD, gEq_str, gNe_str, gEq_int, gNe_int, gEq_bool, gNe_bool, gIx_t0, gIx_t1, gIx_t2, gIx_l0, gIx_l1, gIx_l2, gIn2, gInL2, List.length_cons, List.length_nil, List.map_cons, List.map_nil, List.replicate, List.cons_append, List.nil_append, List.getElem?_cons_zero, List.getElem?_cons_succ, List.set_cons_zero, List.set_cons_succ, Nat.reduceAdd, Nat.reduceSub, Nat.reduceEqDiff, List.all_cons, List.all_nil, Option.isNone, Option.map_some, Option.map_none, Bool.and_self, Bool.and_true, Bool.true_and, Bool.and_false, Bool.false_and, Bool.or_true, Bool.true_or, Bool.or_false, Bool.false_or, Bool.or_self, Bool.not_true, Bool.not_false, if_true, if_false, reduceIte, Bool.false_eq_true, decide_true, decide_false, ite_true, ite_false, ad]) (by rw [List.length_nil]; omega)
        rw [fm_some, List.nil_append] at c2
        have c2' : loopC (gN 3) fYes (fBin gAdd (vE (fTup (fCons (eV (fVar 2)) fNil))) (fVar 3)) [3] ((ordsN n (xs.filter fun y => y != x)).map tpl) [.fz (txts xs), .fz (ordD acc), .fz (.str x), .un, .un] [] = some (((ordsN n (xs.filter fun y => y != x)).map (x :: ·)).map tpl, [.fz (txts xs), .fz (ordD acc), .fz (.str x), .un, .un]) := by rw [c2, List.map_map]; rfl
        have ad2 : gAdd (ordD acc) (.list (((ordsN n (xs.filter fun y => y != x)).map (x :: ·)).map tpl)) = some (ordD (acc ++ (ordsN n (xs.filter fun y => y != x)).map (x :: ·))) := by
          show (if (acc.map tpl).length + (((ordsN n (xs.filter fun y => y != x)).map (x :: ·)).map tpl).length ≤ sizeLine then some (PyData.list (acc.map tpl ++ ((ordsN n (xs.filter fun y => y != x)).map (x :: ·)).map tpl)) else none) = _
          rw [if_pos (by rw [List.length_map, List.length_map, List.length_map]; omega), ← List.map_append]
          rfl
        have ih' : (mir k).f__law_orders [.list ((xs.filter fun y => y != x).map PyData.str)] = some (.list ((ordsN n (xs.filter fun y => y != x)).map tpl)) := ih
        refine ⟨[.fz (txts xs), .fz (ordD acc), .fz (.str x), .un, .un], [.fz (txts xs), .fz (ordD (acc ++ (ordsN n (xs.filter fun y => y != x)).map (x :: ·))), .fz (.str x), .un, .un], rfl, ?_, _, _, rfl, by rw [List.append_assoc]; exact e2, fun y hy => e3 y (List.mem_cons_of_mem _ hy)⟩
        have e0 : txts xs = .list (xs.map PyData.str) := rfl
        unfold orB
        rw [e0] at c1 c2' ⊢
        simp (decide := true) only [Mir.next, dPure, dIo, endI, args0, argsI, fSeq, fIf, fSet, fSetN, fRet, fRetN, fDrop, fSkip, fAsg, fPar, xMk, fBool, fTruth, truth, fNot, fAnd, fOr, fBin, fUn, fVar, vE, eV, fzr, fC, rd, fCallP, fCallI, fCons, fNil, rCons, rNil, fCall, rds, g1, fTup, fLst, vNot, vAnd, vOr, vIf, heldAt, heldL, PL.putAt, Sl.held, Sl.put, fMut, mApp, gN, gTn, gsCons, gsNil, gPut, putD, aSeq, seqD, fYes, okW, wipeA, backA, fFor, fLc, fDc, fSc, fSortSet, gIsi, isK, gLen, gIntT, gTuple, gList, gDict, hdK_nil, hdK_i, hdK_s, dKey, gIs, gIsNot, isD, gEq_str, gNe_str, gEq_int, gNe_int, gEq_bool, gNe_bool, gIx_t0, gIx_t1, gIx_t2, gIx_l0, gIx_l1, gIx_l2, gIn2, gInL2, List.length_cons, List.length_nil, List.map_cons, List.map_nil, List.replicate, List.cons_append, List.nil_append, List.getElem?_cons_zero, List.getElem?_cons_succ, List.set_cons_zero, List.set_cons_succ, Nat.reduceAdd, Nat.reduceSub, Nat.reduceEqDiff, List.all_cons, List.all_nil, Option.isNone, Option.map_some, Option.map_none, Bool.and_self, Bool.and_true, Bool.true_and, Bool.and_false, Bool.false_and, Bool.or_true, Bool.true_or, Bool.or_false, Bool.false_or, Bool.or_self, Bool.not_true, Bool.not_false, if_true, if_false, reduceIte, Bool.false_eq_true, decide_true, decide_false, ite_true, ite_false, c1, ih', c2', ad2])
      xs [.fz (txts xs), .fz (ordD []), .un, .un, .un] ⟨[], _, rfl, rfl, fun x hx => hx⟩
    subst e1
    show dPure 5 1 (fSeq (fIf (fBool (fBin gEq (fVar 0) (vE (fLst fNil)))) (fRet (fLst (fCons (fTup fNil) fNil))) fSkip) (fSeq (fSet 1 (fLst fNil)) (fSeq (fFor (aSeq (fCall (g1 gSort) (rCons (fVar 0) rNil))) (gN 2) (orB (mir k))) (fRet (eV (fVar 1)))))) [txts xs] = _
    have q : gEq (txts xs) (.list []) = some (.bool false) := by rw [← ne]; exact gEq_nil xs
    have gs := gSort_strs so
    have o0 : ordD [] = .list [] := rfl
    rw [o0] at h2
    have e0 : txts xs = .list (xs.map PyData.str) := rfl
    rw [e0] at q gs h2 ⊢
    simp (decide := true) only [Mir.next, dPure, dIo, endI, args0, argsI, fSeq, fIf, fSet, fSetN, fRet, fRetN, fDrop, fSkip, fAsg, fPar, xMk, fBool, fTruth, truth, fNot, fAnd, fOr, fBin, fUn, fVar, vE, eV, fzr, fC, rd, fCallP, fCallI, fCons, fNil, rCons, rNil, fCall, rds, g1, fTup, fLst, vNot, vAnd, vOr, vIf, heldAt, heldL, PL.putAt, Sl.held, Sl.put, fMut, mApp, gN, gTn, gsCons, gsNil, gPut, putD, aSeq, seqD, fYes, okW, wipeA, backA, fFor, fLc, fDc, fSc, fSortSet, gIsi, isK, gLen, gIntT, gTuple, gList, gDict, hdK_nil, hdK_i, hdK_s, dKey, gIs, gIsNot, isD, gEq_str, gNe_str, gEq_int, gNe_int, gEq_bool, gNe_bool, gIx_t0, gIx_t1, gIx_t2, gIx_l0, gIx_l1, gIx_l2, gIn2, gInL2, List.length_cons, List.length_nil, List.map_cons, List.map_nil, List.replicate, List.cons_append, List.nil_append, List.getElem?_cons_zero, List.getElem?_cons_succ, List.set_cons_zero, List.set_cons_succ, Nat.reduceAdd, Nat.reduceSub, Nat.reduceEqDiff, List.all_cons, List.all_nil, Option.isNone, Option.map_some, Option.map_none, Bool.and_self, Bool.and_true, Bool.true_and, Bool.and_false, Bool.false_and, Bool.or_true, Bool.true_or, Bool.or_false, Bool.false_or, Bool.or_self, Bool.not_true, Bool.not_false, if_true, if_false, reduceIte, Bool.false_eq_true, decide_true, decide_false, ite_true, ite_false, q, gs, h2]
end K11
namespace K11
open PySem PySem.Spec PyProof.Rows L2 PL
theorem loopC_rel {α : Type} {g : FG} {tt : FB} {te : FV} {vs : List Nat} (F : α → Option D) (enc : α → D) (R : AS → Prop) : ∀ (xs : List α) (acc : List D) (st : AS), R st →
    (∀ x ∈ xs, ∀ st, R st → ∃ as1, g (enc x) st = some as1 ∧ ((∃ as2, tt as1 = some (false, as2) ∧ R (wipeA as2 vs) ∧ F x = none) ∨ (∃ as2 y as3, tt as1 = some (true, as2) ∧ te as2 = some (y, as3) ∧ R (wipeA as3 vs) ∧ F x = some y))) →
    acc.length + xs.length ≤ sizeLine → ∃ st', R st' ∧ loopC g tt te vs (xs.map enc) st acc = some (acc ++ xs.filterMap F, st')
  | [], acc, st, hr, _, _ => ⟨st, hr, by rw [List.map_nil, List.filterMap_nil, List.append_nil]; rfl⟩
  | x :: xs, acc, st, hr, h, hl => by
    rw [List.length_cons] at hl
    obtain ⟨as1, h1, h2⟩ := h x List.mem_cons_self st hr
    have hx := fun y hy => h y (List.mem_cons_of_mem _ hy)
    rw [List.map_cons]
    unfold loopC
    rw [h1]
    dsimp only
    rcases h2 with ⟨as2, q1, q2, q3⟩ | ⟨as2, y, as3, q1, q2, q3, q4⟩
    · obtain ⟨st', r1, r2⟩ := loopC_rel F enc R xs acc _ q2 hx (by omega)
      refine ⟨st', r1, ?_⟩
      rw [q1]
      dsimp only
      rw [r2, List.filterMap_cons, q3]
    · obtain ⟨st', r1, r2⟩ := loopC_rel F enc R xs (acc ++ [y]) _ q3 hx (by rw [List.length_append, List.length_singleton]; omega)
      refine ⟨st', r1, ?_⟩
      rw [q1]
      dsimp only
      rw [q2]
      dsimp only
      rw [if_pos (by omega), r2, List.filterMap_cons, q4, List.append_assoc]
      rfl
/-! ### the letters that the law takes -/
def L4 : List Str := ["a", "b", "c", "d"]
def L5 : List Str := ["a", "b", "c", "d", "e"]
def extP (xs : List Str) (os : List (List Str)) : List (List Str) := os.flatMap fun o => (xs.filter fun x => !decide (x ∈ o)).map fun x => o ++ [x]
def iterP (xs : List Str) : Nat → List (List Str)
  | 0 => [[]]
  | n + 1 => extP xs (iterP xs n)
structure Lts (xs : List Str) : Prop where
  nd : xs.Nodup
  len : xs.length = 4 ∨ xs.length = 5
  so : SO xs
  it : iterP xs xs.length = ordsN xs.length xs
  st : ((ordsN xs.length xs).map tpl).Pairwise fun a b => PySem.W.dataLe false id a b = true
  ok : sortOk ((ordsN xs.length xs).map tpl) = true
  sub : ∀ x ∈ xs, x ∈ L5
end K11
namespace K11
open PySem PySem.Spec PyProof.Rows L2 PL
theorem lts4 : Lts L4 where
  nd := by decide +kernel
  len := .inl rfl
  so := by unfold SO; decide +kernel
  it := by decide +kernel
  st := by decide +kernel
  ok := by decide +kernel
  sub := by decide +kernel
theorem lts5 : Lts L5 where
  nd := by decide +kernel
  len := .inr rfl
  so := by unfold SO; decide +kernel
  it := by decide +kernel
  st := by decide +kernel
  ok := by decide +kernel
  sub := by decide +kernel
end K11
namespace K11
open PySem PySem.Spec PyProof.Rows L2 PL
def sidB (M : Mir) : FS := (fAsg (fCallP M.f__law_worth (fCons (eV (fVar 2)) (fCons (eV (fVar 4)) fNil))) (gPut 3 (fCall (g1 gTuple) (rCons (vE (fLc (aSeq (eV (fVar 0))) (gN 5) fYes (fBin gIx (fVar 4) (fVar 5)) [5])) rNil))))
theorem ords_perm : ∀ (n : Nat) (xs : List Str), xs.length = n → xs.Nodup → ∀ o ∈ ordsN n xs, o.Perm xs
  | 0, xs, h, _, o, ho => by
    have e : xs = [] := List.eq_nil_of_length_eq_zero h
    rw [List.mem_singleton.mp ho, e]
  | n + 1, xs, h, nd, o, ho => by
    obtain ⟨x, hx, ho⟩ := List.mem_flatMap.mp ho
    obtain ⟨p, hp, rfl⟩ := List.mem_map.mp ho
    have ih := ords_perm n (xs.filter fun y => y != x) (filt_len nd hx h) (nd.sublist List.filter_sublist) p hp
    rw [← nd.erase_eq_filter x] at ih
    exact (ih.cons x).trans (List.perm_cons_erase hx).symm
theorem lts_le {xs : List Str} (l : Lts xs) : xs.length ≤ 5 := by rcases l.len with h | h <;> omega
theorem ords_le {xs : List Str} (l : Lts xs) : (ordsN xs.length xs).length ≤ 7776 := by
  have h := lts_le l
  have a := ords_len xs.length xs (by omega)
  have : (6 : Nat) ^ xs.length ≤ 6 ^ 5 := Nat.pow_le_pow_right (by decide) h
  have : (6 : Nat) ^ 5 = 7776 := rfl
  omega
theorem allB_le {xs : List Str} (l : Lts xs) : (allB xs.length).length ≤ 32 := by
  rw [allB_len]
  rcases l.len with h | h <;> rw [h] <;> decide
theorem e_law_sides (M : Mir) (xs : List Str) (l : Lts xs) (f : Fm) (sdd : Dt) (side : Str → Bool) (hs : ∀ x ∈ xs, gIx sdd (.str x) = some (.str (sd (side x)))) (tab : List Bool → Bool)
    (hA : M.f__law_all_signs [txts xs] = some (sgs (allS xs [[]]))) (hO : M.f__law_orders [txts xs] = some (ordD (ordsN xs.length xs)))
    (hW : ∀ bs : List Bool, bs.length = xs.length → M.f__law_worth [f.d, sg (xs.zip bs)] = some (.bool (tab bs)))
    (hC : ∀ o : List Str, o.Perm xs → M.f__law_chosen [txts xs, sdd, tpl o, rowsD xs.length tab] = some (.bool (elim side o.reverse xs tab))) :
    M.next.f__law_sides [txts xs, sdd, f.d] = some (.list ((ordsN xs.length xs).map fun o => .tuple [tpl o, .str (sd (elim side o.reverse xs tab))])) := by
  have big : (10000 : Nat) < sizeLine := by decide
  have h5 := lts_le l
  have h32 := allB_le l
  have hor := ords_le l
  obtain ⟨st, ⟨s4, e1⟩, h2⟩ := loopF_inv (g := gN 4) (body := sidB M) (fun bs => sg (xs.zip bs))
    (fun K st => ∃ (acc : List (List Bool)) (s4 : Sl), st = [.fz (txts xs), .fz sdd, .fz f.d, .ow (.dict (rw2 acc tab)), s4, .un, .un] ∧ acc ++ K = allB xs.length)
    (fun st => ∃ s4, st = [.fz (txts xs), .fz sdd, .fz f.d, .ow (rowsD xs.length tab), s4, .un, .un])
    (fun st ⟨acc, s4, e1, e2⟩ => ⟨s4, by
      rw [List.append_nil] at e2
      rw [e1, e2]
      rfl⟩)
    (fun bs K st ⟨acc, s4, e1, e2⟩ => by
      subst e1
      have hm : bs ∈ allB xs.length := by rw [← e2]; exact List.mem_append_right _ List.mem_cons_self
      have hl := allB_mem.mp hm
      have w := hW bs hl
      have nd : bs ∉ acc := fun z => by
        have q := allB_nodup xs.length
        rw [← e2, List.nodup_append] at q
        exact q.2.2 _ z _ List.mem_cons_self rfl
      have al : acc.length < 1000 := by
        have q := congrArg List.length e2
        rw [List.length_append, List.length_cons] at q
        omega
      have pt := putD_rw acc tab bs nd al
      have c1 := loopC_pure (g := gN 5) (tt := fYes) (te := fBin gIx (fVar 4) (fVar 5)) (vs := [5]) (st := [.fz (txts xs), .fz sdd, .fz f.d, .ow (.dict (rw2 acc tab)), .fz (sg (xs.zip bs)), .un, .un]) (fun x => some (PyData.bool (env (xs.zip bs) x))) PyData.str xs []
        (fun x hx => by
          have hh : has (xs.zip bs) x = true := by
            rw [has_mem, zip_fst hl]
            exact decide_eq_true hx
          have ix := gIx_sg (xs.zip bs) x hh
          refine ⟨[.fz (txts xs), .fz sdd, .fz f.d, .ow (.dict (rw2 acc tab)), .fz (sg (xs.zip bs)), .fz (.str x), .un], rfl, .inr ⟨[.fz (txts xs), .fz sdd, .fz f.d, .ow (.dict (rw2 acc tab)), .fz (sg (xs.zip bs)), .fz (.str x), .un], _, [.fz (txts xs), .fz sdd, .fz f.d, .ow (.dict (rw2 acc tab)), .fz (sg (xs.zip bs)), .fz (.str x), .un], rfl, ?_, rfl, rfl⟩⟩
          simp (decide := true) only [Mir.next, dPure, dIo, endI, args0, argsI, fSeq, fIf, fSet, fSetN, fRet, fRetN, fDrop, fSkip, fAsg, fPar, xMk, fBool, fTruth, truth, fNot, fAnd, fOr, fBin, fUn, fVar, vE, eV, fzr, fC, rd, fCallP, fCallI, fCons, fNil, rCons, rNil, fCall, rds, g1, fTup, fLst, vNot, vAnd, vOr, vIf, heldAt, heldL, PL.putAt, Sl.held, Sl.put, fMut, mApp, gN, gTn, gsCons, gsNil, gPut, putD, aSeq, seqD, fYes, okW, wipeA, backA, fFor, fLc, fDc, fSc, fSortSet, gIsi, isK, gLen, gIntT, gTuple, gList, gDict, hdK_nil, hdK_i, hdK_s, dKey, gIs, gIsNot, isD, gEq_str, gNe_str, gEq_int, gNe_int, gEq_bool, gNe_bool, gIx_t0, gIx_t1, gIx_t2, gIx_l0, gIx_l1, gIx_l2, gIn2, gInL2, List.length_cons, List.length_nil, List.map_cons, List.map_nil, List.replicate, List.cons_append, List.nil_append, List.getElem?_cons_zero, List.getElem?_cons_succ, List.set_cons_zero, List.set_cons_succ, Nat.reduceAdd, Nat.reduceSub, Nat.reduceEqDiff, List.all_cons, List.all_nil, Option.isNone, Option.map_some, Option.map_none, Bool.and_self, Bool.and_true, Bool.true_and, Bool.and_false, Bool.false_and, Bool.or_true, Bool.true_or, Bool.or_false, Bool.false_or, Bool.or_self, Bool.not_true, Bool.not_false, if_true, if_false, reduceIte, Bool.false_eq_true, decide_true, decide_false, ite_true, ite_false, ix]) (by rw [List.length_nil]; omega)
      have ez : xs.map (fun x => PyData.bool (env (xs.zip bs) x)) = bs.map PyData.bool := by
        have z := congrArg (List.map PyData.bool) (env_zip xs bs l.nd hl)
        rw [List.map_map] at z
        exact z
      rw [fm_some, ez, List.nil_append] at c1
      have e0 : txts xs = .list (xs.map PyData.str) := rfl
      have t0 : PyData.tuple (bs.map PyData.bool) = tb bs := rfl
      refine ⟨[.fz (txts xs), .fz sdd, .fz f.d, .ow (.dict (rw2 acc tab)), .fz (sg (xs.zip bs)), .un, .un], [.fz (txts xs), .fz sdd, .fz f.d, .ow (.dict (rw2 (acc ++ [bs]) tab)), .fz (sg (xs.zip bs)), .un, .un], rfl, ?_, acc ++ [bs], _, rfl, by rw [List.append_assoc]; exact e2⟩
      unfold sidB
      rw [e0] at c1 ⊢
      simp (decide := true) only [Mir.next, dPure, dIo, endI, args0, argsI, fSeq, fIf, fSet, fSetN, fRet, fRetN, fDrop, fSkip, fAsg, fPar, xMk, fBool, fTruth, truth, fNot, fAnd, fOr, fBin, fUn, fVar, vE, eV, fzr, fC, rd, fCallP, fCallI, fCons, fNil, rCons, rNil, fCall, rds, g1, fTup, fLst, vNot, vAnd, vOr, vIf, heldAt, heldL, PL.putAt, Sl.held, Sl.put, fMut, mApp, gN, gTn, gsCons, gsNil, gPut, aSeq, seqD, fYes, okW, wipeA, backA, fFor, fLc, fDc, fSc, fSortSet, gIsi, isK, gLen, gIntT, gTuple, gList, gDict, hdK_nil, hdK_i, hdK_s, dKey, gIs, gIsNot, isD, gEq_str, gNe_str, gEq_int, gNe_int, gEq_bool, gNe_bool, gIx_t0, gIx_t1, gIx_t2, gIx_l0, gIx_l1, gIx_l2, gIn2, gInL2, List.length_cons, List.length_nil, List.map_cons, List.map_nil, List.replicate, List.cons_append, List.nil_append, List.getElem?_cons_zero, List.getElem?_cons_succ, List.set_cons_zero, List.set_cons_succ, Nat.reduceAdd, Nat.reduceSub, Nat.reduceEqDiff, List.all_cons, List.all_nil, Option.isNone, Option.map_some, Option.map_none, Bool.and_self, Bool.and_true, Bool.true_and, Bool.and_false, Bool.false_and, Bool.or_true, Bool.true_or, Bool.or_false, Bool.false_or, Bool.or_self, Bool.not_true, Bool.not_false, if_true, if_false, reduceIte, Bool.false_eq_true, decide_true, decide_false, ite_true, ite_false, w, c1, t0, pt])
    (allB xs.length) [.fz (txts xs), .fz sdd, .fz f.d, .ow (.dict []), .un, .un, .un] ⟨[], _, rfl, rfl⟩
  subst e1
  obtain ⟨st', ⟨s3, hs3, e3⟩, c2⟩ := loopC_rel (g := gN 6) (tt := fYes) (te := fTup (fCons (eV (fVar 6)) (fCons (vIf (fTruth (vE (fCallP M.f__law_chosen (fCons (eV (fVar 0)) (fCons (eV (fVar 1)) (fCons (eV (fVar 6)) (fCons (eV (fVar 3)) fNil))))))) (fC (.str "some")) (fC (.str "all"))) fNil))) (vs := [6])
    (fun o => some (PyData.tuple [tpl o, .str (sd (elim side o.reverse xs tab))])) tpl
    (fun st => ∃ s3, (s3 = .ow (rowsD xs.length tab) ∨ s3 = .fz (rowsD xs.length tab)) ∧ st = [.fz (txts xs), .fz sdd, .fz f.d, s3, s4, .un, .un])
    (ordsN xs.length xs) [] [.fz (txts xs), .fz sdd, .fz f.d, .ow (rowsD xs.length tab), s4, .un, .un] ⟨_, .inl rfl, rfl⟩
    (fun o ho st ⟨s3, hs3, e3⟩ => by
      subst e3
      have c := hC o (ords_perm xs.length xs rfl l.nd o ho)
      refine ⟨[.fz (txts xs), .fz sdd, .fz f.d, s3, s4, .un, .fz (tpl o)], rfl, .inr ⟨[.fz (txts xs), .fz sdd, .fz f.d, s3, s4, .un, .fz (tpl o)], _, [.fz (txts xs), .fz sdd, .fz f.d, .fz (rowsD xs.length tab), s4, .un, .fz (tpl o)], rfl, ?_, ⟨_, .inr rfl, rfl⟩, rfl⟩⟩
      unfold rowsD at c hs3 ⊢
      generalize elim side o.reverse xs tab = v at c ⊢
      rcases hs3 with rfl | rfl <;> cases v <;> simp (decide := true) only [Mir.next, dPure, dIo, endI, args0, argsI, fSeq, fIf, fSet, fSetN, fRet, fRetN, fDrop, fSkip, fAsg, fPar, xMk, fBool, fTruth, truth, fNot, fAnd, fOr, fBin, fUn, fVar, vE, eV, fzr, fC, rd, fCallP, fCallI, fCons, fNil, rCons, rNil, fCall, rds, g1, fTup, fLst, vNot, vAnd, vOr, vIf, heldAt, heldL, PL.putAt, Sl.held, Sl.put, fMut, mApp, gN, gTn, gsCons, gsNil, gPut, putD, aSeq, seqD, fYes, okW, wipeA, backA, fFor, fLc, fDc, fSc, fSortSet, gIsi, isK, gLen, gIntT, gTuple, gList, gDict, hdK_nil, hdK_i, hdK_s, dKey, gIs, gIsNot, isD, gEq_str, gNe_str, gEq_int, gNe_int, gEq_bool, gNe_bool, gIx_t0, gIx_t1, gIx_t2, gIx_l0, gIx_l1, gIx_l2, gIn2, gInL2, List.length_cons, List.length_nil, List.map_cons, List.map_nil, List.replicate, List.cons_append, List.nil_append, List.getElem?_cons_zero, List.getElem?_cons_succ, List.set_cons_zero, List.set_cons_succ, Nat.reduceAdd, Nat.reduceSub, Nat.reduceEqDiff, List.all_cons, List.all_nil, Option.isNone, Option.map_some, Option.map_none, Bool.and_self, Bool.and_true, Bool.true_and, Bool.and_false, Bool.false_and, Bool.or_true, Bool.true_or, Bool.or_false, Bool.false_or, Bool.or_self, Bool.not_true, Bool.not_false, if_true, if_false, reduceIte, Bool.false_eq_true, decide_true, decide_false, ite_true, ite_false, c, sd]) (by rw [List.length_nil]; omega)
  rw [fm_some, List.nil_append] at c2
  subst e3
  have hA' : M.f__law_all_signs [.list (xs.map PyData.str)] = some (.list ((allB xs.length).map fun bs => sg (xs.zip bs))) := by
    rw [allS_zip l.nd] at hA
    unfold sgs at hA
    rw [List.map_map] at hA
    exact hA
  show dPure 7 3 (fSeq (fSetN 3 (fC (.dict []))) (fSeq (fFor (aSeq (fCallP M.f__law_all_signs (fCons (eV (fVar 0)) fNil))) (gN 4) (sidB M)) (fRet (fLc (aSeq (fCallP M.f__law_orders (fCons (eV (fVar 0)) fNil))) (gN 6) fYes (fTup (fCons (eV (fVar 6)) (fCons (vIf (fTruth (vE (fCallP M.f__law_chosen (fCons (eV (fVar 0)) (fCons (eV (fVar 1)) (fCons (eV (fVar 6)) (fCons (eV (fVar 3)) fNil))))))) (fC (.str "some")) (fC (.str "all"))) fNil))) [6])))) [txts xs, sdd, f.d] = _
  have hO' : M.f__law_orders [.list (xs.map PyData.str)] = some (.list ((ordsN xs.length xs).map tpl)) := hO
  have e0 : txts xs = .list (xs.map PyData.str) := rfl
  rw [e0] at h2 c2 ⊢
  simp (decide := true) only [Mir.next, dPure, dIo, endI, args0, argsI, fSeq, fIf, fSet, fSetN, fRet, fRetN, fDrop, fSkip, fAsg, fPar, xMk, fBool, fTruth, truth, fNot, fAnd, fOr, fBin, fUn, fVar, vE, eV, fzr, fC, rd, fCallP, fCallI, fCons, fNil, rCons, rNil, fCall, rds, g1, fTup, fLst, vNot, vAnd, vOr, vIf, heldAt, heldL, PL.putAt, Sl.held, Sl.put, fMut, mApp, gN, gTn, gsCons, gsNil, gPut, putD, aSeq, seqD, fYes, okW, wipeA, backA, fFor, fDc, fSc, fSortSet, gIsi, isK, gLen, gIntT, gTuple, gList, gDict, hdK_nil, hdK_i, hdK_s, dKey, gIs, gIsNot, isD, gEq_str, gNe_str, gEq_int, gNe_int, gEq_bool, gNe_bool, gIx_t0, gIx_t1, gIx_t2, gIx_l0, gIx_l1, gIx_l2, gIn2, gInL2, List.length_cons, List.length_nil, List.map_cons, List.map_nil, List.replicate, List.cons_append, List.nil_append, List.getElem?_cons_zero, List.getElem?_cons_succ, List.set_cons_zero, List.set_cons_succ, Nat.reduceAdd, Nat.reduceSub, Nat.reduceEqDiff, List.all_cons, List.all_nil, Option.isNone, Option.map_some, Option.map_none, Bool.and_self, Bool.and_true, Bool.true_and, Bool.and_false, Bool.false_and, Bool.or_true, Bool.true_or, Bool.or_false, Bool.false_or, Bool.or_self, Bool.not_true, Bool.not_false, if_true, if_false, reduceIte, Bool.false_eq_true, decide_true, decide_false, ite_true, ite_false, hA', h2]
  have lc : fLc (aSeq (fCallP M.f__law_orders (fCons (eV (fVar 0)) fNil))) (gN 6) fYes (fTup (fCons (eV (fVar 6)) (fCons (vIf (fTruth (vE (fCallP M.f__law_chosen (fCons (eV (fVar 0)) (fCons (eV (fVar 1)) (fCons (eV (fVar 6)) (fCons (eV (fVar 3)) fNil))))))) (fC (.str "some")) (fC (.str "all"))) fNil))) [6] [.fz (.list (xs.map PyData.str)), .fz sdd, .fz f.d, .ow (rowsD xs.length tab), s4, .un, .un] = some (.list ((ordsN xs.length xs).map fun o => PyData.tuple [tpl o, .str (sd (elim side o.reverse xs tab))]), backA [.fz (.list (xs.map PyData.str)), .fz sdd, .fz f.d, .ow (rowsD xs.length tab), s4, .un, .un] [6] [.fz (.list (xs.map PyData.str)), .fz sdd, .fz f.d, s3, s4, .un, .un]) := by
    have it : aSeq (fCallP M.f__law_orders (fCons (eV (fVar 0)) fNil)) [.fz (.list (xs.map PyData.str)), .fz sdd, .fz f.d, .ow (rowsD xs.length tab), s4, .un, .un] = some ((ordsN xs.length xs).map tpl, [.fz (.list (xs.map PyData.str)), .fz sdd, .fz f.d, .ow (rowsD xs.length tab), s4, .un, .un]) := by
      simp (decide := true) only [Mir.next, dPure, dIo, endI, args0, argsI, fSeq, fIf, fSet, fSetN, fRet, fRetN, fDrop, fSkip, fAsg, fPar, xMk, fBool, fTruth, truth, fNot, fAnd, fOr, fBin, fUn, fVar, vE, eV, fzr, fC, rd, fCallP, fCallI, fCons, fNil, rCons, rNil, fCall, rds, g1, fTup, fLst, vNot, vAnd, vOr, vIf, heldAt, heldL, PL.putAt, Sl.held, Sl.put, fMut, mApp, gN, gTn, gsCons, gsNil, gPut, putD, aSeq, seqD, fYes, okW, wipeA, backA, fFor, fLc, fDc, fSc, fSortSet, gIsi, isK, gLen, gIntT, gTuple, gList, gDict, hdK_nil, hdK_i, hdK_s, dKey, gIs, gIsNot, isD, gEq_str, gNe_str, gEq_int, gNe_int, gEq_bool, gNe_bool, gIx_t0, gIx_t1, gIx_t2, gIx_l0, gIx_l1, gIx_l2, gIn2, gInL2, List.length_cons, List.length_nil, List.map_cons, List.map_nil, List.replicate, List.cons_append, List.nil_append, List.getElem?_cons_zero, List.getElem?_cons_succ, List.set_cons_zero, List.set_cons_succ, Nat.reduceAdd, Nat.reduceSub, Nat.reduceEqDiff, List.all_cons, List.all_nil, Option.isNone, Option.map_some, Option.map_none, Bool.and_self, Bool.and_true, Bool.true_and, Bool.and_false, Bool.false_and, Bool.or_true, Bool.true_or, Bool.or_false, Bool.false_or, Bool.or_self, Bool.not_true, Bool.not_false, if_true, if_false, reduceIte, Bool.false_eq_true, decide_true, decide_false, ite_true, ite_false, hO']
    unfold fLc
    rw [it]
    dsimp only
    rw [if_pos (show okW [.fz (.list (xs.map PyData.str)), .fz sdd, .fz f.d, .ow (rowsD xs.length tab), s4, .un, .un] [6] = true from rfl)]
    have w : wipeA [.fz (.list (xs.map PyData.str)), .fz sdd, .fz f.d, .ow (rowsD xs.length tab), s4, .un, .un] [6] = [.fz (.list (xs.map PyData.str)), .fz sdd, .fz f.d, .ow (rowsD xs.length tab), s4, .un, .un] := rfl
    rw [w, c2]
  simp (decide := true) only [Mir.next, dPure, dIo, endI, args0, argsI, fSeq, fIf, fSet, fSetN, fRet, fRetN, fDrop, fSkip, fAsg, fPar, xMk, fBool, fTruth, truth, fNot, fAnd, fOr, fBin, fUn, fVar, vE, eV, fzr, fC, rd, fCallP, fCallI, fCons, fNil, rCons, rNil, fCall, rds, g1, fTup, fLst, vNot, vAnd, vOr, vIf, heldAt, heldL, PL.putAt, Sl.held, Sl.put, fMut, mApp, gN, gTn, gsCons, gsNil, gPut, putD, aSeq, seqD, fYes, okW, wipeA, backA, fFor, fDc, fSc, fSortSet, gIsi, isK, gLen, gIntT, gTuple, gList, gDict, hdK_nil, hdK_i, hdK_s, dKey, gIs, gIsNot, isD, gEq_str, gNe_str, gEq_int, gNe_int, gEq_bool, gNe_bool, gIx_t0, gIx_t1, gIx_t2, gIx_l0, gIx_l1, gIx_l2, gIn2, gInL2, List.length_cons, List.length_nil, List.map_cons, List.map_nil, List.replicate, List.cons_append, List.nil_append, List.getElem?_cons_zero, List.getElem?_cons_succ, List.set_cons_zero, List.set_cons_succ, Nat.reduceAdd, Nat.reduceSub, Nat.reduceEqDiff, List.all_cons, List.all_nil, Option.isNone, Option.map_some, Option.map_none, Bool.and_self, Bool.and_true, Bool.true_and, Bool.and_false, Bool.false_and, Bool.or_true, Bool.true_or, Bool.or_false, Bool.false_or, Bool.or_self, Bool.not_true, Bool.not_false, if_true, if_false, reduceIte, Bool.false_eq_true, decide_true, decide_false, ite_true, ite_false, lc]
end K11
namespace K11
open PySem PySem.Spec PyProof.Rows L2 PL
theorem gather_perm : ∀ (xs l : List Str), (xs ++ l).Nodup → (gather xs l).Perm (xs ++ l)
  | [], l, _ => List.Perm.refl _
  | x :: r, l, nd => by
    rw [List.cons_append, List.nodup_cons, List.mem_append, not_or] at nd
    have e : gather (x :: r) l = gather r (x :: l) := by
      show gather r (insS x l) = _
      unfold insS
      rw [if_neg nd.1.2]
    have nd2 : (r ++ x :: l).Nodup := (List.perm_middle).nodup_iff.mpr (List.nodup_cons.mpr ⟨fun z => (List.mem_append.mp z).elim nd.1.1 nd.1.2, nd.2⟩)
    rw [e]
    exact (gather_perm r (x :: l) nd2).trans List.perm_middle
theorem lot_eq {xs : List Str} (nd : xs.Nodup) : lotD xs = .tuple (sortD (xs.map PyData.str)) := by
  unfold lotD
  have p := gather_perm xs [] (by rw [List.append_nil]; exact nd)
  rw [List.append_nil] at p
  rw [sort_perm p]
def alls : T0 → List Str
  | [] => []
  | (true, _) :: r => alls r
  | (false, x) :: r => x :: alls r
theorem alls_app : ∀ a b : T0, alls (a ++ b) = alls a ++ alls b
  | [], b => rfl
  | (true, x) :: a, b => alls_app a b
  | (false, x) :: a, b => by
    show x :: alls (a ++ b) = x :: (alls a ++ alls b)
    rw [alls_app a b]
theorem alls_sub : ∀ a : T0, (alls a).Sublist (a.map Prod.snd)
  | [] => .slnil
  | (true, x) :: a => (alls_sub a).cons x
  | (false, x) :: a => (alls_sub a).cons₂ x
/-- the letters of some with the letters of all ahead -/
def sgt : List Str → T0 → List (Str × List Str)
  | _, [] => []
  | ah, (true, x) :: r => (x, ah) :: sgt ah r
  | ah, (false, x) :: r => sgt (ah ++ [x]) r
def enD (p : Str × List Str) : Dt × Dt := (.str p.1, .tuple (sortD (p.2.map .str)))
def sgD (ts : T0) : List (Dt × Dt) := (sgt [] ts).map enD
theorem sgt_snoc : ∀ (pre : T0) (ah : List Str) (t : Bool × Str), sgt ah (pre ++ [t]) = sgt ah pre ++ if t.1 = true then [(t.2, ah ++ alls pre)] else []
  | [], ah, (true, x) => by show [(x, ah)] = [] ++ [(x, ah ++ [])]; rw [List.append_nil]; rfl
  | [], ah, (false, x) => rfl
  | (true, y) :: pre, ah, t => by
    show (y, ah) :: sgt ah (pre ++ [t]) = (y, ah) :: sgt ah pre ++ _
    rw [sgt_snoc pre ah t]
    rfl
  | (false, y) :: pre, ah, t => by
    show sgt (ah ++ [y]) (pre ++ [t]) = sgt (ah ++ [y]) pre ++ _
    rw [sgt_snoc pre (ah ++ [y]) t, List.append_assoc]
    rfl
theorem sgt_keys : ∀ (ts : T0) (ah : List Str), ((sgt ah ts).map Prod.fst).Sublist (ts.map Prod.snd)
  | [], _ => .slnil
  | (true, x) :: r, ah => (sgt_keys r ah).cons₂ x
  | (false, x) :: r, ah => (sgt_keys r (ah ++ [x])).cons x
theorem hdK_str {α : Type} (k : α → Str) (d : α → Dt) (l : List α) : hdK (l.map fun p => (PyData.str (k p), d p)) = true := by cases l <;> rfl
theorem hdK_sg (ts : T0) : hdK (sgD ts) = true := by
  unfold sgD
  cases sgt [] ts <;> rfl
theorem putKs_end (x : Str) (v : Dt) {α : Type} (k : α → Str) (d : α → Dt) : ∀ l : List α, x ∉ l.map k → putKs (.str x) v (l.map fun p => (PyData.str (k p), d p)) = (l.map fun p => (PyData.str (k p), d p)) ++ [(.str x, v)]
  | [], _ => rfl
  | p :: l, h => by
    rw [List.map_cons, List.mem_cons, not_or] at h
    rw [List.map_cons]
    unfold putKs
    dsimp only [dKey]
    rw [if_neg (fun z => h.1 (Sum.inr.inj z).symm), putKs_end x v k d l h.2]
    rfl
theorem put_sgD (pre : T0) (x : Str) (h : x ∉ pre.map Prod.snd) : putKs (.str x) (.tuple (sortD ((alls pre).map .str))) (sgD pre) = sgD (pre ++ [(true, x)]) := by
  have e := putKs_end x (.tuple (sortD ((alls pre).map .str))) (fun p : Str × List Str => p.1) (fun p => .tuple (sortD (p.2.map .str))) (sgt [] pre) fun z => h ((sgt_keys pre []).subset z)
  refine e.trans ?_
  unfold sgD
  rw [sgt_snoc, List.map_append]
  rfl
theorem sgD_all (pre : T0) (x : Str) : sgD (pre ++ [(false, x)]) = sgD pre := by
  unfold sgD
  rw [sgt_snoc]
  show (sgt [] pre ++ []).map enD = _
  rw [List.append_nil]
/-! ### ahead_of -/
def ahd (x : Str) : T0 → List Str → List Str
  | [], acc => acc
  | (true, y) :: r, acc => if y = x then acc else ahd x r acc
  | (false, y) :: r, acc => if y = x then acc else ahd x r (acc ++ [y])
theorem ahd_at (x : Str) (b : Bool) (post : T0) : ∀ (pre : T0) (acc : List Str), x ∉ pre.map Prod.snd → ahd x (pre ++ (b, x) :: post) acc = acc ++ alls pre
  | [], acc, _ => by
    cases b <;> (show (if x = x then acc else _) = acc ++ []; rw [if_pos rfl, List.append_nil])
  | (true, y) :: pre, acc, h => by
    rw [List.map_cons, List.mem_cons, not_or] at h
    show (if y = x then acc else ahd x (pre ++ (b, x) :: post) acc) = acc ++ alls pre
    rw [if_neg (fun z => h.1 z.symm), ahd_at x b post pre acc h.2]
  | (false, y) :: pre, acc, h => by
    rw [List.map_cons, List.mem_cons, not_or] at h
    show (if y = x then acc else ahd x (pre ++ (b, x) :: post) (acc ++ [y])) = acc ++ y :: alls pre
    rw [if_neg (fun z => h.1 z.symm), ahd_at x b post pre (acc ++ [y]) h.2, List.append_assoc]
    rfl
def ahB (M : Mir) : FS := (fSeq (fIf (fBool (fBin gEq (fVar 4) (fVar 1))) (fRet (fCallP M.f_lot (fCons (eV (fVar 2)) fNil))) fSkip) (fIf (fBool (fBin gEq (fVar 3) (vE (fC (.str "all"))))) (fDrop (fApp 2 (eV (fVar 4)))) fSkip))
theorem ah_loop (M : Mir) (hM : LO M) (T : Sl) (x : Str) : ∀ (ts : T0) (found : List Str) (s3 s4 : Sl), ts.length + found.length ≤ 100 →
    (∃ st, loopF (gTn 2 (gsCons (gN 3) (gsCons (gN 4) gsNil))) (ahB M) (ts.map tD) [T, .fz (.str x), .ow (txts found), s3, s4] = some (.rt (lotD (ahd x ts found)) st)) ∨
    (∃ t3 t4, (ahd x ts found).length ≤ 100 ∧ loopF (gTn 2 (gsCons (gN 3) (gsCons (gN 4) gsNil))) (ahB M) (ts.map tD) [T, .fz (.str x), .ow (txts found), s3, s4] = some (.nx [T, .fz (.str x), .ow (txts (ahd x ts found)), t3, t4]))
  | [], found, s3, s4, h => .inr ⟨s3, s4, by rw [List.length_nil] at h; show found.length ≤ 100; omega, rfl⟩
  | (b, y) :: r, found, s3, s4, h => by
    rw [List.length_cons] at h
    have big : (1000 : Nat) < sizeLine := by decide
    have lo := hM found (by omega)
    have e1 : txts found = .list (found.map PyData.str) := rfl
    rw [List.map_cons]
    unfold loopF
    by_cases q : y = x
    · left
      have ea : ahd x ((b, y) :: r) found = found := by cases b <;> exact if_pos q
      refine ⟨[T, .fz (.str x), .fz (txts found), .fz (.str (sd b)), .fz (.str y)], ?_⟩
      rw [ea]
      rw [e1] at lo ⊢
      simp (decide := true) only [ahB, Mir.next, dPure, dIo, endI, args0, argsI, fSeq, fIf, fSet, fSetN, fRet, fRetN, fDrop, fSkip, fAsg, fPar, xMk, fBool, fTruth, truth, fNot, fAnd, fOr, fBin, fUn, fVar, vE, eV, fzr, fC, rd, fCallP, fCallI, fCons, fNil, rCons, rNil, fCall, rds, g1, fTup, fLst, vNot, vAnd, vOr, vIf, heldAt, heldL, PL.putAt, Sl.held, Sl.put, fMut, mApp, gN, gTn, gsCons, gsNil, gPut, putD, aSeq, seqD, fYes, okW, wipeA, backA, fFor, fLc, fDc, fSc, fSortSet, gIsi, isK, gLen, gIntT, gTuple, gList, gDict, hdK_nil, hdK_i, hdK_s, dKey, gIs, gIsNot, isD, gEq_str, gNe_str, gEq_int, gNe_int, gEq_bool, gNe_bool, gIx_t0, gIx_t1, gIx_t2, gIx_l0, gIx_l1, gIx_l2, gIn2, gInL2, List.length_cons, List.length_nil, List.map_cons, List.map_nil, List.replicate, List.cons_append, List.nil_append, List.getElem?_cons_zero, List.getElem?_cons_succ, List.set_cons_zero, List.set_cons_succ, Nat.reduceAdd, Nat.reduceSub, Nat.reduceEqDiff, List.all_cons, List.all_nil, Option.isNone, Option.map_some, Option.map_none, Bool.and_self, Bool.and_true, Bool.true_and, Bool.and_false, Bool.false_and, Bool.or_true, Bool.true_or, Bool.or_false, Bool.false_or, Bool.or_self, Bool.not_true, Bool.not_false, if_true, if_false, reduceIte, Bool.false_eq_true, decide_true, decide_false, ite_true, ite_false, tD, q, lo]
    · cases b with
      | true =>
        have ea : ahd x ((true, y) :: r) found = ahd x r found := if_neg q
        rw [ea]
        have ih := ah_loop M hM T x r found (.fz (.str (sd true))) (.fz (.str y)) (by omega)
        rw [e1] at ih ⊢
        rcases ih with ⟨st, ih⟩ | ⟨s3', s4', h1, ih⟩
        · left
          refine ⟨st, ?_⟩
          simp (decide := true) only [ahB, Mir.next, dPure, dIo, endI, args0, argsI, fSeq, fIf, fSet, fSetN, fRet, fRetN, fDrop, fSkip, fAsg, fPar, xMk, fBool, fTruth, truth, fNot, fAnd, fOr, fBin, fUn, fVar, vE, eV, fzr, fC, rd, fCallP, fCallI, fCons, fNil, rCons, rNil, fCall, rds, g1, fTup, fLst, vNot, vAnd, vOr, vIf, heldAt, heldL, PL.putAt, Sl.held, Sl.put, fMut, mApp, gN, gTn, gsCons, gsNil, gPut, putD, aSeq, seqD, fYes, okW, wipeA, backA, fFor, fLc, fDc, fSc, fSortSet, gIsi, isK, gLen, gIntT, gTuple, gList, gDict, hdK_nil, hdK_i, hdK_s, dKey, gIs, gIsNot, isD, gEq_str, gNe_str, gEq_int, gNe_int, gEq_bool, gNe_bool, gIx_t0, gIx_t1, gIx_t2, gIx_l0, gIx_l1, gIx_l2, gIn2, gInL2, List.length_cons, List.length_nil, List.map_cons, List.map_nil, List.replicate, List.cons_append, List.nil_append, List.getElem?_cons_zero, List.getElem?_cons_succ, List.set_cons_zero, List.set_cons_succ, Nat.reduceAdd, Nat.reduceSub, Nat.reduceEqDiff, List.all_cons, List.all_nil, Option.isNone, Option.map_some, Option.map_none, Bool.and_self, Bool.and_true, Bool.true_and, Bool.and_false, Bool.false_and, Bool.or_true, Bool.true_or, Bool.or_false, Bool.false_or, Bool.or_self, Bool.not_true, Bool.not_false, if_true, if_false, reduceIte, Bool.false_eq_true, decide_true, decide_false, ite_true, ite_false, tD, q, sd] at ih ⊢
          exact ih
        · right
          refine ⟨s3', s4', h1, ?_⟩
          simp (decide := true) only [ahB, Mir.next, dPure, dIo, endI, args0, argsI, fSeq, fIf, fSet, fSetN, fRet, fRetN, fDrop, fSkip, fAsg, fPar, xMk, fBool, fTruth, truth, fNot, fAnd, fOr, fBin, fUn, fVar, vE, eV, fzr, fC, rd, fCallP, fCallI, fCons, fNil, rCons, rNil, fCall, rds, g1, fTup, fLst, vNot, vAnd, vOr, vIf, heldAt, heldL, PL.putAt, Sl.held, Sl.put, fMut, mApp, gN, gTn, gsCons, gsNil, gPut, putD, aSeq, seqD, fYes, okW, wipeA, backA, fFor, fLc, fDc, fSc, fSortSet, gIsi, isK, gLen, gIntT, gTuple, gList, gDict, hdK_nil, hdK_i, hdK_s, dKey, gIs, gIsNot, isD, gEq_str, gNe_str, gEq_int, gNe_int, gEq_bool, gNe_bool, gIx_t0, gIx_t1, gIx_t2, gIx_l0, gIx_l1, gIx_l2, gIn2, gInL2, List.length_cons, List.length_nil, List.map_cons, List.map_nil, List.replicate, List.cons_append, List.nil_append, List.getElem?_cons_zero, List.getElem?_cons_succ, List.set_cons_zero, List.set_cons_succ, Nat.reduceAdd, Nat.reduceSub, Nat.reduceEqDiff, List.all_cons, List.all_nil, Option.isNone, Option.map_some, Option.map_none, Bool.and_self, Bool.and_true, Bool.true_and, Bool.and_false, Bool.false_and, Bool.or_true, Bool.true_or, Bool.or_false, Bool.false_or, Bool.or_self, Bool.not_true, Bool.not_false, if_true, if_false, reduceIte, Bool.false_eq_true, decide_true, decide_false, ite_true, ite_false, tD, q, sd] at ih ⊢
          exact ih
      | false =>
        have ea : ahd x ((false, y) :: r) found = ahd x r (found ++ [y]) := if_neg q
        rw [ea]
        have ih := ah_loop M hM T x r (found ++ [y]) (.fz (.str (sd false))) (.fz (.str y)) (by rw [List.length_append, List.length_singleton]; omega)
        have e2 : txts (found ++ [y]) = .list (found.map PyData.str ++ [.str y]) := by
          unfold txts
          rw [List.map_append]
          rfl
        have z : (found.map PyData.str).length < sizeLine := by rw [List.length_map]; omega
        rw [e1]
        rw [e2] at ih
        rcases ih with ⟨st, ih⟩ | ⟨s3', s4', h1, ih⟩
        · left
          refine ⟨st, ?_⟩
          simp (decide := true) only [ahB, Mir.next, dPure, dIo, endI, args0, argsI, fSeq, fIf, fSet, fSetN, fRet, fRetN, fDrop, fSkip, fAsg, fPar, xMk, fBool, fTruth, truth, fNot, fAnd, fOr, fBin, fUn, fVar, vE, eV, fzr, fC, rd, fCallP, fCallI, fCons, fNil, rCons, rNil, fCall, rds, g1, fTup, fLst, vNot, vAnd, vOr, vIf, heldAt, heldL, PL.putAt, Sl.held, Sl.put, fMut, mApp, gN, gTn, gsCons, gsNil, gPut, putD, aSeq, seqD, fYes, okW, wipeA, backA, fFor, fLc, fDc, fSc, fSortSet, gIsi, isK, gLen, gIntT, gTuple, gList, gDict, hdK_nil, hdK_i, hdK_s, dKey, gIs, gIsNot, isD, gEq_str, gNe_str, gEq_int, gNe_int, gEq_bool, gNe_bool, gIx_t0, gIx_t1, gIx_t2, gIx_l0, gIx_l1, gIx_l2, gIn2, gInL2, List.length_cons, List.length_nil, List.map_cons, List.map_nil, List.replicate, List.cons_append, List.nil_append, List.getElem?_cons_zero, List.getElem?_cons_succ, List.set_cons_zero, List.set_cons_succ, Nat.reduceAdd, Nat.reduceSub, Nat.reduceEqDiff, List.all_cons, List.all_nil, Option.isNone, Option.map_some, Option.map_none, Bool.and_self, Bool.and_true, Bool.true_and, Bool.and_false, Bool.false_and, Bool.or_true, Bool.true_or, Bool.or_false, Bool.false_or, Bool.or_self, Bool.not_true, Bool.not_false, if_true, if_false, reduceIte, Bool.false_eq_true, decide_true, decide_false, ite_true, ite_false, tD, q, sd, z] at ih ⊢
          exact ih
        · right
          refine ⟨s3', s4', h1, ?_⟩
          simp (decide := true) only [ahB, Mir.next, dPure, dIo, endI, args0, argsI, fSeq, fIf, fSet, fSetN, fRet, fRetN, fDrop, fSkip, fAsg, fPar, xMk, fBool, fTruth, truth, fNot, fAnd, fOr, fBin, fUn, fVar, vE, eV, fzr, fC, rd, fCallP, fCallI, fCons, fNil, rCons, rNil, fCall, rds, g1, fTup, fLst, vNot, vAnd, vOr, vIf, heldAt, heldL, PL.putAt, Sl.held, Sl.put, fMut, mApp, gN, gTn, gsCons, gsNil, gPut, putD, aSeq, seqD, fYes, okW, wipeA, backA, fFor, fLc, fDc, fSc, fSortSet, gIsi, isK, gLen, gIntT, gTuple, gList, gDict, hdK_nil, hdK_i, hdK_s, dKey, gIs, gIsNot, isD, gEq_str, gNe_str, gEq_int, gNe_int, gEq_bool, gNe_bool, gIx_t0, gIx_t1, gIx_t2, gIx_l0, gIx_l1, gIx_l2, gIn2, gInL2, List.length_cons, List.length_nil, List.map_cons, List.map_nil, List.replicate, List.cons_append, List.nil_append, List.getElem?_cons_zero, List.getElem?_cons_succ, List.set_cons_zero, List.set_cons_succ, Nat.reduceAdd, Nat.reduceSub, Nat.reduceEqDiff, List.all_cons, List.all_nil, Option.isNone, Option.map_some, Option.map_none, Bool.and_self, Bool.and_true, Bool.true_and, Bool.and_false, Bool.false_and, Bool.or_true, Bool.true_or, Bool.or_false, Bool.false_or, Bool.or_self, Bool.not_true, Bool.not_false, if_true, if_false, reduceIte, Bool.false_eq_true, decide_true, decide_false, ite_true, ite_false, tD, q, sd, z] at ih ⊢
          exact ih
def TL (b : Bool) (ts : T0) : Dt := if b = true then tl ts else tn ts
theorem e_aheadX (M : Mir) (hM : LO M) (tb : Bool) (ts : T0) (x : Str) (h : ts.length ≤ 100) : M.next.f_ahead_of [TL tb ts, .str x] = some (lotD (ahd x ts [])) := by
  have e1 : txts [] = .list [] := rfl
  have sq : seqD (TL tb ts) = some (ts.map tD) := by cases tb <;> rfl
  show dPure 5 2 (fSeq (fSetN 2 (fLst fNil)) (fSeq (fFor (aSeq (eV (fVar 0))) (gTn 2 (gsCons (gN 3) (gsCons (gN 4) gsNil))) (ahB M)) (fRet (fCallP M.f_lot (fCons (eV (fVar 2)) fNil))))) [TL tb ts, .str x] = _
  have its : aSeq (eV (fVar 0)) [.fz (TL tb ts), .fz (.str x), .ow (.list []), .un, .un] = some (ts.map tD, [.fz (TL tb ts), .fz (.str x), .ow (.list []), .un, .un]) := by
    show (match seqD (TL tb ts) with | some ds => some (ds, _) | none => none) = _
    rw [sq]
  have first : fSetN 2 (fLst fNil) (args0 5 2 [TL tb ts, .str x]) = some (.nx [.fz (TL tb ts), .fz (.str x), .ow (.list []), .un, .un]) := rfl
  have fr : fFor (aSeq (eV (fVar 0))) (gTn 2 (gsCons (gN 3) (gsCons (gN 4) gsNil))) (ahB M) [.fz (TL tb ts), .fz (.str x), .ow (.list []), .un, .un] = loopF (gTn 2 (gsCons (gN 3) (gsCons (gN 4) gsNil))) (ahB M) (ts.map tD) [.fz (TL tb ts), .fz (.str x), .ow (.list []), .un, .un] := by
    unfold fFor
    rw [its]
  rcases ah_loop M hM (.fz (TL tb ts)) x ts [] .un .un (by rw [List.length_nil]; omega) with ⟨st, e⟩ | ⟨s3, s4, hy, e⟩
  · rw [e1] at e
    refine d_pure rfl (as1 := st) ?_
    refine (seq_nx first).trans ?_
    exact seq_rt (fr.trans e)
  · rw [e1] at e
    have lo := hM _ hy
    have e2 : txts (ahd x ts []) = .list ((ahd x ts []).map PyData.str) := rfl
    rw [e2] at lo e
    refine d_pure rfl (as1 := [.fz (TL tb ts), .fz (.str x), .fz (.list ((ahd x ts []).map PyData.str)), s3, s4]) ?_
    refine (seq_nx first).trans ((seq_nx (fr.trans e)).trans ?_)
    simp (decide := true) only [Mir.next, dPure, dIo, endI, args0, argsI, fSeq, fIf, fSet, fSetN, fRet, fRetN, fDrop, fSkip, fAsg, fPar, xMk, fBool, fTruth, truth, fNot, fAnd, fOr, fBin, fUn, fVar, vE, eV, fzr, fC, rd, fCallP, fCallI, fCons, fNil, rCons, rNil, fCall, rds, g1, fTup, fLst, vNot, vAnd, vOr, vIf, heldAt, heldL, PL.putAt, Sl.held, Sl.put, fMut, mApp, gN, gTn, gsCons, gsNil, gPut, putD, aSeq, seqD, fYes, okW, wipeA, backA, fFor, fLc, fDc, fSc, fSortSet, gIsi, isK, gLen, gIntT, gTuple, gList, gDict, hdK_nil, hdK_i, hdK_s, dKey, gIs, gIsNot, isD, gEq_str, gNe_str, gEq_int, gNe_int, gEq_bool, gNe_bool, gIx_t0, gIx_t1, gIx_t2, gIx_l0, gIx_l1, gIx_l2, gIn2, gInL2, List.length_cons, List.length_nil, List.map_cons, List.map_nil, List.replicate, List.cons_append, List.nil_append, List.getElem?_cons_zero, List.getElem?_cons_succ, List.set_cons_zero, List.set_cons_succ, Nat.reduceAdd, Nat.reduceSub, Nat.reduceEqDiff, List.all_cons, List.all_nil, Option.isNone, Option.map_some, Option.map_none, Bool.and_self, Bool.and_true, Bool.true_and, Bool.and_false, Bool.false_and, Bool.or_true, Bool.true_or, Bool.or_false, Bool.false_or, Bool.or_self, Bool.not_true, Bool.not_false, if_true, if_false, reduceIte, Bool.false_eq_true, decide_true, decide_false, ite_true, ite_false, lo]
end K11
namespace K11
open PySem PySem.Spec PyProof.Rows L2 PL
def AX (M : Mir) : Prop := ∀ (tb : Bool) (ts : T0) (x : Str), ts.length ≤ 100 → M.f_ahead_of [TL tb ts, .str x] = some (lotD (ahd x ts []))
def gam (ts : T0) (f : Dt) : Dt := .tuple [tn ts, .dict (sgD ts), f]
theorem sgt_len : ∀ (ts : T0) (ah : List Str), (sgt ah ts).length ≤ ts.length
  | [], _ => Nat.le_refl _
  | (true, x) :: r, ah => Nat.succ_le_succ (sgt_len r ah)
  | (false, x) :: r, ah => Nat.le_succ_of_le (sgt_len r _)
theorem plain_loop (M : Mir) (hM : AX M) (b : Bool) (all : T0) (ha : all.length ≤ 100) (nd : (all.map Prod.snd).Nodup) (N : Sl) : ∀ (r pre : T0), pre ++ r = all →
    loopK (gTn 2 (gsCons (gN 2) (gsCons (gN 3) gsNil))) (fBool (fBin gEq (fVar 2) (vE (fC (.str "some"))))) (eV (fVar 3)) (fCallP M.f_ahead_of (fCons (eV (fVar 0)) (fCons (eV (fVar 3)) fNil))) [2, 3] (r.map tD) [.fz (TL b all), N, .un, .un] (sgD pre) = some (sgD all, [.fz (TL b all), N, .un, .un])
  | [], pre, e => by
    rw [List.append_nil] at e
    rw [e]
    rfl
  | (c, y) :: r, pre, e => by
    have big : (1000 : Nat) < sizeLine := by decide
    have hd := hM b all y ha
    have ny : y ∉ pre.map Prod.snd := fun z => by
      rw [← e, List.map_append, List.nodup_append] at nd
      exact nd.2.2 _ z _ List.mem_cons_self rfl
    have e' : (pre ++ [(c, y)]) ++ r = all := by rw [List.append_assoc]; exact e
    have ih := plain_loop M hM b all ha nd N r (pre ++ [(c, y)]) e'
    rw [List.map_cons]
    cases c with
    | false =>
      rw [sgD_all] at ih
      simp (decide := true) only [loopK, Mir.next, dPure, dIo, endI, args0, argsI, fSeq, fIf, fSet, fSetN, fRet, fRetN, fDrop, fSkip, fAsg, fPar, xMk, fBool, fTruth, truth, fNot, fAnd, fOr, fBin, fUn, fVar, vE, eV, fzr, fC, rd, fCallP, fCallI, fCons, fNil, rCons, rNil, fCall, rds, g1, fTup, fLst, vNot, vAnd, vOr, vIf, heldAt, heldL, PL.putAt, Sl.held, Sl.put, fMut, mApp, gN, gTn, gsCons, gsNil, gPut, putD, aSeq, seqD, fYes, okW, wipeA, backA, fFor, fLc, fDc, fSc, fSortSet, gIsi, isK, gLen, gIntT, gTuple, gList, gDict, hdK_nil, hdK_i, hdK_s, dKey, gIs, gIsNot, isD, gEq_str, gNe_str, gEq_int, gNe_int, gEq_bool, gNe_bool, gIx_t0, gIx_t1, gIx_t2, gIx_l0, gIx_l1, gIx_l2, gIn2, gInL2, List.length_cons, List.length_nil, List.map_cons, List.map_nil, List.replicate, List.cons_append, List.nil_append, List.getElem?_cons_zero, List.getElem?_cons_succ, List.set_cons_zero, List.set_cons_succ, Nat.reduceAdd, Nat.reduceSub, Nat.reduceEqDiff, List.all_cons, List.all_nil, Option.isNone, Option.map_some, Option.map_none, Bool.and_self, Bool.and_true, Bool.true_and, Bool.and_false, Bool.false_and, Bool.or_true, Bool.true_or, Bool.or_false, Bool.false_or, Bool.or_self, Bool.not_true, Bool.not_false, if_true, if_false, reduceIte, Bool.false_eq_true, decide_true, decide_false, ite_true, ite_false, tD, sd, ih]
    | true =>
      have ea : ahd y all [] = alls pre := by
        rw [← e, ahd_at y true r pre [] ny, List.nil_append]
      have ndp : (alls pre).Nodup := ((alls_sub pre).nodup) (by
        rw [← e, List.map_append, List.nodup_append] at nd
        exact nd.1)
      rw [ea, lot_eq ndp] at hd
      have z : (sgD pre).length < sizeLine := by
        have a1 := sgt_len pre []
        have a2 : pre.length ≤ all.length := by rw [← e, List.length_append]; omega
        unfold sgD
        rw [List.length_map]
        omega
      have pt := put_sgD pre y ny
      simp (decide := true) only [loopK, Mir.next, dPure, dIo, endI, args0, argsI, fSeq, fIf, fSet, fSetN, fRet, fRetN, fDrop, fSkip, fAsg, fPar, xMk, fBool, fTruth, truth, fNot, fAnd, fOr, fBin, fUn, fVar, vE, eV, fzr, fC, rd, fCallP, fCallI, fCons, fNil, rCons, rNil, fCall, rds, g1, fTup, fLst, vNot, vAnd, vOr, vIf, heldAt, heldL, PL.putAt, Sl.held, Sl.put, fMut, mApp, gN, gTn, gsCons, gsNil, gPut, putD, aSeq, seqD, fYes, okW, wipeA, backA, fFor, fLc, fDc, fSc, fSortSet, gIsi, isK, gLen, gIntT, gTuple, gList, gDict, hdK_nil, hdK_i, hdK_s, dKey, gIs, gIsNot, isD, gEq_str, gNe_str, gEq_int, gNe_int, gEq_bool, gNe_bool, gIx_t0, gIx_t1, gIx_t2, gIx_l0, gIx_l1, gIx_l2, gIn2, gInL2, List.length_cons, List.length_nil, List.map_cons, List.map_nil, List.replicate, List.cons_append, List.nil_append, List.getElem?_cons_zero, List.getElem?_cons_succ, List.set_cons_zero, List.set_cons_succ, Nat.reduceAdd, Nat.reduceSub, Nat.reduceEqDiff, List.all_cons, List.all_nil, Option.isNone, Option.map_some, Option.map_none, Bool.and_self, Bool.and_true, Bool.true_and, Bool.and_false, Bool.false_and, Bool.or_true, Bool.true_or, Bool.or_false, Bool.false_or, Bool.or_self, Bool.not_true, Bool.not_false, if_true, if_false, reduceIte, Bool.false_eq_true, decide_true, decide_false, ite_true, ite_false, tD, sd, hd, z, pt, ih]
theorem e_plainX (M : Mir) (hM : AX M) (b : Bool) (ts : T0) (f : Dt) (h : ts.length ≤ 100) (nd : (ts.map Prod.snd).Nodup) : M.next.f_plain_game [TL b ts, f] = some (gam ts f) := by
  have e := plain_loop M hM b ts h nd (.fz f) ts [] rfl
  have e0 : sgD [] = [] := rfl
  have e1 : tn ts = .tuple (ts.map tD) := rfl
  have e2 : tl ts = .list (ts.map tD) := rfl
  unfold gam
  rw [e0] at e
  cases b with
  | true =>
    unfold TL at e ⊢
    simp only [if_true, e1, e2] at e ⊢
    simp (decide := true) only [b_plain_game, Mir.next, dPure, dIo, endI, args0, argsI, fSeq, fIf, fSet, fSetN, fRet, fRetN, fDrop, fSkip, fAsg, fPar, xMk, fBool, fTruth, truth, fNot, fAnd, fOr, fBin, fUn, fVar, vE, eV, fzr, fC, rd, fCallP, fCallI, fCons, fNil, rCons, rNil, fCall, rds, g1, fTup, fLst, vNot, vAnd, vOr, vIf, heldAt, heldL, PL.putAt, Sl.held, Sl.put, fMut, mApp, gN, gTn, gsCons, gsNil, gPut, putD, aSeq, seqD, fYes, okW, wipeA, backA, fFor, fLc, fDc, fSc, fSortSet, gIsi, isK, gLen, gIntT, gTuple, gList, gDict, hdK_nil, hdK_i, hdK_s, dKey, gIs, gIsNot, isD, gEq_str, gNe_str, gEq_int, gNe_int, gEq_bool, gNe_bool, gIx_t0, gIx_t1, gIx_t2, gIx_l0, gIx_l1, gIx_l2, gIn2, gInL2, List.length_cons, List.length_nil, List.map_cons, List.map_nil, List.replicate, List.cons_append, List.nil_append, List.getElem?_cons_zero, List.getElem?_cons_succ, List.set_cons_zero, List.set_cons_succ, Nat.reduceAdd, Nat.reduceSub, Nat.reduceEqDiff, List.all_cons, List.all_nil, Option.isNone, Option.map_some, Option.map_none, Bool.and_self, Bool.and_true, Bool.true_and, Bool.and_false, Bool.false_and, Bool.or_true, Bool.true_or, Bool.or_false, Bool.false_or, Bool.or_self, Bool.not_true, Bool.not_false, if_true, if_false, reduceIte, Bool.false_eq_true, decide_true, decide_false, ite_true, ite_false, e]
  | false =>
    unfold TL at e ⊢
    simp only [Bool.false_eq_true, if_false, e1, e2] at e ⊢
    simp (decide := true) only [b_plain_game, Mir.next, dPure, dIo, endI, args0, argsI, fSeq, fIf, fSet, fSetN, fRet, fRetN, fDrop, fSkip, fAsg, fPar, xMk, fBool, fTruth, truth, fNot, fAnd, fOr, fBin, fUn, fVar, vE, eV, fzr, fC, rd, fCallP, fCallI, fCons, fNil, rCons, rNil, fCall, rds, g1, fTup, fLst, vNot, vAnd, vOr, vIf, heldAt, heldL, PL.putAt, Sl.held, Sl.put, fMut, mApp, gN, gTn, gsCons, gsNil, gPut, putD, aSeq, seqD, fYes, okW, wipeA, backA, fFor, fLc, fDc, fSc, fSortSet, gIsi, isK, gLen, gIntT, gTuple, gList, gDict, hdK_nil, hdK_i, hdK_s, dKey, gIs, gIsNot, isD, gEq_str, gNe_str, gEq_int, gNe_int, gEq_bool, gNe_bool, gIx_t0, gIx_t1, gIx_t2, gIx_l0, gIx_l1, gIx_l2, gIn2, gInL2, List.length_cons, List.length_nil, List.map_cons, List.map_nil, List.replicate, List.cons_append, List.nil_append, List.getElem?_cons_zero, List.getElem?_cons_succ, List.set_cons_zero, List.set_cons_succ, Nat.reduceAdd, Nat.reduceSub, Nat.reduceEqDiff, List.all_cons, List.all_nil, Option.isNone, Option.map_some, Option.map_none, Bool.and_self, Bool.and_true, Bool.true_and, Bool.and_false, Bool.false_and, Bool.or_true, Bool.true_or, Bool.or_false, Bool.false_or, Bool.or_self, Bool.not_true, Bool.not_false, if_true, if_false, reduceIte, Bool.false_eq_true, decide_true, decide_false, ite_true, ite_false, e]
def lpB : FS := (fIf (fBool (fBin gEq (fVar 4) (vE (fC (.str "some"))))) (fAsg (fCall (g1 gTuple) (rCons (vE (fCall (g1 gSort) (rCons (fVar 3) rNil))) rNil)) (gPut 2 (eV (fVar 5)))) (fDrop (fApp 3 (eV (fVar 5)))))
theorem e_law_plain (M : Mir) (ts : T0) (f : Dt) (h : ts.length ≤ 100) (nd : (ts.map Prod.snd).Nodup) : M.next.f__law_plain [tl ts, f] = some (gam ts f) := by
  have big : (1000 : Nat) < sizeLine := by decide
  obtain ⟨st, ⟨s3, s4, s5, e1⟩, h2⟩ := loopF_inv (g := gTn 2 (gsCons (gN 4) (gsCons (gN 5) gsNil))) (body := lpB) tD
    (fun r st => ∃ (pre : T0) (s4 s5 : Sl), st = [.fz (tl ts), .fz f, .ow (.dict (sgD pre)), .ow (txts (alls pre)), s4, s5] ∧ pre ++ r = ts)
    (fun st => ∃ s3 s4 s5, st = [.fz (tl ts), .fz f, .ow (.dict (sgD ts)), s3, s4, s5])
    (fun st ⟨pre, s4, s5, e1, e2⟩ => ⟨.ow (txts (alls pre)), s4, s5, by
      rw [List.append_nil] at e2
      rw [e1, e2]⟩)
    (fun t r st ⟨pre, s4, s5, e1, e2⟩ => by
      subst e1
      obtain ⟨c, y⟩ := t
      have ny : y ∉ pre.map Prod.snd := fun z => by
        rw [← e2, List.map_append, List.nodup_append] at nd
        exact nd.2.2 _ z _ List.mem_cons_self rfl
      have pl : pre.length ≤ ts.length := by rw [← e2, List.length_append]; omega
      have al : (alls pre).length ≤ pre.length := by have := (alls_sub pre).length_le; rw [List.length_map] at this; exact this
      have e2' : (pre ++ [(c, y)]) ++ r = ts := by rw [List.append_assoc]; exact e2
      have e0 : ∀ xs : List Str, txts xs = .list (xs.map PyData.str) := fun _ => rfl
      refine ⟨[.fz (tl ts), .fz f, .ow (.dict (sgD pre)), .ow (txts (alls pre)), .fz (.str (sd c)), .fz (.str y)], [.fz (tl ts), .fz f, .ow (.dict (sgD (pre ++ [(c, y)]))), .ow (txts (alls (pre ++ [(c, y)]))), .fz (.str (sd c)), .fz (.str y)], rfl, ?_, pre ++ [(c, y)], _, _, rfl, e2'⟩
      cases c with
      | true =>
        have z : (sgD pre).length < sizeLine := by
          have a1 := sgt_len pre []
          unfold sgD
          rw [List.length_map]
          omega
        have pt := put_sgD pre y ny
        have hk := hdK_sg pre
        have so := sortOk_strs (alls pre)
        rw [alls_app, show alls [(true, y)] = [] from rfl, List.append_nil]
        rw [e0]
        unfold lpB
        simp (decide := true) only [Mir.next, dPure, dIo, endI, args0, argsI, fSeq, fIf, fSet, fSetN, fRet, fRetN, fDrop, fSkip, fAsg, fPar, xMk, fBool, fTruth, truth, fNot, fAnd, fOr, fBin, fUn, fVar, vE, eV, fzr, fC, rd, fCallP, fCallI, fCons, fNil, rCons, rNil, fCall, rds, g1, fTup, fLst, vNot, vAnd, vOr, vIf, heldAt, heldL, PL.putAt, Sl.held, Sl.put, fMut, mApp, gN, gTn, gsCons, gsNil, gPut, putD, aSeq, seqD, fYes, okW, wipeA, backA, fFor, fLc, fDc, fSc, fSortSet, gIsi, isK, gLen, gIntT, gTuple, gList, gDict, hdK_nil, hdK_i, hdK_s, dKey, gIs, gIsNot, isD, gEq_str, gNe_str, gEq_int, gNe_int, gEq_bool, gNe_bool, gIx_t0, gIx_t1, gIx_t2, gIx_l0, gIx_l1, gIx_l2, gIn2, gInL2, List.length_cons, List.length_nil, List.map_cons, List.map_nil, List.replicate, List.cons_append, List.nil_append, List.getElem?_cons_zero, List.getElem?_cons_succ, List.set_cons_zero, List.set_cons_succ, Nat.reduceAdd, Nat.reduceSub, Nat.reduceEqDiff, List.all_cons, List.all_nil, Option.isNone, Option.map_some, Option.map_none, Bool.and_self, Bool.and_true, Bool.true_and, Bool.and_false, Bool.false_and, Bool.or_true, Bool.true_or, Bool.or_false, Bool.false_or, Bool.or_self, Bool.not_true, Bool.not_false, if_true, if_false, reduceIte, Bool.false_eq_true, decide_true, decide_false, ite_true, ite_false, sd, gSort, so, hk, z, pt]
      | false =>
        rw [sgD_all, alls_app, show alls [(false, y)] = [y] from rfl, e0, e0, List.map_append]
        have z : ((alls pre).map PyData.str).length < sizeLine := by rw [List.length_map]; omega
        unfold lpB
        simp (decide := true) only [Mir.next, dPure, dIo, endI, args0, argsI, fSeq, fIf, fSet, fSetN, fRet, fRetN, fDrop, fSkip, fAsg, fPar, xMk, fBool, fTruth, truth, fNot, fAnd, fOr, fBin, fUn, fVar, vE, eV, fzr, fC, rd, fCallP, fCallI, fCons, fNil, rCons, rNil, fCall, rds, g1, fTup, fLst, vNot, vAnd, vOr, vIf, heldAt, heldL, PL.putAt, Sl.held, Sl.put, fMut, mApp, gN, gTn, gsCons, gsNil, gPut, putD, aSeq, seqD, fYes, okW, wipeA, backA, fFor, fLc, fDc, fSc, fSortSet, gIsi, isK, gLen, gIntT, gTuple, gList, gDict, hdK_nil, hdK_i, hdK_s, dKey, gIs, gIsNot, isD, gEq_str, gNe_str, gEq_int, gNe_int, gEq_bool, gNe_bool, gIx_t0, gIx_t1, gIx_t2, gIx_l0, gIx_l1, gIx_l2, gIn2, gInL2, List.length_cons, List.length_nil, List.map_cons, List.map_nil, List.replicate, List.cons_append, List.nil_append, List.getElem?_cons_zero, List.getElem?_cons_succ, List.set_cons_zero, List.set_cons_succ, Nat.reduceAdd, Nat.reduceSub, Nat.reduceEqDiff, List.all_cons, List.all_nil, Option.isNone, Option.map_some, Option.map_none, Bool.and_self, Bool.and_true, Bool.true_and, Bool.and_false, Bool.false_and, Bool.or_true, Bool.true_or, Bool.or_false, Bool.false_or, Bool.or_self, Bool.not_true, Bool.not_false, if_true, if_false, reduceIte, Bool.false_eq_true, decide_true, decide_false, ite_true, ite_false, sd, z])
    ts [.fz (tl ts), .fz f, .ow (.dict []), .ow (.list []), .un, .un] ⟨[], _, _, rfl, rfl⟩
  subst e1
  show dPure 6 2 (fSeq (fPar 2 3 true true (fC (.dict [])) (fLst fNil)) (fSeq (fFor (aSeq (eV (fVar 0))) (gTn 2 (gsCons (gN 4) (gsCons (gN 5) gsNil))) lpB) (fRet (fTup (fCons (fCall (g1 gTuple) (rCons (fVar 0) rNil)) (fCons (eV (fVar 2)) (fCons (eV (fVar 1)) fNil))))))) [tl ts, f] = _
  have e0 : tl ts = .list (ts.map tD) := rfl
  have e1 : tn ts = .tuple (ts.map tD) := rfl
  unfold gam
  rw [e0] at h2 ⊢
  rw [e1]
  simp (decide := true) only [Mir.next, dPure, dIo, endI, args0, argsI, fSeq, fIf, fSet, fSetN, fRet, fRetN, fDrop, fSkip, fAsg, fPar, xMk, fBool, fTruth, truth, fNot, fAnd, fOr, fBin, fUn, fVar, vE, eV, fzr, fC, rd, fCallP, fCallI, fCons, fNil, rCons, rNil, fCall, rds, g1, fTup, fLst, vNot, vAnd, vOr, vIf, heldAt, heldL, PL.putAt, Sl.held, Sl.put, fMut, mApp, gN, gTn, gsCons, gsNil, gPut, putD, aSeq, seqD, fYes, okW, wipeA, backA, fFor, fLc, fDc, fSc, fSortSet, gIsi, isK, gLen, gIntT, gTuple, gList, gDict, hdK_nil, hdK_i, hdK_s, dKey, gIs, gIsNot, isD, gEq_str, gNe_str, gEq_int, gNe_int, gEq_bool, gNe_bool, gIx_t0, gIx_t1, gIx_t2, gIx_l0, gIx_l1, gIx_l2, gIn2, gInL2, List.length_cons, List.length_nil, List.map_cons, List.map_nil, List.replicate, List.cons_append, List.nil_append, List.getElem?_cons_zero, List.getElem?_cons_succ, List.set_cons_zero, List.set_cons_succ, Nat.reduceAdd, Nat.reduceSub, Nat.reduceEqDiff, List.all_cons, List.all_nil, Option.isNone, Option.map_some, Option.map_none, Bool.and_self, Bool.and_true, Bool.true_and, Bool.and_false, Bool.false_and, Bool.or_true, Bool.true_or, Bool.or_false, Bool.false_or, Bool.or_self, Bool.not_true, Bool.not_false, if_true, if_false, reduceIte, Bool.false_eq_true, decide_true, decide_false, ite_true, ite_false, fPar, xMk, h2]
end K11
namespace K11
open PySem PySem.Spec PyProof.Rows L2 PL
/-! ### whose letter it is -/
def sdD (ts : T0) : List (Dt × Dt) := ts.map fun t => (PyData.str t.2, PyData.str (sd t.1))
def sid : T0 → Str → Bool
  | [], _ => false
  | t :: r, x => if t.2 = x then t.1 else sid r x
theorem hdK_sd (ts : T0) : hdK (sdD ts) = true := hdK_str (fun t : Bool × Str => t.2) (fun t => PyData.str (sd t.1)) ts
theorem ix_sd (x : Str) : ∀ ts : T0, x ∈ ts.map Prod.snd → gIx (.dict (sdD ts)) (.str x) = some (.str (sd (sid ts x)))
  | [], h => nomatch h
  | t :: r, h => by
    show look (.str x) ((PyData.str t.2, PyData.str (sd t.1)) :: sdD r) = _
    unfold look sid
    dsimp only [dKey]
    by_cases q : t.2 = x
    · subst q
      rw [if_pos rfl, if_pos rfl]
    · rw [if_neg q, if_neg fun z => q (Sum.inr.inj z)]
      rw [List.map_cons, List.mem_cons] at h
      exact ix_sd x r (h.elim (fun z => absurd z.symm q) id)
theorem put_sd (pre : T0) (t : Bool × Str) (h : t.2 ∉ pre.map Prod.snd) : putKs (.str t.2) (.str (sd t.1)) (sdD pre) = sdD (pre ++ [t]) := by
  have e := putKs_end t.2 (.str (sd t.1)) (fun p : Bool × Str => p.2) (fun p => PyData.str (sd p.1)) pre h
  refine e.trans ?_
  unfold sdD
  rw [List.map_append]
  rfl
theorem keys_sd (ts : T0) : (sdD ts).map Prod.fst = (ts.map Prod.snd).map PyData.str := by
  unfold sdD
  rw [List.map_map, List.map_map]
  rfl
theorem sdc_loop (all : T0) (ha : all.length ≤ 100) (nd : (all.map Prod.snd).Nodup) (G s1 s2 s5 s6 : Sl) : ∀ (r pre : T0), pre ++ r = all →
    loopK (gTn 2 (gsCons (gN 4) (gsCons (gN 3) gsNil))) fYes (eV (fVar 3)) (eV (fVar 4)) [4, 3] (r.map tD) [G, s1, s2, .un, .un, s5, s6] (sdD pre) = some (sdD all, [G, s1, s2, .un, .un, s5, s6])
  | [], pre, e => by
    rw [List.append_nil] at e
    rw [e]
    rfl
  | (c, y) :: r, pre, e => by
    have big : (1000 : Nat) < sizeLine := by decide
    have ny : y ∉ pre.map Prod.snd := fun z => by
      rw [← e, List.map_append, List.nodup_append] at nd
      exact nd.2.2 _ z _ List.mem_cons_self rfl
    have ih := sdc_loop all ha nd G s1 s2 s5 s6 r (pre ++ [(c, y)]) (by rw [List.append_assoc]; exact e)
    have z : (sdD pre).length < sizeLine := by
      have a2 : pre.length ≤ all.length := by rw [← e, List.length_append]; omega
      unfold sdD
      rw [List.length_map]
      omega
    have pt := put_sd pre (c, y) ny
    dsimp only at pt
    rw [List.map_cons]
    simp (decide := true) only [loopK, Mir.next, dPure, dIo, endI, args0, argsI, fSeq, fIf, fSet, fSetN, fRet, fRetN, fDrop, fSkip, fAsg, fPar, xMk, fBool, fTruth, truth, fNot, fAnd, fOr, fBin, fUn, fVar, vE, eV, fzr, fC, rd, fCallP, fCallI, fCons, fNil, rCons, rNil, fCall, rds, g1, fTup, fLst, vNot, vAnd, vOr, vIf, heldAt, heldL, PL.putAt, Sl.held, Sl.put, fMut, mApp, gN, gTn, gsCons, gsNil, gPut, putD, aSeq, seqD, fYes, okW, wipeA, backA, fFor, fLc, fDc, fSc, fSortSet, gIsi, isK, gLen, gIntT, gTuple, gList, gDict, hdK_nil, hdK_i, hdK_s, dKey, gIs, gIsNot, isD, gEq_str, gNe_str, gEq_int, gNe_int, gEq_bool, gNe_bool, gIx_t0, gIx_t1, gIx_t2, gIx_l0, gIx_l1, gIx_l2, gIn2, gInL2, List.length_cons, List.length_nil, List.map_cons, List.map_nil, List.replicate, List.cons_append, List.nil_append, List.getElem?_cons_zero, List.getElem?_cons_succ, List.set_cons_zero, List.set_cons_succ, Nat.reduceAdd, Nat.reduceSub, Nat.reduceEqDiff, List.all_cons, List.all_nil, Option.isNone, Option.map_some, Option.map_none, Bool.and_self, Bool.and_true, Bool.true_and, Bool.and_false, Bool.false_and, Bool.or_true, Bool.true_or, Bool.or_false, Bool.false_or, Bool.or_self, Bool.not_true, Bool.not_false, if_true, if_false, reduceIte, Bool.false_eq_true, decide_true, decide_false, ite_true, ite_false, tD, z, pt, ih]
theorem sdf_loop (all : T0) (ha : all.length ≤ 100) (nd : (all.map Prod.snd).Nodup) (G s1 s2 s3 s5 s7 : Sl) : ∀ (r pre : T0), pre ++ r = all →
    loopK (gTn 2 (gsCons (gN 4) (gsCons (gN 6) gsNil))) fYes (eV (fVar 6)) (eV (fVar 4)) [4, 6] (r.map tD) [G, s1, s2, s3, .un, s5, .un, s7] (sdD pre) = some (sdD all, [G, s1, s2, s3, .un, s5, .un, s7])
  | [], pre, e => by
    rw [List.append_nil] at e
    rw [e]
    rfl
  | (c, y) :: r, pre, e => by
    have big : (1000 : Nat) < sizeLine := by decide
    have ny : y ∉ pre.map Prod.snd := fun z => by
      rw [← e, List.map_append, List.nodup_append] at nd
      exact nd.2.2 _ z _ List.mem_cons_self rfl
    have ih := sdf_loop all ha nd G s1 s2 s3 s5 s7 r (pre ++ [(c, y)]) (by rw [List.append_assoc]; exact e)
    have z : (sdD pre).length < sizeLine := by
      have a2 : pre.length ≤ all.length := by rw [← e, List.length_append]; omega
      unfold sdD
      rw [List.length_map]
      omega
    have pt := put_sd pre (c, y) ny
    dsimp only at pt
    rw [List.map_cons]
    simp (decide := true) only [loopK, Mir.next, dPure, dIo, endI, args0, argsI, fSeq, fIf, fSet, fSetN, fRet, fRetN, fDrop, fSkip, fAsg, fPar, xMk, fBool, fTruth, truth, fNot, fAnd, fOr, fBin, fUn, fVar, vE, eV, fzr, fC, rd, fCallP, fCallI, fCons, fNil, rCons, rNil, fCall, rds, g1, fTup, fLst, vNot, vAnd, vOr, vIf, heldAt, heldL, PL.putAt, Sl.held, Sl.put, fMut, mApp, gN, gTn, gsCons, gsNil, gPut, putD, aSeq, seqD, fYes, okW, wipeA, backA, fFor, fLc, fDc, fSc, fSortSet, gIsi, isK, gLen, gIntT, gTuple, gList, gDict, hdK_nil, hdK_i, hdK_s, dKey, gIs, gIsNot, isD, gEq_str, gNe_str, gEq_int, gNe_int, gEq_bool, gNe_bool, gIx_t0, gIx_t1, gIx_t2, gIx_l0, gIx_l1, gIx_l2, gIn2, gInL2, List.length_cons, List.length_nil, List.map_cons, List.map_nil, List.replicate, List.cons_append, List.nil_append, List.getElem?_cons_zero, List.getElem?_cons_succ, List.set_cons_zero, List.set_cons_succ, Nat.reduceAdd, Nat.reduceSub, Nat.reduceEqDiff, List.all_cons, List.all_nil, Option.isNone, Option.map_some, Option.map_none, Bool.and_self, Bool.and_true, Bool.true_and, Bool.and_false, Bool.false_and, Bool.or_true, Bool.true_or, Bool.or_false, Bool.false_or, Bool.or_self, Bool.not_true, Bool.not_false, if_true, if_false, reduceIte, Bool.false_eq_true, decide_true, decide_false, ite_true, ite_false, tD, z, pt, ih]
/-! ### all orders -/
theorem notIn_tpl (x : Str) (o : List Str) : gNotIn (.str x) (tpl o) = some (.bool (!decide (x ∈ o))) := by
  have h := inD_strs x o trivial
  unfold gIn at h
  unfold gNotIn tpl
  cases q : inD (.str x) (.tuple (o.map PyData.str)) with
  | none => rw [q] at h; cases h
  | some b =>
    rw [q] at h
    have e : b = decide (x ∈ o) := by
      have := Option.some.inj h
      injection this
    rw [e]
    rfl
theorem iter_row (xs : List Str) : ∀ (n : Nat), ∀ o ∈ iterP xs n, o.length = n
  | 0, o, h => by rw [List.mem_singleton.mp h]; rfl
  | n + 1, o, h => by
    obtain ⟨p, hp, ho⟩ := List.mem_flatMap.mp h
    obtain ⟨x, _, rfl⟩ := List.mem_map.mp ho
    rw [List.length_append, iter_row xs n p hp]
    rfl
theorem iter_len (xs : List Str) (h : xs.length ≤ 6) : ∀ n : Nat, (iterP xs n).length ≤ 6 ^ n
  | 0 => Nat.le_refl _
  | n + 1 => by
    have b := fm_len (ss := iterP xs n) (f := fun o => (xs.filter fun x => !decide (x ∈ o)).map fun x => o ++ [x]) (B := 6) fun o _ => by
      rw [List.length_map]
      exact Nat.le_trans (List.length_filter_le _ _) h
    rw [Nat.pow_succ]
    exact Nat.le_trans b (Nat.mul_le_mul_right _ (iter_len xs h n))
def aoE (os : List (List Str)) (o : Sl) : Prop := o = .fz (ordD os) ∨ o = .ow (ordD os)
theorem ao_inner (xs : List Str) (so : SO xs) (h6 : xs.length ≤ 6) (ts : T0) (p : (ts.map Prod.snd).Perm xs) (G s2 s3 : Sl) (n : Nat) (hn : n ≤ 10) : ∀ (os : List (List Str)) (acc : List D), (∀ o ∈ os, o.length = n) → acc.length + os.length * 6 ≤ 100000 →
    loopC2 (gN 5) fYes (aSeq (fCall (g1 gSort) (rCons (fVar 1) rNil))) (gN 6) (fBool (fBin gNotIn (fVar 6) (fVar 5))) (fBin gAdd (fVar 5) (vE (fTup (fCons (eV (fVar 6)) fNil)))) [5, 6] [6] (os.map tpl) [G, .fz (.dict (sdD ts)), s2, s3, .un, .un, .un] acc
      = some (acc ++ (extP xs os).map tpl, [G, .fz (.dict (sdD ts)), s2, s3, .un, .un, .un])
  | [], acc, _, _ => by
    show some (acc, _) = some (acc ++ [], _)
    rw [List.append_nil]
  | o :: os, acc, hr, hl => by
    rw [List.length_cons] at hl
    have big : (100000 : Nat) < sizeLine := by decide
    have lo := hr o List.mem_cons_self
    have so1 : sortOk ((ts.map Prod.snd).map PyData.str) = true := sortOk_strs _
    have gs := gSort_perm so p
    have hk := hdK_sd ts
    have ks := keys_sd ts
    have c1 := loopC_pure (g := gN 6) (tt := fBool (fBin gNotIn (fVar 6) (fVar 5))) (te := fBin gAdd (fVar 5) (vE (fTup (fCons (eV (fVar 6)) fNil)))) (vs := [6]) (st := [G, .fz (.dict (sdD ts)), s2, s3, .un, .fz (tpl o), .un]) (fun x => if (!decide (x ∈ o)) = true then some (tpl (o ++ [x])) else none) PyData.str xs acc
      (fun x hx => by
        refine ⟨[G, .fz (.dict (sdD ts)), s2, s3, .un, .fz (tpl o), .fz (.str x)], rfl, ?_⟩
        have q := notIn_tpl x o
        have z : (o.map PyData.str).length + [PyData.str x].length ≤ sizeLine := by rw [List.length_map]; show _ + 1 ≤ _; omega
        have ad : gAdd (tpl o) (.tuple [.str x]) = some (tpl (o ++ [x])) := by
          show (if (o.map PyData.str).length + [PyData.str x].length ≤ sizeLine then some (PyData.tuple (o.map PyData.str ++ [.str x])) else none) = _
          rw [if_pos z]
          unfold tpl
          rw [List.map_append]
          rfl
        cases w : decide (x ∈ o) with
        | true =>
          rw [w] at q
          exact .inl ⟨[G, .fz (.dict (sdD ts)), s2, s3, .un, .fz (tpl o), .fz (.str x)], by simp (decide := true) only [Mir.next, dPure, dIo, endI, args0, argsI, fSeq, fIf, fSet, fSetN, fRet, fRetN, fDrop, fSkip, fAsg, fPar, xMk, fBool, fTruth, truth, fNot, fAnd, fOr, fBin, fUn, fVar, vE, eV, fzr, fC, rd, fCallP, fCallI, fCons, fNil, rCons, rNil, fCall, rds, g1, fTup, fLst, vNot, vAnd, vOr, vIf, heldAt, heldL, PL.putAt, Sl.held, Sl.put, fMut, mApp, gN, gTn, gsCons, gsNil, gPut, putD, aSeq, seqD, fYes, okW, wipeA, backA, fFor, fLc, fDc, fSc, fSortSet, gIsi, isK, gLen, gIntT, gTuple, gList, gDict, hdK_nil, hdK_i, hdK_s, dKey, gIs, gIsNot, isD, gEq_str, gNe_str, gEq_int, gNe_int, gEq_bool, gNe_bool, gIx_t0, gIx_t1, gIx_t2, gIx_l0, gIx_l1, gIx_l2, gIn2, gInL2, List.length_cons, List.length_nil, List.map_cons, List.map_nil, List.replicate, List.cons_append, List.nil_append, List.getElem?_cons_zero, List.getElem?_cons_succ, List.set_cons_zero, List.set_cons_succ, Nat.reduceAdd, Nat.reduceSub, Nat.reduceEqDiff, List.all_cons, List.all_nil, Option.isNone, Option.map_some, Option.map_none, Bool.and_self, Bool.and_true, Bool.true_and, Bool.and_false, Bool.false_and, Bool.or_true, Bool.true_or, Bool.or_false, Bool.false_or, Bool.or_self, Bool.not_true, Bool.not_false, if_true, if_false, reduceIte, Bool.false_eq_true, decide_true, decide_false, ite_true, ite_false, q], rfl, rfl⟩
        | false =>
          rw [w] at q
          exact .inr ⟨[G, .fz (.dict (sdD ts)), s2, s3, .un, .fz (tpl o), .fz (.str x)], _, [G, .fz (.dict (sdD ts)), s2, s3, .un, .fz (tpl o), .fz (.str x)], by simp (decide := true) only [Mir.next, dPure, dIo, endI, args0, argsI, fSeq, fIf, fSet, fSetN, fRet, fRetN, fDrop, fSkip, fAsg, fPar, xMk, fBool, fTruth, truth, fNot, fAnd, fOr, fBin, fUn, fVar, vE, eV, fzr, fC, rd, fCallP, fCallI, fCons, fNil, rCons, rNil, fCall, rds, g1, fTup, fLst, vNot, vAnd, vOr, vIf, heldAt, heldL, PL.putAt, Sl.held, Sl.put, fMut, mApp, gN, gTn, gsCons, gsNil, gPut, putD, aSeq, seqD, fYes, okW, wipeA, backA, fFor, fLc, fDc, fSc, fSortSet, gIsi, isK, gLen, gIntT, gTuple, gList, gDict, hdK_nil, hdK_i, hdK_s, dKey, gIs, gIsNot, isD, gEq_str, gNe_str, gEq_int, gNe_int, gEq_bool, gNe_bool, gIx_t0, gIx_t1, gIx_t2, gIx_l0, gIx_l1, gIx_l2, gIn2, gInL2, List.length_cons, List.length_nil, List.map_cons, List.map_nil, List.replicate, List.cons_append, List.nil_append, List.getElem?_cons_zero, List.getElem?_cons_succ, List.set_cons_zero, List.set_cons_succ, Nat.reduceAdd, Nat.reduceSub, Nat.reduceEqDiff, List.all_cons, List.all_nil, Option.isNone, Option.map_some, Option.map_none, Bool.and_self, Bool.and_true, Bool.true_and, Bool.and_false, Bool.false_and, Bool.or_true, Bool.true_or, Bool.or_false, Bool.false_or, Bool.or_self, Bool.not_true, Bool.not_false, if_true, if_false, reduceIte, Bool.false_eq_true, decide_true, decide_false, ite_true, ite_false, q], by simp (decide := true) only [Mir.next, dPure, dIo, endI, args0, argsI, fSeq, fIf, fSet, fSetN, fRet, fRetN, fDrop, fSkip, fAsg, fPar, xMk, fBool, fTruth, truth, fNot, fAnd, fOr, fBin, fUn, fVar, vE, eV, fzr, fC, rd, fCallP, fCallI, fCons, fNil, rCons, rNil, fCall, rds, g1, fTup, fLst, vNot, vAnd, vOr, vIf, heldAt, heldL, PL.putAt, Sl.held, Sl.put, fMut, mApp, gN, gTn, gsCons, gsNil, gPut, putD, aSeq, seqD, fYes, okW, wipeA, backA, fFor, fLc, fDc, fSc, fSortSet, gIsi, isK, gLen, gIntT, gTuple, gList, gDict, hdK_nil, hdK_i, hdK_s, dKey, gIs, gIsNot, isD, gEq_str, gNe_str, gEq_int, gNe_int, gEq_bool, gNe_bool, gIx_t0, gIx_t1, gIx_t2, gIx_l0, gIx_l1, gIx_l2, gIn2, gInL2, List.length_cons, List.length_nil, List.map_cons, List.map_nil, List.replicate, List.cons_append, List.nil_append, List.getElem?_cons_zero, List.getElem?_cons_succ, List.set_cons_zero, List.set_cons_succ, Nat.reduceAdd, Nat.reduceSub, Nat.reduceEqDiff, List.all_cons, List.all_nil, Option.isNone, Option.map_some, Option.map_none, Bool.and_self, Bool.and_true, Bool.true_and, Bool.and_false, Bool.false_and, Bool.or_true, Bool.true_or, Bool.or_false, Bool.false_or, Bool.or_self, Bool.not_true, Bool.not_false, if_true, if_false, reduceIte, Bool.false_eq_true, decide_true, decide_false, ite_true, ite_false, ad], rfl, rfl⟩) (by omega)
    rw [fm_filter] at c1
    have fl : (xs.filter fun x => !decide (x ∈ o)).length ≤ 6 := Nat.le_trans (List.length_filter_le _ _) h6
    have ih := ao_inner xs so h6 ts p G s2 s3 n hn os (acc ++ (xs.filter fun x => !decide (x ∈ o)).map fun x => tpl (o ++ [x])) (fun q hq => hr q (List.mem_cons_of_mem _ hq)) (by rw [List.length_append, List.length_map]; omega)
    have ee : extP xs (o :: os) = ((xs.filter fun x => !decide (x ∈ o)).map fun x => o ++ [x]) ++ extP xs os := by
      unfold extP
      rw [List.flatMap_cons]
    rw [ee, List.map_append, List.map_map, ← List.append_assoc]
    rw [List.map_cons]
    simp (decide := true) only [loopC2, Mir.next, dPure, dIo, endI, args0, argsI, fSeq, fIf, fSet, fSetN, fRet, fRetN, fDrop, fSkip, fAsg, fPar, xMk, fBool, fTruth, truth, fNot, fAnd, fOr, fBin, fUn, fVar, vE, eV, fzr, fC, rd, fCallP, fCallI, fCons, fNil, rCons, rNil, fCall, rds, g1, fTup, fLst, vNot, vAnd, vOr, vIf, heldAt, heldL, PL.putAt, Sl.held, Sl.put, fMut, mApp, gN, gTn, gsCons, gsNil, gPut, putD, aSeq, seqD, fYes, okW, wipeA, backA, fFor, fLc, fDc, fSc, fSortSet, gIsi, isK, gLen, gIntT, gTuple, gList, gDict, hdK_nil, hdK_i, hdK_s, dKey, gIs, gIsNot, isD, gEq_str, gNe_str, gEq_int, gNe_int, gEq_bool, gNe_bool, gIx_t0, gIx_t1, gIx_t2, gIx_l0, gIx_l1, gIx_l2, gIn2, gInL2, List.length_cons, List.length_nil, List.map_cons, List.map_nil, List.replicate, List.cons_append, List.nil_append, List.getElem?_cons_zero, List.getElem?_cons_succ, List.set_cons_zero, List.set_cons_succ, Nat.reduceAdd, Nat.reduceSub, Nat.reduceEqDiff, List.all_cons, List.all_nil, Option.isNone, Option.map_some, Option.map_none, Bool.and_self, Bool.and_true, Bool.true_and, Bool.and_false, Bool.false_and, Bool.or_true, Bool.true_or, Bool.or_false, Bool.false_or, Bool.or_self, Bool.not_true, Bool.not_false, if_true, if_false, reduceIte, Bool.false_eq_true, decide_true, decide_false, ite_true, ite_false, gSort, hk, ks, so1, gs, c1]
    exact ih
def aoB : FS := (fSetN 2 (fLc2 (aSeq (eV (fVar 2))) (gN 5) fYes (aSeq (fCall (g1 gSort) (rCons (fVar 1) rNil))) (gN 6) (fBool (fBin gNotIn (fVar 6) (fVar 5))) (fBin gAdd (fVar 5) (vE (fTup (fCons (eV (fVar 6)) fNil)))) [5, 6] [6]))
theorem ao_loop (xs : List Str) (so : SO xs) (h6 : xs.length ≤ 5) (ts : T0) (p : (ts.map Prod.snd).Perm xs) (G : Sl) : ∀ (ys : List Str) (n : Nat) (o s3 : Sl), n + ys.length ≤ 5 → aoE (iterP xs n) o →
    ∃ o' s3', aoE (iterP xs (n + ys.length)) o' ∧ loopF (gN 3) aoB (ys.map PyData.str) [G, .fz (.dict (sdD ts)), o, s3, .un, .un, .un] = some (.nx [G, .fz (.dict (sdD ts)), o', s3', .un, .un, .un])
  | [], n, o, s3, _, ho => ⟨o, s3, ho, rfl⟩
  | y :: ys, n, o, s3, hn, ho => by
    rw [List.length_cons] at hn
    have pw : (6 : Nat) ^ n ≤ 6 ^ 4 := Nat.pow_le_pow_right (by decide) (by omega)
    have p4 : (6 : Nat) ^ 4 = 1296 := rfl
    have il := iter_len xs (by omega) n
    have inner := ao_inner xs so (by omega) ts p G (.fz (ordD (iterP xs n))) (.fz (.str y)) n (by omega) (iterP xs n) [] (iter_row xs n) (by rw [List.length_nil]; omega)
    rw [List.nil_append] at inner
    obtain ⟨o', s3', h1, h2⟩ := ao_loop xs so h6 ts p G ys (n + 1) (.ow (ordD (iterP xs (n + 1)))) (.fz (.str y)) (by omega) (.inr rfl)
    refine ⟨o', s3', by rw [List.length_cons, show n + (ys.length + 1) = n + 1 + ys.length by omega]; exact h1, ?_⟩
    rw [List.map_cons]
    unfold loopF
    have e0 : ordD (iterP xs n) = .list ((iterP xs n).map tpl) := rfl
    have e1 : ordD (iterP xs (n + 1)) = .list ((extP xs (iterP xs n)).map tpl) := rfl
    unfold aoE at ho
    rw [e0] at ho inner
    rw [e1] at h2
    rcases ho with rfl | rfl <;> unfold aoB at h2 ⊢ <;> simp (decide := true) only [Mir.next, dPure, dIo, endI, args0, argsI, fSeq, fIf, fSet, fSetN, fRet, fRetN, fDrop, fSkip, fAsg, fPar, xMk, fBool, fTruth, truth, fNot, fAnd, fOr, fBin, fUn, fVar, vE, eV, fzr, fC, rd, fCallP, fCallI, fCons, fNil, rCons, rNil, fCall, rds, g1, fTup, fLst, vNot, vAnd, vOr, vIf, heldAt, heldL, PL.putAt, Sl.held, Sl.put, fMut, mApp, gN, gTn, gsCons, gsNil, gPut, putD, aSeq, seqD, fYes, okW, wipeA, backA, fFor, fLc, fDc, fSc, fSortSet, gIsi, isK, gLen, gIntT, gTuple, gList, gDict, hdK_nil, hdK_i, hdK_s, dKey, gIs, gIsNot, isD, gEq_str, gNe_str, gEq_int, gNe_int, gEq_bool, gNe_bool, gIx_t0, gIx_t1, gIx_t2, gIx_l0, gIx_l1, gIx_l2, gIn2, gInL2, List.length_cons, List.length_nil, List.map_cons, List.map_nil, List.replicate, List.cons_append, List.nil_append, List.getElem?_cons_zero, List.getElem?_cons_succ, List.set_cons_zero, List.set_cons_succ, Nat.reduceAdd, Nat.reduceSub, Nat.reduceEqDiff, List.all_cons, List.all_nil, Option.isNone, Option.map_some, Option.map_none, Bool.and_self, Bool.and_true, Bool.true_and, Bool.and_false, Bool.false_and, Bool.or_true, Bool.true_or, Bool.or_false, Bool.false_or, Bool.or_self, Bool.not_true, Bool.not_false, if_true, if_false, reduceIte, Bool.false_eq_true, decide_true, decide_false, ite_true, ite_false, fLc2, inner] <;> exact h2
def Wn (ts : T0) (f : Fm) (o : List Str) : Bool := gv (o.map fun x => (sid ts x, x)) f.ev e0
def dueD (xs : List Str) (ts : T0) (f : Fm) : Dt := .list ((ordsN xs.length xs).map fun o => .tuple [tpl o, .str (sd (Wn ts f o))])
def PW (M : Mir) (xs : List Str) (f : Fm) : Prop := ∀ us : T0, (us.map Prod.snd).Perm xs → ∃ G, M.f_plain_game [tl us, f.d] = some G ∧ M.f_winner [G] = some (.str (sd (gv us f.ev e0)))
theorem turn_list (ts : T0) (o : List Str) (h : ∀ x ∈ o, x ∈ ts.map Prod.snd) (G s2 s3 s4 : Sl) (ho : o.length ≤ 100) :
    fLc (aSeq (eV (fVar 5))) (gN 6) fYes (fTup (fCons (fBin gIx (fVar 1) (fVar 6)) (fCons (eV (fVar 6)) fNil))) [6] [G, .fz (.dict (sdD ts)), s2, s3, s4, .fz (tpl o), .un] = some (tl (o.map fun x => (sid ts x, x)), [G, .fz (.dict (sdD ts)), s2, s3, s4, .fz (tpl o), .un]) := by
  have big : (1000 : Nat) < sizeLine := by decide
  have c1 := loopC_pure (g := gN 6) (tt := fYes) (te := fTup (fCons (fBin gIx (fVar 1) (fVar 6)) (fCons (eV (fVar 6)) fNil))) (vs := [6]) (st := [G, .fz (.dict (sdD ts)), s2, s3, s4, .fz (tpl o), .un]) (fun x => some (tD (sid ts x, x))) PyData.str o []
    (fun x hx => by
      have ix := ix_sd x ts (h x hx)
      refine ⟨[G, .fz (.dict (sdD ts)), s2, s3, s4, .fz (tpl o), .fz (.str x)], rfl, .inr ⟨[G, .fz (.dict (sdD ts)), s2, s3, s4, .fz (tpl o), .fz (.str x)], _, [G, .fz (.dict (sdD ts)), s2, s3, s4, .fz (tpl o), .fz (.str x)], rfl, ?_, rfl, rfl⟩⟩
      simp (decide := true) only [Mir.next, dPure, dIo, endI, args0, argsI, fSeq, fIf, fSet, fSetN, fRet, fRetN, fDrop, fSkip, fAsg, fPar, xMk, fBool, fTruth, truth, fNot, fAnd, fOr, fBin, fUn, fVar, vE, eV, fzr, fC, rd, fCallP, fCallI, fCons, fNil, rCons, rNil, fCall, rds, g1, fTup, fLst, vNot, vAnd, vOr, vIf, heldAt, heldL, PL.putAt, Sl.held, Sl.put, fMut, mApp, gN, gTn, gsCons, gsNil, gPut, putD, aSeq, seqD, fYes, okW, wipeA, backA, fFor, fLc, fDc, fSc, fSortSet, gIsi, isK, gLen, gIntT, gTuple, gList, gDict, hdK_nil, hdK_i, hdK_s, dKey, gIs, gIsNot, isD, gEq_str, gNe_str, gEq_int, gNe_int, gEq_bool, gNe_bool, gIx_t0, gIx_t1, gIx_t2, gIx_l0, gIx_l1, gIx_l2, gIn2, gInL2, List.length_cons, List.length_nil, List.map_cons, List.map_nil, List.replicate, List.cons_append, List.nil_append, List.getElem?_cons_zero, List.getElem?_cons_succ, List.set_cons_zero, List.set_cons_succ, Nat.reduceAdd, Nat.reduceSub, Nat.reduceEqDiff, List.all_cons, List.all_nil, Option.isNone, Option.map_some, Option.map_none, Bool.and_self, Bool.and_true, Bool.true_and, Bool.and_false, Bool.false_and, Bool.or_true, Bool.true_or, Bool.or_false, Bool.false_or, Bool.or_self, Bool.not_true, Bool.not_false, if_true, if_false, reduceIte, Bool.false_eq_true, decide_true, decide_false, ite_true, ite_false, ix, tD]) (by rw [List.length_nil]; omega)
  rw [fm_some, List.nil_append] at c1
  have e0 : tpl o = .tuple (o.map PyData.str) := rfl
  unfold tl
  rw [List.map_map]
  have e2 : (tD ∘ fun x => (sid ts x, x)) = fun x => tD (sid ts x, x) := rfl
  rw [e2]
  rw [e0] at c1 ⊢
  simp (decide := true) only [Mir.next, dPure, dIo, endI, args0, argsI, fSeq, fIf, fSet, fSetN, fRet, fRetN, fDrop, fSkip, fAsg, fPar, xMk, fBool, fTruth, truth, fNot, fAnd, fOr, fBin, fUn, fVar, vE, eV, fzr, fC, rd, fCallP, fCallI, fCons, fNil, rCons, rNil, fCall, rds, g1, fTup, fLst, vNot, vAnd, vOr, vIf, heldAt, heldL, PL.putAt, Sl.held, Sl.put, fMut, mApp, gN, gTn, gsCons, gsNil, gPut, putD, aSeq, seqD, fYes, okW, wipeA, backA, fFor, fLc, fDc, fSc, fSortSet, gIsi, isK, gLen, gIntT, gTuple, gList, gDict, hdK_nil, hdK_i, hdK_s, dKey, gIs, gIsNot, isD, gEq_str, gNe_str, gEq_int, gNe_int, gEq_bool, gNe_bool, gIx_t0, gIx_t1, gIx_t2, gIx_l0, gIx_l1, gIx_l2, gIn2, gInL2, List.length_cons, List.length_nil, List.map_cons, List.map_nil, List.replicate, List.cons_append, List.nil_append, List.getElem?_cons_zero, List.getElem?_cons_succ, List.set_cons_zero, List.set_cons_succ, Nat.reduceAdd, Nat.reduceSub, Nat.reduceEqDiff, List.all_cons, List.all_nil, Option.isNone, Option.map_some, Option.map_none, Bool.and_self, Bool.and_true, Bool.true_and, Bool.and_false, Bool.false_and, Bool.or_true, Bool.true_or, Bool.or_false, Bool.false_or, Bool.or_self, Bool.not_true, Bool.not_false, if_true, if_false, reduceIte, Bool.false_eq_true, decide_true, decide_false, ite_true, ite_false, c1]
theorem e_all_orders (M : Mir) (xs : List Str) (l : Lts xs) (ts : T0) (p : (ts.map Prod.snd).Perm xs) (f : Fm) (hP : PW M xs f) : M.next.f_all_orders [gam ts f.d] = some (dueD xs ts f) := by
  have big : (100000 : Nat) < sizeLine := by decide
  have h5 := lts_le l
  have lt : ts.length = xs.length := by have := p.length_eq; rw [List.length_map] at this; exact this
  have nd : (ts.map Prod.snd).Nodup := p.nodup_iff.mpr l.nd
  have d1 := sdc_loop ts (by omega) nd (.fz (gam ts f.d)) .un .un .un .un ts [] rfl
  have e0 : sdD [] = [] := rfl
  rw [e0] at d1
  obtain ⟨o', s3', h1, h2⟩ := ao_loop xs l.so h5 ts p (.fz (gam ts f.d)) (ts.map Prod.snd) 0 (.fz (ordD [[]])) .un (by rw [List.length_map]; omega) (.inl rfl)
  rw [Nat.zero_add, List.length_map, lt, l.it] at h1
  have hor := ords_le l
  have gs : sortD ((ordsN xs.length xs).map tpl) = (ordsN xs.length xs).map tpl := by
    unfold sortD
    exact List.mergeSort_of_pairwise l.st
  have ok := l.ok
  obtain ⟨st', hst, c2⟩ := loopC_rel (g := gN 5) (tt := fYes) (te := (fTup (fCons (eV (fVar 5)) (fCons (fCallP M.f_winner (fCons (fCallP M.f_plain_game (fCons (fLc (aSeq (eV (fVar 5))) (gN 6) fYes (fTup (fCons (fBin gIx (fVar 1) (fVar 6)) (fCons (eV (fVar 6)) fNil))) [6]) (fCons (fBin gIx (fVar 0) (vE (fC (.int 2)))) fNil))) fNil)) fNil)))) (vs := [5])
    (fun o => some (PyData.tuple [tpl o, .str (sd (Wn ts f o))])) tpl (fun st => st = [.fz (gam ts f.d), .fz (.dict (sdD ts)), o', s3', .un, .un, .un])
    (ordsN xs.length xs) [] [.fz (gam ts f.d), .fz (.dict (sdD ts)), o', s3', .un, .un, .un] rfl
    (fun o ho st e3 => by
      subst e3
      have po := ords_perm xs.length xs rfl l.nd o ho
      have pl := po.length_eq
      have tlf := turn_list ts o (fun x hx => p.mem_iff.mpr (po.mem_iff.mp hx)) (.fz (gam ts f.d)) o' s3' .un (by omega)
      obtain ⟨G, w1, w2⟩ := hP (o.map fun x => (sid ts x, x)) (by
        rw [List.map_map]
        have : (Prod.snd ∘ fun x => (sid ts x, x)) = id := rfl
        rw [this, List.map_id]
        exact po)
      refine ⟨[.fz (gam ts f.d), .fz (.dict (sdD ts)), o', s3', .un, .fz (tpl o), .un], rfl, .inr ⟨[.fz (gam ts f.d), .fz (.dict (sdD ts)), o', s3', .un, .fz (tpl o), .un], _, [.fz (gam ts f.d), .fz (.dict (sdD ts)), o', s3', .un, .fz (tpl o), .un], rfl, ?_, rfl, rfl⟩⟩
      unfold gam at tlf ⊢
      unfold Wn
      simp (decide := true) only [Mir.next, dPure, dIo, endI, args0, argsI, fSeq, fIf, fSet, fSetN, fRet, fRetN, fDrop, fSkip, fAsg, fPar, xMk, fBool, fTruth, truth, fNot, fAnd, fOr, fBin, fUn, fVar, vE, eV, fzr, fC, rd, fCallP, fCallI, fCons, fNil, rCons, rNil, fCall, rds, g1, fTup, fLst, vNot, vAnd, vOr, vIf, heldAt, heldL, PL.putAt, Sl.held, Sl.put, fMut, mApp, gN, gTn, gsCons, gsNil, gPut, putD, aSeq, seqD, fYes, okW, wipeA, backA, fFor, fDc, fSc, fSortSet, gIsi, isK, gLen, gIntT, gTuple, gList, gDict, hdK_nil, hdK_i, hdK_s, dKey, gIs, gIsNot, isD, gEq_str, gNe_str, gEq_int, gNe_int, gEq_bool, gNe_bool, gIx_t0, gIx_t1, gIx_t2, gIx_l0, gIx_l1, gIx_l2, gIn2, gInL2, List.length_cons, List.length_nil, List.map_cons, List.map_nil, List.replicate, List.cons_append, List.nil_append, List.getElem?_cons_zero, List.getElem?_cons_succ, List.set_cons_zero, List.set_cons_succ, Nat.reduceAdd, Nat.reduceSub, Nat.reduceEqDiff, List.all_cons, List.all_nil, Option.isNone, Option.map_some, Option.map_none, Bool.and_self, Bool.and_true, Bool.true_and, Bool.and_false, Bool.false_and, Bool.or_true, Bool.true_or, Bool.or_false, Bool.false_or, Bool.or_self, Bool.not_true, Bool.not_false, if_true, if_false, reduceIte, Bool.false_eq_true, decide_true, decide_false, ite_true, ite_false, tlf, w1, w2]) (by rw [List.length_nil]; omega)
  rw [fm_some, List.nil_append] at c2
  subst hst
  show dPure 7 1 (fSeq (fSet 1 (fDc (aSeq (fBin gIx (fVar 0) (vE (fC (.int 0))))) (gTn 2 (gsCons (gN 4) (gsCons (gN 3) gsNil))) fYes (eV (fVar 3)) (eV (fVar 4)) [4, 3])) (fSeq (fSet 2 (fLst (fCons (fTup fNil) fNil))) (fSeq (fFor (aSeq (eV (fVar 1))) (gN 3) aoB) (fRet (fLc (aSeq (fCall (g1 gSort) (rCons (fVar 2) rNil))) (gN 5) fYes (fTup (fCons (eV (fVar 5)) (fCons (fCallP M.f_winner (fCons (fCallP M.f_plain_game (fCons (fLc (aSeq (eV (fVar 5))) (gN 6) fYes (fTup (fCons (fBin gIx (fVar 1) (fVar 6)) (fCons (eV (fVar 6)) fNil))) [6]) (fCons (fBin gIx (fVar 0) (vE (fC (.int 2)))) fNil))) fNil)) fNil))) [5]))))) [gam ts f.d] = _
  have hk := hdK_sd ts
  have ks := keys_sd ts
  have o0 : ordD [[]] = .list [.tuple []] := rfl
  have e1 : tn ts = .tuple (ts.map tD) := rfl
  unfold aoE ordD at h1
  unfold gam at d1 h2 c2 ⊢
  rw [o0] at h2
  unfold dueD
  rw [e1] at d1 h2 c2 ⊢
  simp (decide := true) only [Mir.next, dPure, dIo, endI, args0, argsI, fSeq, fIf, fSet, fSetN, fRet, fRetN, fDrop, fSkip, fAsg, fPar, xMk, fBool, fTruth, truth, fNot, fAnd, fOr, fBin, fUn, fVar, vE, eV, fzr, fC, rd, fCallP, fCallI, fCons, fNil, rCons, rNil, fCall, rds, g1, fTup, fLst, vNot, vAnd, vOr, vIf, heldAt, heldL, PL.putAt, Sl.held, Sl.put, fMut, mApp, gN, gTn, gsCons, gsNil, gPut, putD, aSeq, seqD, fYes, okW, wipeA, backA, fFor, fDc, fSc, fSortSet, gIsi, isK, gLen, gIntT, gTuple, gList, gDict, hdK_nil, hdK_i, hdK_s, dKey, gIs, gIsNot, isD, gEq_str, gNe_str, gEq_int, gNe_int, gEq_bool, gNe_bool, gIx_t0, gIx_t1, gIx_t2, gIx_l0, gIx_l1, gIx_l2, gIn2, gInL2, List.length_cons, List.length_nil, List.map_cons, List.map_nil, List.replicate, List.cons_append, List.nil_append, List.getElem?_cons_zero, List.getElem?_cons_succ, List.set_cons_zero, List.set_cons_succ, Nat.reduceAdd, Nat.reduceSub, Nat.reduceEqDiff, List.all_cons, List.all_nil, Option.isNone, Option.map_some, Option.map_none, Bool.and_self, Bool.and_true, Bool.true_and, Bool.and_false, Bool.false_and, Bool.or_true, Bool.true_or, Bool.or_false, Bool.false_or, Bool.or_self, Bool.not_true, Bool.not_false, if_true, if_false, reduceIte, Bool.false_eq_true, decide_true, decide_false, ite_true, ite_false, d1, hk, ks, h2]
  rcases h1 with rfl | rfl <;> simp (decide := true) only [Mir.next, dPure, dIo, endI, args0, argsI, fSeq, fIf, fSet, fSetN, fRet, fRetN, fDrop, fSkip, fAsg, fPar, xMk, fBool, fTruth, truth, fNot, fAnd, fOr, fBin, fUn, fVar, vE, eV, fzr, fC, rd, fCallP, fCallI, fCons, fNil, rCons, rNil, fCall, rds, g1, fTup, fLst, vNot, vAnd, vOr, vIf, heldAt, heldL, PL.putAt, Sl.held, Sl.put, fMut, mApp, gN, gTn, gsCons, gsNil, gPut, putD, aSeq, seqD, fYes, okW, wipeA, backA, fFor, fLc, fDc, fSc, fSortSet, gIsi, isK, gLen, gIntT, gTuple, gList, gDict, hdK_nil, hdK_i, hdK_s, dKey, gIs, gIsNot, isD, gEq_str, gNe_str, gEq_int, gNe_int, gEq_bool, gNe_bool, gIx_t0, gIx_t1, gIx_t2, gIx_l0, gIx_l1, gIx_l2, gIn2, gInL2, List.length_cons, List.length_nil, List.map_cons, List.map_nil, List.replicate, List.cons_append, List.nil_append, List.getElem?_cons_zero, List.getElem?_cons_succ, List.set_cons_zero, List.set_cons_succ, Nat.reduceAdd, Nat.reduceSub, Nat.reduceEqDiff, List.all_cons, List.all_nil, Option.isNone, Option.map_some, Option.map_none, Bool.and_self, Bool.and_true, Bool.true_and, Bool.and_false, Bool.false_and, Bool.or_true, Bool.true_or, Bool.or_false, Bool.false_or, Bool.or_self, Bool.not_true, Bool.not_false, if_true, if_false, reduceIte, Bool.false_eq_true, decide_true, decide_false, ite_true, ite_false, gSort, ok, gs, c2]
end K11
namespace K11
open PySem PySem.Spec PyProof.Rows L2 PL
theorem gNe_lnil (ds : List D) (hp : PyData.plainAll ds = true) (hd : PyData.depthAll ds ≤ 50) : gNe (.list ds) (.list []) = some (.bool (!ds.isEmpty)) := by
  have e : eqOk (.list ds) (.list []) = true := by
    unfold eqOk
    have p1 : PyData.plain (.list ds) = true := by
      unfold PyData.plain
      exact hp
    have d1 : PyData.depth (.list ds) ≤ 60 := by
      unfold PyData.depth
      omega
    rw [p1]
    have p2 : PyData.plain (.list []) = true := rfl
    rw [p2, Bool.true_and, Bool.true_and, decide_eq_true_eq]
    exact Nat.le_trans (Nat.min_le_left _ _) d1
  unfold gNe
  rw [if_pos e]
  cases ds <;> rfl
theorem plain_tpl (o : List Str) : PyData.plain (tpl o) = true := by
  unfold tpl PyData.plain
  exact plain_strs o
theorem depth_tpl (o : List Str) : PyData.depth (tpl o) = 1 := by
  unfold tpl PyData.depth
  rw [depth_strs]
theorem plain_tpls : ∀ os : List (List Str), PyData.plainAll (os.map tpl) = true
  | [] => rfl
  | o :: os => by
    rw [List.map_cons, PyData.plainAll, plain_tpl, plain_tpls os]
    rfl
theorem depth_tpls : ∀ os : List (List Str), PyData.depthAll (os.map tpl) ≤ 1
  | [] => Nat.zero_le _
  | o :: os => by
    rw [List.map_cons, PyData.depthAll, depth_tpl]
    have := depth_tpls os
    omega
theorem gNe_ords (os : List (List Str)) : gNe (ordD os) (.list []) = some (.bool (!os.isEmpty)) := by
  have h := gNe_lnil (os.map tpl) (plain_tpls os) (by have := depth_tpls os; omega)
  rw [List.isEmpty_map] at h
  exact h
/-! ### best_for -/
def oT : Option (List Str) → Dt
  | none => .none
  | some o => tpl o
def rowD (ts : T0) (f : Fm) (o : List Str) : Dt := .tuple [tpl o, .str (sd (Wn ts f o))]
theorem e_best (M : Mir) (xs : List Str) (ts : T0) (f : Fm) (s : Bool) (h : M.f_all_orders [gam ts f.d] = some (dueD xs ts f)) :
    M.next.f_best_for [gam ts f.d, .str (sd s)] = some (oT ((ordsN xs.length xs).find? fun o => Wn ts f o == s)) := by
  have loop := loopF_find (g := gTn 2 (gsCons (gN 2) (gsCons (gN 3) gsNil))) (body := (fIf (fBool (fBin gEq (fVar 3) (fVar 1))) (fRet (eV (fVar 2))) fSkip)) (rowD ts f) (fun o => Wn ts f o == s) tpl
    (fun st => ∃ s2 s3, st = [.fz (gam ts f.d), .fz (.str (sd s)), s2, s3]) (ordsN xs.length xs)
    (fun o ho st ⟨s2, s3, e⟩ => by
      subst e
      have q := sd_inj (Wn ts f o) s
      refine ⟨[.fz (gam ts f.d), .fz (.str (sd s)), .fz (tpl o), .fz (.str (sd (Wn ts f o)))], by unfold rowD; rfl, ?_⟩
      have g : gEq (.str (sd (Wn ts f o))) (.str (sd s)) = some (.bool (Wn ts f o == s)) := by rw [gEq_str, q]
      cases z : Wn ts f o == s with
      | true =>
        rw [z] at g
        exact .inl ⟨rfl, [.fz (gam ts f.d), .fz (.str (sd s)), .fz (tpl o), .fz (.str (sd (Wn ts f o)))], by simp (decide := true) only [fIf, fBool, fBin, fVar, rd, fRet, eV, fzr, List.getElem?_cons_succ, List.getElem?_cons_zero, g]⟩
      | false =>
        rw [z] at g
        exact .inr ⟨rfl, [.fz (gam ts f.d), .fz (.str (sd s)), .fz (tpl o), .fz (.str (sd (Wn ts f o)))], by simp (decide := true) only [fIf, fBool, fBin, fVar, rd, fSkip, eV, fzr, List.getElem?_cons_succ, List.getElem?_cons_zero, g], _, _, rfl⟩)
    [.fz (gam ts f.d), .fz (.str (sd s)), .un, .un] ⟨_, _, rfl⟩
  unfold dueD at h
  cases q : (ordsN xs.length xs).find? fun o => Wn ts f o == s with
  | some o =>
    rw [q] at loop
    obtain ⟨st', loop⟩ := loop
    have loop' : loopF (gTn 2 (gsCons (gN 2) (gsCons (gN 3) gsNil))) (fIf (fBool (fBin gEq (fVar 3) (fVar 1))) (fRet (eV (fVar 2))) fSkip) ((ordsN xs.length xs).map fun o => PyData.tuple [tpl o, .str (sd (Wn ts f o))]) [.fz (gam ts f.d), .fz (.str (sd s)), .un, .un] = some (.rt (tpl o) st') := loop
    simp (decide := true) only [b_best_for, Mir.next, dPure, dIo, endI, args0, argsI, fSeq, fIf, fSet, fSetN, fRet, fRetN, fDrop, fSkip, fAsg, fPar, xMk, fBool, fTruth, truth, fNot, fAnd, fOr, fBin, fUn, fVar, vE, eV, fzr, fC, rd, fCallP, fCallI, fCons, fNil, rCons, rNil, fCall, rds, g1, fTup, fLst, vNot, vAnd, vOr, vIf, heldAt, heldL, PL.putAt, Sl.held, Sl.put, fMut, mApp, gN, gTn, gsCons, gsNil, gPut, putD, aSeq, seqD, fYes, okW, wipeA, backA, fFor, fLc, fDc, fSc, fSortSet, gIsi, isK, gLen, gIntT, gTuple, gList, gDict, hdK_nil, hdK_i, hdK_s, dKey, gIs, gIsNot, isD, gEq_str, gNe_str, gEq_int, gNe_int, gEq_bool, gNe_bool, gIx_t0, gIx_t1, gIx_t2, gIx_l0, gIx_l1, gIx_l2, gIn2, gInL2, List.length_cons, List.length_nil, List.map_cons, List.map_nil, List.replicate, List.cons_append, List.nil_append, List.getElem?_cons_zero, List.getElem?_cons_succ, List.set_cons_zero, List.set_cons_succ, Nat.reduceAdd, Nat.reduceSub, Nat.reduceEqDiff, List.all_cons, List.all_nil, Option.isNone, Option.map_some, Option.map_none, Bool.and_self, Bool.and_true, Bool.true_and, Bool.and_false, Bool.false_and, Bool.or_true, Bool.true_or, Bool.or_false, Bool.false_or, Bool.or_self, Bool.not_true, Bool.not_false, if_true, if_false, reduceIte, Bool.false_eq_true, decide_true, decide_false, ite_true, ite_false, h]
    rw [loop']
    rfl
  | none =>
    rw [q] at loop
    obtain ⟨st', ⟨s2, s3, e⟩, loop⟩ := loop
    subst e
    have loop' : loopF (gTn 2 (gsCons (gN 2) (gsCons (gN 3) gsNil))) (fIf (fBool (fBin gEq (fVar 3) (fVar 1))) (fRet (eV (fVar 2))) fSkip) ((ordsN xs.length xs).map fun o => PyData.tuple [tpl o, .str (sd (Wn ts f o))]) [.fz (gam ts f.d), .fz (.str (sd s)), .un, .un] = some (.nx [.fz (gam ts f.d), .fz (.str (sd s)), s2, s3]) := loop
    simp (decide := true) only [b_best_for, Mir.next, dPure, dIo, endI, args0, argsI, fSeq, fIf, fSet, fSetN, fRet, fRetN, fDrop, fSkip, fAsg, fPar, xMk, fBool, fTruth, truth, fNot, fAnd, fOr, fBin, fUn, fVar, vE, eV, fzr, fC, rd, fCallP, fCallI, fCons, fNil, rCons, rNil, fCall, rds, g1, fTup, fLst, vNot, vAnd, vOr, vIf, heldAt, heldL, PL.putAt, Sl.held, Sl.put, fMut, mApp, gN, gTn, gsCons, gsNil, gPut, putD, aSeq, seqD, fYes, okW, wipeA, backA, fFor, fLc, fDc, fSc, fSortSet, gIsi, isK, gLen, gIntT, gTuple, gList, gDict, hdK_nil, hdK_i, hdK_s, dKey, gIs, gIsNot, isD, gEq_str, gNe_str, gEq_int, gNe_int, gEq_bool, gNe_bool, gIx_t0, gIx_t1, gIx_t2, gIx_l0, gIx_l1, gIx_l2, gIn2, gInL2, List.length_cons, List.length_nil, List.map_cons, List.map_nil, List.replicate, List.cons_append, List.nil_append, List.getElem?_cons_zero, List.getElem?_cons_succ, List.set_cons_zero, List.set_cons_succ, Nat.reduceAdd, Nat.reduceSub, Nat.reduceEqDiff, List.all_cons, List.all_nil, Option.isNone, Option.map_some, Option.map_none, Bool.and_self, Bool.and_true, Bool.true_and, Bool.and_false, Bool.false_and, Bool.or_true, Bool.true_or, Bool.or_false, Bool.false_or, Bool.or_self, Bool.not_true, Bool.not_false, if_true, if_false, reduceIte, Bool.false_eq_true, decide_true, decide_false, ite_true, ite_false, h]
    rw [loop']
    rfl
/-! ### blocks -/
abbrev Bk := Bool × List Str
def bD (b : Bk) : Dt := .tuple [.str (sd b.1), tpl b.2]
theorem ixN_last (n : Nat) : ixN (n + 1) (-1) = some n := by
  unfold ixN
  rw [if_neg (by omega), if_pos (by omega)]
  congr 1
  omega
theorem ix_last (ds : List D) (d : D) : gIx (.list (ds ++ [d])) (.int (-1)) = some d := by
  show atI (ds ++ [d]) (-1) = some d
  unfold atI
  rw [List.length_append, List.length_singleton, ixN_last]
  show (ds ++ [d])[ds.length]? = some d
  rw [List.getElem?_append_right (Nat.le_refl _), Nat.sub_self]
  rfl
theorem putD_last (ds : List D) (d e : D) : putD (.list (ds ++ [d])) (.int (-1)) e = some (.list (ds ++ [e])) := by
  show (match ixN (ds ++ [d]).length (-1) with | some j => some (PyData.list ((ds ++ [d]).set j e)) | none => none) = _
  rw [List.length_append, List.length_singleton, ixN_last]
  dsimp only
  rw [List.set_append_right _ _ (Nat.le_refl _), Nat.sub_self]
  rfl
/-- what one more turn does -/
inductive BStep : List Bk → Bool × Str → List Bk → Prop
  | first (t : Bool × Str) : BStep [] t [(t.1, [t.2])]
  | more (init : List Bk) (ls : List Str) (t : Bool × Str) : BStep (init ++ [(t.1, ls)]) t (init ++ [(t.1, ls ++ [t.2])])
  | other (init : List Bk) (s : Bool) (ls : List Str) (t : Bool × Str) (h : s ≠ t.1) : BStep (init ++ [(s, ls)]) t (init ++ [(s, ls)] ++ [(t.1, [t.2])])
/-- the blocks of turns -/
inductive Blk : T0 → List Bk → Prop
  | nil : Blk [] []
  | snoc {ts : T0} {bs cs : List Bk} {t : Bool × Str} : Blk ts bs → BStep bs t cs → Blk (ts ++ [t]) cs
theorem snoc_cases {α : Type} : ∀ l : List α, l = [] ∨ ∃ i x, l = i ++ [x]
  | [] => .inl rfl
  | x :: l => by
    rcases snoc_cases l with h | ⟨i, y, h⟩
    · exact .inr ⟨[], x, by rw [h]; rfl⟩
    · exact .inr ⟨x :: i, y, by rw [h]; rfl⟩
theorem bstep_ex (bs : List Bk) (t : Bool × Str) : ∃ cs, BStep bs t cs := by
  rcases snoc_cases bs with rfl | ⟨i, ⟨s, ls⟩, rfl⟩
  · exact ⟨_, .first t⟩
  · by_cases h : s = t.1
    · subst h
      exact ⟨_, .more i ls t⟩
    · exact ⟨_, .other i s ls t h⟩
theorem blk_len {ts : T0} {bs : List Bk} (h : Blk ts bs) : bs.length ≤ ts.length ∧ ∀ b ∈ bs, b.2.length ≤ ts.length := by
  induction h with
  | nil => exact ⟨Nat.le_refl _, fun b hb => nomatch hb⟩
  | @snoc ts bs cs t _ st ih =>
    rw [List.length_append, List.length_singleton]
    cases st with
    | first => exact ⟨by show 1 ≤ _; omega, fun b hb => by rw [List.mem_singleton.mp hb]; show 1 ≤ _; omega⟩
    | more init ls =>
      rw [List.length_append, List.length_singleton] at ih ⊢
      refine ⟨by omega, fun b hb => ?_⟩
      rcases List.mem_append.mp hb with hb | hb
      · have := ih.2 b (List.mem_append_left _ hb)
        omega
      · rw [List.mem_singleton.mp hb]
        have := ih.2 _ (List.mem_append_right _ (List.mem_singleton.mpr rfl))
        show (ls ++ [t.2]).length ≤ _
        rw [List.length_append, List.length_singleton]
        dsimp only at this
        omega
    | other init s ls _ _ =>
      rw [List.length_append, List.length_singleton]
      refine ⟨by omega, fun b hb => ?_⟩
      rcases List.mem_append.mp hb with hb | hb
      · have := ih.2 b hb
        omega
      · rw [List.mem_singleton.mp hb]
        show 1 ≤ _
        omega
def blB : FS := (fIf (fAnd (fBool (fBin gGt (vE (fCall (g1 gLen) (rCons (fVar 1) rNil))) (vE (fC (.int 0))))) (fBool (fBin gEq (vE (fBin gIx (vE (fBin gIx (fVar 1) (vE (fUn gNeg (vE (fC (.int 1))))))) (vE (fC (.int 0))))) (fVar 2)))) (fAsg (fTup (fCons (eV (fVar 2)) (fCons (fBin gAdd (vE (fBin gIx (vE (fBin gIx (fVar 1) (vE (fUn gNeg (vE (fC (.int 1))))))) (vE (fC (.int 1))))) (vE (fTup (fCons (eV (fVar 3)) fNil)))) fNil))) (gPut 1 (fUn gNeg (vE (fC (.int 1)))))) (fDrop (fApp 1 (fTup (fCons (eV (fVar 2)) (fCons (fTup (fCons (eV (fVar 3)) fNil)) fNil))))))
theorem bl_step (T : Sl) (bs cs : List Bk) (t : Bool × Str) (h : BStep bs t cs) (hl : bs.length ≤ 200) (h2 : ∀ b ∈ bs, b.2.length ≤ 200) : blB [T, .ow (.list (bs.map bD)), .fz (.str (sd t.1)), .fz (.str t.2)] = some (.nx [T, .ow (.list (cs.map bD)), .fz (.str (sd t.1)), .fz (.str t.2)]) := by
  have big : (1000 : Nat) < sizeLine := by decide
  cases h with
  | first =>
    unfold blB
    simp (decide := true) only [Mir.next, dPure, dIo, endI, args0, argsI, fSeq, fIf, fSet, fSetN, fRet, fRetN, fDrop, fSkip, fAsg, fPar, xMk, fBool, fTruth, truth, fNot, fAnd, fOr, fBin, fUn, fVar, vE, eV, fzr, fC, rd, fCallP, fCallI, fCons, fNil, rCons, rNil, fCall, rds, g1, fTup, fLst, vNot, vAnd, vOr, vIf, heldAt, heldL, PL.putAt, Sl.held, Sl.put, fMut, mApp, gN, gTn, gsCons, gsNil, gPut, putD, aSeq, seqD, fYes, okW, wipeA, backA, fFor, fLc, fDc, fSc, fSortSet, gIsi, isK, gLen, gIntT, gTuple, gList, gDict, hdK_nil, hdK_i, hdK_s, dKey, gIs, gIsNot, isD, gEq_str, gNe_str, gEq_int, gNe_int, gEq_bool, gNe_bool, gIx_t0, gIx_t1, gIx_t2, gIx_l0, gIx_l1, gIx_l2, gIn2, gInL2, List.length_cons, List.length_nil, List.map_cons, List.map_nil, List.replicate, List.cons_append, List.nil_append, List.getElem?_cons_zero, List.getElem?_cons_succ, List.set_cons_zero, List.set_cons_succ, Nat.reduceAdd, Nat.reduceSub, Nat.reduceEqDiff, List.all_cons, List.all_nil, Option.isNone, Option.map_some, Option.map_none, Bool.and_self, Bool.and_true, Bool.true_and, Bool.and_false, Bool.false_and, Bool.or_true, Bool.true_or, Bool.or_false, Bool.false_or, Bool.or_self, Bool.not_true, Bool.not_false, if_true, if_false, reduceIte, Bool.false_eq_true, decide_true, decide_false, ite_true, ite_false, gGt, gCmpI]
    rfl
  | more init ls =>
    rw [List.length_append, List.length_singleton] at hl
    have l2 := h2 _ (List.mem_append_right _ (List.mem_singleton.mpr rfl))
    dsimp only at l2
    have ix := ix_last (init.map bD) (bD (t.1, ls))
    have pl := putD_last (init.map bD) (bD (t.1, ls)) (bD (t.1, ls ++ [t.2]))
    have ad : gAdd (tpl ls) (.tuple [.str t.2]) = some (tpl (ls ++ [t.2])) := by
      show (if (ls.map PyData.str).length + [PyData.str t.2].length ≤ sizeLine then some (PyData.tuple (ls.map PyData.str ++ [.str t.2])) else none) = _
      rw [if_pos (by rw [List.length_map]; show _ + 1 ≤ _; omega)]
      unfold tpl
      rw [List.map_append]
      rfl
    rw [List.map_append, List.map_append]
    show blB [T, .ow (.list (init.map bD ++ [bD (t.1, ls)])), .fz (.str (sd t.1)), .fz (.str t.2)] = some (.nx [T, .ow (.list (init.map bD ++ [bD (t.1, ls ++ [t.2])])), .fz (.str (sd t.1)), .fz (.str t.2)])
    have gt : decide (((init.map bD ++ [bD (t.1, ls)]).length : Int) > 0) = true := decide_eq_true (by rw [List.length_append, List.length_singleton]; omega)
    unfold blB
    unfold bD at ix pl gt ⊢
    dsimp only at ix pl gt ⊢
    simp (decide := true) only [Mir.next, dPure, dIo, endI, args0, argsI, fSeq, fIf, fSet, fSetN, fRet, fRetN, fDrop, fSkip, fAsg, fPar, xMk, fBool, fTruth, truth, fNot, fAnd, fOr, fBin, fUn, fVar, vE, eV, fzr, fC, rd, fCallP, fCallI, fCons, fNil, rCons, rNil, fCall, rds, g1, fTup, fLst, vNot, vAnd, vOr, vIf, heldAt, heldL, PL.putAt, Sl.held, Sl.put, fMut, mApp, gN, gTn, gsCons, gsNil, gPut, aSeq, seqD, fYes, okW, wipeA, backA, fFor, fLc, fDc, fSc, fSortSet, gIsi, isK, gLen, gIntT, gTuple, gList, gDict, hdK_nil, hdK_i, hdK_s, dKey, gIs, gIsNot, isD, gEq_str, gNe_str, gEq_int, gNe_int, gEq_bool, gNe_bool, gIx_t0, gIx_t1, gIx_t2, gIx_l0, gIx_l1, gIx_l2, gIn2, gInL2, List.length_cons, List.length_nil, List.map_cons, List.map_nil, List.replicate, List.cons_append, List.nil_append, List.getElem?_cons_zero, List.getElem?_cons_succ, List.set_cons_zero, List.set_cons_succ, Nat.reduceAdd, Nat.reduceSub, Nat.reduceEqDiff, List.all_cons, List.all_nil, Option.isNone, Option.map_some, Option.map_none, Bool.and_self, Bool.and_true, Bool.true_and, Bool.and_false, Bool.false_and, Bool.or_true, Bool.true_or, Bool.or_false, Bool.false_or, Bool.or_self, Bool.not_true, Bool.not_false, if_true, if_false, reduceIte, Bool.false_eq_true, decide_true, decide_false, ite_true, ite_false, gGt, gCmpI, gt, gNeg, ix, ad, pl]
  | other init s ls _ hne =>
    rw [List.length_append, List.length_singleton] at hl
    have ix := ix_last (init.map bD) (bD (s, ls))
    have sn : (sd s = sd t.1) = False := eq_false fun z => hne (by
      have := sd_inj s t.1
      rw [decide_eq_true z] at this
      exact eq_of_beq this.symm)
    rw [List.map_append, List.map_append, List.map_append]
    show blB [T, .ow (.list (init.map bD ++ [bD (s, ls)])), .fz (.str (sd t.1)), .fz (.str t.2)] = some (.nx [T, .ow (.list (init.map bD ++ [bD (s, ls)] ++ [bD (t.1, [t.2])])), .fz (.str (sd t.1)), .fz (.str t.2)])
    have gt : decide (((init.map bD ++ [bD (s, ls)]).length : Int) > 0) = true := decide_eq_true (by rw [List.length_append, List.length_singleton]; omega)
    have z : (init.map bD ++ [bD (s, ls)]).length < sizeLine := by rw [List.length_append, List.length_map, List.length_singleton]; omega
    have t1 : PyData.tuple [PyData.str t.2] = tpl [t.2] := rfl
    unfold blB
    unfold bD at ix gt z ⊢
    dsimp only at ix gt z ⊢
    simp (decide := true) only [Mir.next, dPure, dIo, endI, args0, argsI, fSeq, fIf, fSet, fSetN, fRet, fRetN, fDrop, fSkip, fAsg, fPar, xMk, fBool, fTruth, truth, fNot, fAnd, fOr, fBin, fUn, fVar, vE, eV, fzr, fC, rd, fCallP, fCallI, fCons, fNil, rCons, rNil, fCall, rds, g1, fTup, fLst, vNot, vAnd, vOr, vIf, heldAt, heldL, PL.putAt, Sl.held, Sl.put, fMut, mApp, gN, gTn, gsCons, gsNil, gPut, putD, aSeq, seqD, fYes, okW, wipeA, backA, fFor, fLc, fDc, fSc, fSortSet, gIsi, isK, gLen, gIntT, gTuple, gList, gDict, hdK_nil, hdK_i, hdK_s, dKey, gIs, gIsNot, isD, gEq_str, gNe_str, gEq_int, gNe_int, gEq_bool, gNe_bool, gIx_t0, gIx_t1, gIx_t2, gIx_l0, gIx_l1, gIx_l2, gIn2, gInL2, List.length_cons, List.length_nil, List.map_cons, List.map_nil, List.replicate, List.cons_append, List.nil_append, List.getElem?_cons_zero, List.getElem?_cons_succ, List.set_cons_zero, List.set_cons_succ, Nat.reduceAdd, Nat.reduceSub, Nat.reduceEqDiff, List.all_cons, List.all_nil, Option.isNone, Option.map_some, Option.map_none, Bool.and_self, Bool.and_true, Bool.true_and, Bool.and_false, Bool.false_and, Bool.or_true, Bool.true_or, Bool.or_false, Bool.false_or, Bool.or_self, Bool.not_true, Bool.not_false, if_true, if_false, reduceIte, Bool.false_eq_true, decide_true, decide_false, ite_true, ite_false, gGt, gCmpI, gt, gNeg, ix, sn, z, t1]
theorem e_blocks (M : Mir) (b : Bool) (ts : T0) (h : ts.length ≤ 100) : ∃ bs, Blk ts bs ∧ M.next.f_blocks [TL b ts] = some (.list (bs.map bD)) := by
  obtain ⟨st, ⟨bs, s2, s3, e1, e2⟩, h2⟩ := loopF_inv (g := gTn 2 (gsCons (gN 2) (gsCons (gN 3) gsNil))) (body := blB) tD
    (fun r st => ∃ (pre : T0) (bs : List Bk) (s2 s3 : Sl), st = [.fz (TL b ts), .ow (.list (bs.map bD)), s2, s3] ∧ pre ++ r = ts ∧ Blk pre bs)
    (fun st => ∃ (bs : List Bk) (s2 s3 : Sl), st = [.fz (TL b ts), .ow (.list (bs.map bD)), s2, s3] ∧ Blk ts bs)
    (fun st ⟨pre, bs, s2, s3, e1, e2, e3⟩ => ⟨bs, s2, s3, e1, by
      rw [List.append_nil] at e2
      rw [← e2]
      exact e3⟩)
    (fun t r st ⟨pre, bs, s2, s3, e1, e2, e3⟩ => by
      subst e1
      obtain ⟨cs, hc⟩ := bstep_ex bs t
      have pl : pre.length ≤ ts.length := by rw [← e2, List.length_append]; omega
      have bl := blk_len e3
      exact ⟨_, _, rfl, bl_step (.fz (TL b ts)) bs cs t hc (by omega) (fun c hc => by have := bl.2 c hc; omega), pre ++ [t], cs, _, _, rfl, by rw [List.append_assoc]; exact e2, .snoc e3 hc⟩)
    ts [.fz (TL b ts), .ow (.list []), .un, .un] ⟨[], [], _, _, rfl, rfl, .nil⟩
  subst e1
  refine ⟨bs, e2, ?_⟩
  show dPure 4 1 (fSeq (fSetN 1 (fLst fNil)) (fSeq (fFor (aSeq (eV (fVar 0))) (gTn 2 (gsCons (gN 2) (gsCons (gN 3) gsNil))) blB) (fRet (eV (fVar 1))))) [TL b ts] = _
  have e1 : tn ts = .tuple (ts.map tD) := rfl
  have e2 : tl ts = .list (ts.map tD) := rfl
  cases b with
  | true =>
    unfold TL at h2 ⊢
    simp only [if_true, e2] at h2 ⊢
    simp (decide := true) only [Mir.next, dPure, dIo, endI, args0, argsI, fSeq, fIf, fSet, fSetN, fRet, fRetN, fDrop, fSkip, fAsg, fPar, xMk, fBool, fTruth, truth, fNot, fAnd, fOr, fBin, fUn, fVar, vE, eV, fzr, fC, rd, fCallP, fCallI, fCons, fNil, rCons, rNil, fCall, rds, g1, fTup, fLst, vNot, vAnd, vOr, vIf, heldAt, heldL, PL.putAt, Sl.held, Sl.put, fMut, mApp, gN, gTn, gsCons, gsNil, gPut, putD, aSeq, seqD, fYes, okW, wipeA, backA, fFor, fLc, fDc, fSc, fSortSet, gIsi, isK, gLen, gIntT, gTuple, gList, gDict, hdK_nil, hdK_i, hdK_s, dKey, gIs, gIsNot, isD, gEq_str, gNe_str, gEq_int, gNe_int, gEq_bool, gNe_bool, gIx_t0, gIx_t1, gIx_t2, gIx_l0, gIx_l1, gIx_l2, gIn2, gInL2, List.length_cons, List.length_nil, List.map_cons, List.map_nil, List.replicate, List.cons_append, List.nil_append, List.getElem?_cons_zero, List.getElem?_cons_succ, List.set_cons_zero, List.set_cons_succ, Nat.reduceAdd, Nat.reduceSub, Nat.reduceEqDiff, List.all_cons, List.all_nil, Option.isNone, Option.map_some, Option.map_none, Bool.and_self, Bool.and_true, Bool.true_and, Bool.and_false, Bool.false_and, Bool.or_true, Bool.true_or, Bool.or_false, Bool.false_or, Bool.or_self, Bool.not_true, Bool.not_false, if_true, if_false, reduceIte, Bool.false_eq_true, decide_true, decide_false, ite_true, ite_false, h2]
  | false =>
    unfold TL at h2 ⊢
    simp only [Bool.false_eq_true, if_false, e1] at h2 ⊢
    simp (decide := true) only [Mir.next, dPure, dIo, endI, args0, argsI, fSeq, fIf, fSet, fSetN, fRet, fRetN, fDrop, fSkip, fAsg, fPar, xMk, fBool, fTruth, truth, fNot, fAnd, fOr, fBin, fUn, fVar, vE, eV, fzr, fC, rd, fCallP, fCallI, fCons, fNil, rCons, rNil, fCall, rds, g1, fTup, fLst, vNot, vAnd, vOr, vIf, heldAt, heldL, PL.putAt, Sl.held, Sl.put, fMut, mApp, gN, gTn, gsCons, gsNil, gPut, putD, aSeq, seqD, fYes, okW, wipeA, backA, fFor, fLc, fDc, fSc, fSortSet, gIsi, isK, gLen, gIntT, gTuple, gList, gDict, hdK_nil, hdK_i, hdK_s, dKey, gIs, gIsNot, isD, gEq_str, gNe_str, gEq_int, gNe_int, gEq_bool, gNe_bool, gIx_t0, gIx_t1, gIx_t2, gIx_l0, gIx_l1, gIx_l2, gIn2, gInL2, List.length_cons, List.length_nil, List.map_cons, List.map_nil, List.replicate, List.cons_append, List.nil_append, List.getElem?_cons_zero, List.getElem?_cons_succ, List.set_cons_zero, List.set_cons_succ, Nat.reduceAdd, Nat.reduceSub, Nat.reduceEqDiff, List.all_cons, List.all_nil, Option.isNone, Option.map_some, Option.map_none, Bool.and_self, Bool.and_true, Bool.true_and, Bool.and_false, Bool.false_and, Bool.or_true, Bool.true_or, Bool.or_false, Bool.false_or, Bool.or_self, Bool.not_true, Bool.not_false, if_true, if_false, reduceIte, Bool.false_eq_true, decide_true, decide_false, ite_true, ite_false, h2]
end K11
namespace K11
open PySem PySem.Spec PyProof.Rows L2 PL
/-- how often two neighbours differ -/
def cntI (l : List Bool) : Nat := ((List.range (l.length - 1)).filter fun i => l[i + 1]? != l[i]?).length
theorem cntI_snoc (l : List Bool) (s x : Bool) : cntI (l ++ [s] ++ [x]) = cntI (l ++ [s]) + if s = x then 0 else 1 := by
  unfold cntI
  have h1 : (l ++ [s] ++ [x]).length - 1 = l.length + 1 := by rw [List.length_append, List.length_append, List.length_singleton, List.length_singleton]; omega
  have h2 : (l ++ [s]).length - 1 = l.length := by rw [List.length_append, List.length_singleton]; omega
  rw [h1, h2, List.range_succ, List.filter_append, List.length_append]
  have e1 : (List.range l.length).filter (fun i => (l ++ [s] ++ [x])[i + 1]? != (l ++ [s] ++ [x])[i]?) = (List.range l.length).filter fun i => (l ++ [s])[i + 1]? != (l ++ [s])[i]? := by
    refine List.filter_congr fun i hi => ?_
    have hi' := List.mem_range.mp hi
    have a1 : (l ++ [s] ++ [x])[i + 1]? = (l ++ [s])[i + 1]? := List.getElem?_append_left (by rw [List.length_append, List.length_singleton]; omega)
    have a2 : (l ++ [s] ++ [x])[i]? = (l ++ [s])[i]? := List.getElem?_append_left (by rw [List.length_append, List.length_singleton]; omega)
    rw [a1, a2]
  rw [e1]
  congr 1
  have g1 : (l ++ [s] ++ [x])[l.length + 1]? = some x := by
    rw [List.getElem?_append_right (by rw [List.length_append, List.length_singleton]; omega), List.length_append, List.length_singleton, Nat.sub_self]
    rfl
  have g2 : (l ++ [s] ++ [x])[l.length]? = some s := by
    rw [List.getElem?_append_left (by rw [List.length_append, List.length_singleton]; omega), List.getElem?_append_right (Nat.le_refl _), Nat.sub_self]
    rfl
  by_cases h : s = x
  · subst h
    rw [List.filter_cons_of_neg (by rw [g1, g2]; simp), if_pos rfl]
    rfl
  · rw [List.filter_cons_of_pos (by rw [g1, g2]; cases s <;> cases x <;> first | rfl | exact absurd rfl h), if_neg h]
    rfl
theorem bstep_inv {bs cs : List Bk} {t : Bool × Str} (h : BStep bs t cs) : (bs = [] ∧ cs = [(t.1, [t.2])]) ∨ (∃ init ls, bs = init ++ [(t.1, ls)] ∧ cs = init ++ [(t.1, ls ++ [t.2])]) ∨ ∃ init s ls, s ≠ t.1 ∧ bs = init ++ [(s, ls)] ∧ cs = init ++ [(s, ls)] ++ [(t.1, [t.2])] := by
  cases h with
  | first => exact .inl ⟨rfl, rfl⟩
  | more init ls => exact .inr (.inl ⟨init, ls, rfl, rfl⟩)
  | other init s ls _ h => exact .inr (.inr ⟨init, s, ls, h, rfl, rfl⟩)
theorem blk_count {ts : T0} {bs : List Bk} (h : Blk ts bs) : (ts = [] ∧ bs = []) ∨ ∃ us t init ls, ts = us ++ [t] ∧ bs = init ++ [(t.1, ls)] ∧ bs.length = cntI (ts.map Prod.fst) + 1 := by
  induction h with
  | nil => exact .inl ⟨rfl, rfl⟩
  | @snoc ts bs cs t hb st ih =>
    right
    rcases ih with ⟨e1, e2⟩ | ⟨us, u, init, ls, e1, e2, e3⟩
    · subst e1 e2
      rcases bstep_inv st with ⟨_, rfl⟩ | ⟨init, ls, q, _⟩ | ⟨init, s, ls, _, q, _⟩
      · exact ⟨[], t, [], _, rfl, rfl, rfl⟩
      · exact absurd q (by simp)
      · exact absurd q (by simp)
    · subst e1
      have cs0 : (us ++ [u] ++ [t]).map Prod.fst = us.map Prod.fst ++ [u.1] ++ [t.1] := by rw [List.map_append, List.map_append]; rfl
      have cs1 : (us ++ [u]).map Prod.fst = us.map Prod.fst ++ [u.1] := by rw [List.map_append]; rfl
      rw [cs1] at e3
      rcases bstep_inv st with ⟨q, _⟩ | ⟨init', ls', q, rfl⟩ | ⟨init', s, ls', hne, q, rfl⟩
      · rw [q] at e2
        exact absurd e2 (by simp)
      · rw [q] at e2 e3
        have z := congrArg List.getLast? e2
        rw [List.getLast?_concat, List.getLast?_concat] at z
        have z1 : t.1 = u.1 := (Prod.mk.inj (Option.some.inj z)).1
        refine ⟨us ++ [u], t, init', _, rfl, rfl, ?_⟩
        rw [cs0, cntI_snoc, if_pos z1.symm, Nat.add_zero, ← e3, List.length_append, List.length_append]
        rfl
      · rw [q] at e2 e3
        have z := congrArg List.getLast? e2
        rw [List.getLast?_concat, List.getLast?_concat] at z
        have z1 : s = u.1 := (Prod.mk.inj (Option.some.inj z)).1
        refine ⟨us ++ [u], t, init' ++ [(s, ls')], _, rfl, rfl, ?_⟩
        rw [cs0, cntI_snoc, if_neg (fun q => hne (z1.trans q)), List.length_append, e3]
        rfl
theorem blk_cnt {ts : T0} {bs : List Bk} (h : Blk ts bs) (ne : ts ≠ []) : bs.length = cntI (ts.map Prod.fst) + 1 := by
  rcases blk_count h with ⟨e, _⟩ | ⟨_, _, _, _, _, _, e⟩
  · exact absurd e ne
  · exact e
def cnt (ts : T0) (o : List Str) : Nat := cntI (o.map (sid ts))
def kD (ts : T0) (o : List Str) : Dt := .tuple [.int (cnt ts o : Int), tpl o]
theorem alike_strs : ∀ a b : List Str, PySem.W.alikeAll (a.map PyData.str) (b.map PyData.str) = true
  | [], [] => rfl
  | [], _ :: _ => rfl
  | _ :: _, [] => rfl
  | x :: a, y :: b => by
    rw [List.map_cons, List.map_cons]
    show (PySem.W.alike (.str x) (.str y) && PySem.W.alikeAll (a.map PyData.str) (b.map PyData.str)) = true
    rw [alike_strs a b]
    rfl
theorem alike_kD (ts : T0) (o p : List Str) : PySem.W.alike (kD ts o) (kD ts p) = true := by
  show (true && (PySem.W.alikeAll (o.map PyData.str) (p.map PyData.str) && true)) = true
  rw [alike_strs]
  rfl
theorem plain_kD (ts : T0) (o : List Str) : PyData.plain (kD ts o) = true := by
  unfold kD
  show PyData.plainAll [.int (cnt ts o : Int), tpl o] = true
  rw [PyData.plainAll, PyData.plainAll, plain_tpl]
  rfl
theorem depth_kD (ts : T0) (o : List Str) : PyData.depth (kD ts o) ≤ 10 := by
  unfold kD PyData.depth
  rw [PyData.depthAll, PyData.depthAll, depth_tpl]
  show max 0 (max 1 0) + 1 ≤ 10
  decide
theorem gLt_kD (ts : T0) (o p : List Str) : gLt (kD ts o) (kD ts p) = some (.bool (PySem.W.dataLt (kD ts o) (kD ts p))) := by
  have ok : ltOk (kD ts o) (kD ts p) = true := by
    unfold ltOk
    rw [alike_kD, plain_kD, plain_kD]
    have := depth_kD ts o
    simp only [Bool.true_and, Bool.and_true, decide_eq_true_eq]
    omega
  show (if ltOk (kD ts o) (kD ts p) = true then some (PyData.bool (PySem.W.dataLt (kD ts o) (kD ts p))) else none) = _
  rw [if_pos ok]
def stepM (ts : T0) (b : Option (List Str)) (o : List Str) : Option (List Str) := match b with
  | none => some o
  | some c => if PySem.W.dataLt (kD ts o) (kD ts c) = true then some o else some c
def bK (ts : T0) : Option (List Str) → Dt
  | none => .none
  | some o => kD ts o
theorem min_fold (ts : T0) : ∀ (os : List (List Str)) (c : List Str), (os.map (kD ts)).foldl (fun a y => if PySem.W.dataLt y a then y else a) (kD ts c) = bK ts (os.foldl (stepM ts) (some c))
  | [], c => rfl
  | o :: os, c => by
    rw [List.map_cons, List.foldl_cons, List.foldl_cons]
    show List.foldl _ (if PySem.W.dataLt (kD ts o) (kD ts c) = true then kD ts o else kD ts c) _ = bK ts (os.foldl (stepM ts) (if PySem.W.dataLt (kD ts o) (kD ts c) = true then some o else some c))
    split
    · exact min_fold ts os o
    · exact min_fold ts os c
theorem plain_kDs (ts : T0) : ∀ os : List (List Str), PyData.plainAll (os.map (kD ts)) = true
  | [] => rfl
  | o :: os => by
    rw [List.map_cons, PyData.plainAll, plain_kD, plain_kDs ts os]
    rfl
theorem depth_kDs (ts : T0) : ∀ os : List (List Str), PyData.depthAll (os.map (kD ts)) ≤ 10
  | [] => Nat.zero_le _
  | o :: os => by
    rw [List.map_cons, PyData.depthAll]
    have := depth_kDs ts os
    have := depth_kD ts o
    omega
theorem gMin_kD (ts : T0) (o : List Str) (os : List (List Str)) : gMin1 (.list ((o :: os).map (kD ts))) = some (bK ts ((o :: os).foldl (stepM ts) none)) := by
  have ok : minOk ((o :: os).map (kD ts)) = true := by
    unfold minOk
    rw [plain_kDs]
    have := depth_kDs ts (o :: os)
    rw [Bool.true_and, Bool.and_eq_true, Bool.and_eq_true, decide_eq_true_eq]
    refine ⟨⟨?_, by omega⟩, ?_⟩
    · rw [List.all_eq_true]
      intro x hx
      rw [List.all_eq_true]
      intro y hy
      obtain ⟨a, _, rfl⟩ := List.mem_map.mp hx
      obtain ⟨b, _, rfl⟩ := List.mem_map.mp hy
      exact alike_kD ts a b
    · rw [List.all_eq_true]
      intro x hx
      obtain ⟨a, _, rfl⟩ := List.mem_map.mp hx
      rfl
  rw [List.map_cons] at ok ⊢
  show (if minOk (kD ts o :: os.map (kD ts)) = true then some (PySem.W.minD (kD ts o) (os.map (kD ts))) else none) = _
  rw [if_pos ok]
  unfold PySem.W.minD
  rw [min_fold]
  rfl
end K11
namespace K11
open PySem PySem.Spec PyProof.Rows L2 PL
def HB (M : Mir) : Prop := ∀ (b : Bool) (us : T0), us.length ≤ 100 → ∃ bs, Blk us bs ∧ M.f_blocks [TL b us] = some (.list (bs.map bD))
theorem turn_list2 (ts : T0) (o : List Str) (h : ∀ x ∈ o, x ∈ ts.map Prod.snd) (G s2 s4 s5 : Sl) (ho : o.length ≤ 100) :
    fLc (aSeq (eV (fVar 3))) (gN 7) fYes (fTup (fCons (fBin gIx (fVar 1) (fVar 7)) (fCons (eV (fVar 7)) fNil))) [7] [G, .fz (.dict (sdD ts)), s2, .fz (tpl o), s4, s5, .un, .un] = some (tl (o.map fun x => (sid ts x, x)), [G, .fz (.dict (sdD ts)), s2, .fz (tpl o), s4, s5, .un, .un]) := by
  have big : (1000 : Nat) < sizeLine := by decide
  have c1 := loopC_pure (g := gN 7) (tt := fYes) (te := fTup (fCons (fBin gIx (fVar 1) (fVar 7)) (fCons (eV (fVar 7)) fNil))) (vs := [7]) (st := [G, .fz (.dict (sdD ts)), s2, .fz (tpl o), s4, s5, .un, .un]) (fun x => some (tD (sid ts x, x))) PyData.str o []
    (fun x hx => by
      have ix := ix_sd x ts (h x hx)
      refine ⟨[G, .fz (.dict (sdD ts)), s2, .fz (tpl o), s4, s5, .un, .fz (.str x)], rfl, .inr ⟨[G, .fz (.dict (sdD ts)), s2, .fz (tpl o), s4, s5, .un, .fz (.str x)], _, [G, .fz (.dict (sdD ts)), s2, .fz (tpl o), s4, s5, .un, .fz (.str x)], rfl, ?_, rfl, rfl⟩⟩
      simp (decide := true) only [Mir.next, dPure, dIo, endI, args0, argsI, fSeq, fIf, fSet, fSetN, fRet, fRetN, fDrop, fSkip, fAsg, fPar, xMk, fBool, fTruth, truth, fNot, fAnd, fOr, fBin, fUn, fVar, vE, eV, fzr, fC, rd, fCallP, fCallI, fCons, fNil, rCons, rNil, fCall, rds, g1, fTup, fLst, vNot, vAnd, vOr, vIf, heldAt, heldL, PL.putAt, Sl.held, Sl.put, fMut, mApp, gN, gTn, gsCons, gsNil, gPut, putD, aSeq, seqD, fYes, okW, wipeA, backA, fFor, fLc, fDc, fSc, fSortSet, gIsi, isK, gLen, gIntT, gTuple, gList, gDict, hdK_nil, hdK_i, hdK_s, dKey, gIs, gIsNot, isD, gEq_str, gNe_str, gEq_int, gNe_int, gEq_bool, gNe_bool, gIx_t0, gIx_t1, gIx_t2, gIx_l0, gIx_l1, gIx_l2, gIn2, gInL2, List.length_cons, List.length_nil, List.map_cons, List.map_nil, List.replicate, List.cons_append, List.nil_append, List.getElem?_cons_zero, List.getElem?_cons_succ, List.set_cons_zero, List.set_cons_succ, Nat.reduceAdd, Nat.reduceSub, Nat.reduceEqDiff, List.all_cons, List.all_nil, Option.isNone, Option.map_some, Option.map_none, Bool.and_self, Bool.and_true, Bool.true_and, Bool.and_false, Bool.false_and, Bool.or_true, Bool.true_or, Bool.or_false, Bool.false_or, Bool.or_self, Bool.not_true, Bool.not_false, if_true, if_false, reduceIte, Bool.false_eq_true, decide_true, decide_false, ite_true, ite_false, ix, tD]) (by rw [List.length_nil]; omega)
  rw [fm_some, List.nil_append] at c1
  have e0 : tpl o = .tuple (o.map PyData.str) := rfl
  unfold tl
  rw [List.map_map]
  have e2 : (tD ∘ fun x => (sid ts x, x)) = fun x => tD (sid ts x, x) := rfl
  rw [e2]
  rw [e0] at c1 ⊢
  simp (decide := true) only [Mir.next, dPure, dIo, endI, args0, argsI, fSeq, fIf, fSet, fSetN, fRet, fRetN, fDrop, fSkip, fAsg, fPar, xMk, fBool, fTruth, truth, fNot, fAnd, fOr, fBin, fUn, fVar, vE, eV, fzr, fC, rd, fCallP, fCallI, fCons, fNil, rCons, rNil, fCall, rds, g1, fTup, fLst, vNot, vAnd, vOr, vIf, heldAt, heldL, PL.putAt, Sl.held, Sl.put, fMut, mApp, gN, gTn, gsCons, gsNil, gPut, putD, aSeq, seqD, fYes, okW, wipeA, backA, fFor, fLc, fDc, fSc, fSortSet, gIsi, isK, gLen, gIntT, gTuple, gList, gDict, hdK_nil, hdK_i, hdK_s, dKey, gIs, gIsNot, isD, gEq_str, gNe_str, gEq_int, gNe_int, gEq_bool, gNe_bool, gIx_t0, gIx_t1, gIx_t2, gIx_l0, gIx_l1, gIx_l2, gIn2, gInL2, List.length_cons, List.length_nil, List.map_cons, List.map_nil, List.replicate, List.cons_append, List.nil_append, List.getElem?_cons_zero, List.getElem?_cons_succ, List.set_cons_zero, List.set_cons_succ, Nat.reduceAdd, Nat.reduceSub, Nat.reduceEqDiff, List.all_cons, List.all_nil, Option.isNone, Option.map_some, Option.map_none, Bool.and_self, Bool.and_true, Bool.true_and, Bool.and_false, Bool.false_and, Bool.or_true, Bool.true_or, Bool.or_false, Bool.false_or, Bool.or_self, Bool.not_true, Bool.not_false, if_true, if_false, reduceIte, Bool.false_eq_true, decide_true, decide_false, ite_true, ite_false, c1]
def fcB (M : Mir) : FS := (fIf (fBool (fBin gEq (fVar 4) (vE (fC (.str "some"))))) (fSeq (fSet 5 (fCall (g2 gMax2) (rCons (vE (fC (.int 0))) (rCons (vE (fBin PL.gSub (vE (fCall (g1 gLen) (rCons (vE (fCallP M.f_blocks (fCons (fLc (aSeq (eV (fVar 3))) (gN 7) fYes (fTup (fCons (fBin gIx (fVar 1) (fVar 7)) (fCons (eV (fVar 7)) fNil))) [7]) fNil))) rNil))) (vE (fC (.int 1))))) rNil)))) (fIf (fOr (fBool (fBin gIs (fVar 2) (vE (fC .none)))) (fBool (fBin gLt (vE (fTup (fCons (eV (fVar 5)) (fCons (eV (fVar 3)) fNil)))) (fVar 2)))) (fSet 2 (fTup (fCons (eV (fVar 5)) (fCons (eV (fVar 3)) fNil)))) fSkip)) fSkip)
theorem fst_map (ts : T0) (o : List Str) : (o.map fun x => (sid ts x, x)).map Prod.fst = o.map (sid ts) := by
  rw [List.map_map]
  rfl
theorem fc_step (M : Mir) (hB : HB M) (ts : T0) (o : List Str) (hs : ∀ x ∈ o, x ∈ ts.map Prod.snd) (ne : o ≠ []) (ho : o.length ≤ 100) (w : Bool) (G s5 : Sl) (b : Option (List Str)) :
    ∃ s5', fcB M [G, .fz (.dict (sdD ts)), .fz (bK ts b), .fz (tpl o), .fz (.str (sd w)), s5, .un, .un] = some (.nx [G, .fz (.dict (sdD ts)), .fz (bK ts (if w = true then stepM ts b o else b)), .fz (tpl o), .fz (.str (sd w)), s5', .un, .un]) := by
  cases w with
  | false =>
    refine ⟨s5, ?_⟩
    have : (sd false = "some") = False := by decide
    simp (decide := true) only [fcB, Mir.next, dPure, dIo, endI, args0, argsI, fSeq, fIf, fSet, fSetN, fRet, fRetN, fDrop, fSkip, fAsg, fPar, xMk, fBool, fTruth, truth, fNot, fAnd, fOr, fBin, fUn, fVar, vE, eV, fzr, fC, rd, fCallP, fCallI, fCons, fNil, rCons, rNil, fCall, rds, g1, fTup, fLst, vNot, vAnd, vOr, vIf, heldAt, heldL, PL.putAt, Sl.held, Sl.put, fMut, mApp, gN, gTn, gsCons, gsNil, gPut, putD, aSeq, seqD, fYes, okW, wipeA, backA, fFor, fLc, fDc, fSc, fSortSet, gIsi, isK, gLen, gIntT, gTuple, gList, gDict, hdK_nil, hdK_i, hdK_s, dKey, gIs, gIsNot, isD, gEq_str, gNe_str, gEq_int, gNe_int, gEq_bool, gNe_bool, gIx_t0, gIx_t1, gIx_t2, gIx_l0, gIx_l1, gIx_l2, gIn2, gInL2, List.length_cons, List.length_nil, List.map_cons, List.map_nil, List.replicate, List.cons_append, List.nil_append, List.getElem?_cons_zero, List.getElem?_cons_succ, List.set_cons_zero, List.set_cons_succ, Nat.reduceAdd, Nat.reduceSub, Nat.reduceEqDiff, List.all_cons, List.all_nil, Option.isNone, Option.map_some, Option.map_none, Bool.and_self, Bool.and_true, Bool.true_and, Bool.and_false, Bool.false_and, Bool.or_true, Bool.true_or, Bool.or_false, Bool.false_or, Bool.or_self, Bool.not_true, Bool.not_false, if_true, if_false, reduceIte, Bool.false_eq_true, decide_true, decide_false, ite_true, ite_false, this]
  | true =>
    have tlf := turn_list2 ts o hs G (.fz (bK ts b)) (.fz (.str (sd true))) s5 ho
    obtain ⟨bs, hb, e⟩ := hB true (o.map fun x => (sid ts x, x)) (by rw [List.length_map]; exact ho)
    have e' : M.f_blocks [tl (o.map fun x => (sid ts x, x))] = some (.list (bs.map bD)) := e
    have len := blk_cnt hb (by cases o with | nil => exact absurd rfl ne | cons _ _ => exact fun z => by simp at z)
    rw [fst_map] at len
    have l2 : ((bs.map bD).length : Int) = ((cnt ts o : Nat) : Int) + 1 := by
      rw [List.length_map, len]
      rfl
    have mx : g2 gMax2 [.int 0, .int (((cnt ts o : Nat) : Int) + 1 - 1)] = some (.int ((cnt ts o : Nat) : Int)) := by
      show some (PyData.int (if ((cnt ts o : Nat) : Int) + 1 - 1 > 0 then ((cnt ts o : Nat) : Int) + 1 - 1 else 0)) = _
      congr 2
      split <;> omega
    refine ⟨.fz (.int ((cnt ts o : Nat) : Int)), ?_⟩
    have s1 : (sd true = "some") = True := by decide
    have lt : ∀ c, gLt (.tuple [.int (cnt ts o : Int), tpl o]) (.tuple [.int (cnt ts c : Int), tpl c]) = some (.bool (PySem.W.dataLt (kD ts o) (kD ts c))) := fun c => gLt_kD ts o c
    rw [if_pos rfl]
    cases b with
    | none =>
      rw [show bK ts none = PyData.none from rfl] at tlf ⊢
      rw [show bK ts (stepM ts none o) = PyData.tuple [.int (cnt ts o : Int), tpl o] from rfl]
      simp (decide := true) only [fcB, Mir.next, dPure, dIo, endI, args0, argsI, fSeq, fIf, fSet, fSetN, fRet, fRetN, fDrop, fSkip, fAsg, fPar, xMk, fBool, fTruth, truth, fNot, fAnd, fOr, fBin, fUn, fVar, vE, eV, fzr, fC, rd, fCallP, fCallI, fCons, fNil, rCons, rNil, fCall, rds, g1, fTup, fLst, vNot, vAnd, vOr, vIf, heldAt, heldL, PL.putAt, Sl.held, Sl.put, fMut, mApp, gN, gTn, gsCons, gsNil, gPut, putD, aSeq, seqD, fYes, okW, wipeA, backA, fFor, fDc, fSc, fSortSet, gIsi, isK, gLen, gIntT, gTuple, gList, gDict, hdK_nil, hdK_i, hdK_s, dKey, gIs, gIsNot, isD, gEq_str, gNe_str, gEq_int, gNe_int, gEq_bool, gNe_bool, gIx_t0, gIx_t1, gIx_t2, gIx_l0, gIx_l1, gIx_l2, gIn2, gInL2, List.length_cons, List.length_nil, List.map_cons, List.map_nil, List.replicate, List.cons_append, List.nil_append, List.getElem?_cons_zero, List.getElem?_cons_succ, List.set_cons_zero, List.set_cons_succ, Nat.reduceAdd, Nat.reduceSub, Nat.reduceEqDiff, List.all_cons, List.all_nil, Option.isNone, Option.map_some, Option.map_none, Bool.and_self, Bool.and_true, Bool.true_and, Bool.and_false, Bool.false_and, Bool.or_true, Bool.true_or, Bool.or_false, Bool.false_or, Bool.or_self, Bool.not_true, Bool.not_false, if_true, if_false, reduceIte, Bool.false_eq_true, decide_true, decide_false, ite_true, ite_false, s1, tlf, e', l2, PL.gSub, gInt, mx]
    | some c =>
      have lc := lt c
      rw [show bK ts (some c) = PyData.tuple [.int (cnt ts c : Int), tpl c] from rfl] at tlf ⊢
      cases q : PySem.W.dataLt (kD ts o) (kD ts c) with
      | true =>
        rw [q] at lc
        have rhs : bK ts (stepM ts (some c) o) = PyData.tuple [.int (cnt ts o : Int), tpl o] := by
          show bK ts (if PySem.W.dataLt (kD ts o) (kD ts c) = true then some o else some c) = _
          rw [if_pos q]
          rfl
        rw [rhs]
        simp (decide := true) only [fcB, Mir.next, dPure, dIo, endI, args0, argsI, fSeq, fIf, fSet, fSetN, fRet, fRetN, fDrop, fSkip, fAsg, fPar, xMk, fBool, fTruth, truth, fNot, fAnd, fOr, fBin, fUn, fVar, vE, eV, fzr, fC, rd, fCallP, fCallI, fCons, fNil, rCons, rNil, fCall, rds, g1, fTup, fLst, vNot, vAnd, vOr, vIf, heldAt, heldL, PL.putAt, Sl.held, Sl.put, fMut, mApp, gN, gTn, gsCons, gsNil, gPut, putD, aSeq, seqD, fYes, okW, wipeA, backA, fFor, fDc, fSc, fSortSet, gIsi, isK, gLen, gIntT, gTuple, gList, gDict, hdK_nil, hdK_i, hdK_s, dKey, gIs, gIsNot, isD, gEq_str, gNe_str, gEq_int, gNe_int, gEq_bool, gNe_bool, gIx_t0, gIx_t1, gIx_t2, gIx_l0, gIx_l1, gIx_l2, gIn2, gInL2, List.length_cons, List.length_nil, List.map_cons, List.map_nil, List.replicate, List.cons_append, List.nil_append, List.getElem?_cons_zero, List.getElem?_cons_succ, List.set_cons_zero, List.set_cons_succ, Nat.reduceAdd, Nat.reduceSub, Nat.reduceEqDiff, List.all_cons, List.all_nil, Option.isNone, Option.map_some, Option.map_none, Bool.and_self, Bool.and_true, Bool.true_and, Bool.and_false, Bool.false_and, Bool.or_true, Bool.true_or, Bool.or_false, Bool.false_or, Bool.or_self, Bool.not_true, Bool.not_false, if_true, if_false, reduceIte, Bool.false_eq_true, decide_true, decide_false, ite_true, ite_false, s1, tlf, e', l2, PL.gSub, gInt, mx, lc]
      | false =>
        rw [q] at lc
        have rhs : bK ts (stepM ts (some c) o) = PyData.tuple [.int (cnt ts c : Int), tpl c] := by
          show bK ts (if PySem.W.dataLt (kD ts o) (kD ts c) = true then some o else some c) = _
          rw [if_neg (by rw [q]; exact Bool.false_ne_true)]
          rfl
        rw [rhs]
        simp (decide := true) only [fcB, Mir.next, dPure, dIo, endI, args0, argsI, fSeq, fIf, fSet, fSetN, fRet, fRetN, fDrop, fSkip, fAsg, fPar, xMk, fBool, fTruth, truth, fNot, fAnd, fOr, fBin, fUn, fVar, vE, eV, fzr, fC, rd, fCallP, fCallI, fCons, fNil, rCons, rNil, fCall, rds, g1, fTup, fLst, vNot, vAnd, vOr, vIf, heldAt, heldL, PL.putAt, Sl.held, Sl.put, fMut, mApp, gN, gTn, gsCons, gsNil, gPut, putD, aSeq, seqD, fYes, okW, wipeA, backA, fFor, fDc, fSc, fSortSet, gIsi, isK, gLen, gIntT, gTuple, gList, gDict, hdK_nil, hdK_i, hdK_s, dKey, gIs, gIsNot, isD, gEq_str, gNe_str, gEq_int, gNe_int, gEq_bool, gNe_bool, gIx_t0, gIx_t1, gIx_t2, gIx_l0, gIx_l1, gIx_l2, gIn2, gInL2, List.length_cons, List.length_nil, List.map_cons, List.map_nil, List.replicate, List.cons_append, List.nil_append, List.getElem?_cons_zero, List.getElem?_cons_succ, List.set_cons_zero, List.set_cons_succ, Nat.reduceAdd, Nat.reduceSub, Nat.reduceEqDiff, List.all_cons, List.all_nil, Option.isNone, Option.map_some, Option.map_none, Bool.and_self, Bool.and_true, Bool.true_and, Bool.and_false, Bool.false_and, Bool.or_true, Bool.true_or, Bool.or_false, Bool.false_or, Bool.or_self, Bool.not_true, Bool.not_false, if_true, if_false, reduceIte, Bool.false_eq_true, decide_true, decide_false, ite_true, ite_false, s1, tlf, e', l2, PL.gSub, gInt, mx, lc]
def someO (xs : List Str) (ts : T0) (f : Fm) : List (List Str) := (ordsN xs.length xs).filter fun o => Wn ts f o
theorem e_fewest (M : Mir) (hB : HB M) (xs : List Str) (l : Lts xs) (ts : T0) (p : (ts.map Prod.snd).Perm xs) (f : Fm) (h : M.f_all_orders [gam ts f.d] = some (dueD xs ts f)) :
    M.next.f_fewest_changes [gam ts f.d] = some (bK ts ((someO xs ts f).foldl (stepM ts) none)) := by
  have h5 := lts_le l
  have lt : ts.length = xs.length := by have := p.length_eq; rw [List.length_map] at this; exact this
  have nd : (ts.map Prod.snd).Nodup := p.nodup_iff.mpr l.nd
  have d1 := sdf_loop ts (by omega) nd (.fz (gam ts f.d)) .un .un .un .un .un ts [] rfl
  have e0 : sdD [] = [] := rfl
  rw [e0] at d1
  obtain ⟨st, ⟨s3, s4, s5, e1⟩, h2⟩ := loopF_inv (g := gTn 2 (gsCons (gN 3) (gsCons (gN 4) gsNil))) (body := fcB M) (rowD ts f)
    (fun r st => ∃ (b : Option (List Str)) (s3 s4 s5 : Sl), st = [.fz (gam ts f.d), .fz (.dict (sdD ts)), .fz (bK ts b), s3, s4, s5, .un, .un] ∧ (r.filter fun o => Wn ts f o).foldl (stepM ts) b = (someO xs ts f).foldl (stepM ts) none ∧ ∀ o ∈ r, o ∈ ordsN xs.length xs)
    (fun st => ∃ s3 s4 s5, st = [.fz (gam ts f.d), .fz (.dict (sdD ts)), .fz (bK ts ((someO xs ts f).foldl (stepM ts) none)), s3, s4, s5, .un, .un])
    (fun st ⟨b, s3, s4, s5, e1, e2, _⟩ => ⟨s3, s4, s5, by rw [e1, ← e2]; rfl⟩)
    (fun o r st ⟨b, s3, s4, s5, e1, e2, e3⟩ => by
      subst e1
      have ho := e3 o List.mem_cons_self
      have po := ords_perm xs.length xs rfl l.nd o ho
      have ol := po.length_eq
      have ne : o ≠ [] := fun z => by rw [z] at ol; rcases l.len with h | h <;> rw [h] at ol <;> cases ol
      obtain ⟨s5', e⟩ := fc_step M hB ts o (fun x hx => p.mem_iff.mpr (po.mem_iff.mp hx)) ne (by omega) (Wn ts f o) (.fz (gam ts f.d)) s5 b
      refine ⟨_, _, rfl, e, _, _, _, _, rfl, ?_, fun q hq => e3 q (List.mem_cons_of_mem _ hq)⟩
      rw [← e2]
      cases w : Wn ts f o with
      | true => rw [List.filter_cons_of_pos w, List.foldl_cons]; rfl
      | false => rw [List.filter_cons_of_neg (by rw [w]; exact Bool.false_ne_true)]; rfl)
    (ordsN xs.length xs) [.fz (gam ts f.d), .fz (.dict (sdD ts)), .fz .none, .un, .un, .un, .un, .un] ⟨none, _, _, _, rfl, rfl, fun o ho => ho⟩
  subst e1
  show dPure 8 1 (fSeq (fSet 1 (fDc (aSeq (fBin gIx (fVar 0) (vE (fC (.int 0))))) (gTn 2 (gsCons (gN 4) (gsCons (gN 6) gsNil))) fYes (eV (fVar 6)) (eV (fVar 4)) [4, 6])) (fSeq (fSet 2 (fC .none)) (fSeq (fFor (aSeq (fCallP M.f_all_orders (fCons (eV (fVar 0)) fNil))) (gTn 2 (gsCons (gN 3) (gsCons (gN 4) gsNil))) (fcB M)) (fRet (eV (fVar 2)))))) [gam ts f.d] = _
  have e1 : tn ts = .tuple (ts.map tD) := rfl
  have ed : dueD xs ts f = .list ((ordsN xs.length xs).map (rowD ts f)) := rfl
  rw [ed] at h
  unfold gam at d1 h2 h ⊢
  rw [e1] at d1 h2 h ⊢
  simp (decide := true) only [Mir.next, dPure, dIo, endI, args0, argsI, fSeq, fIf, fSet, fSetN, fRet, fRetN, fDrop, fSkip, fAsg, fPar, xMk, fBool, fTruth, truth, fNot, fAnd, fOr, fBin, fUn, fVar, vE, eV, fzr, fC, rd, fCallP, fCallI, fCons, fNil, rCons, rNil, fCall, rds, g1, fTup, fLst, vNot, vAnd, vOr, vIf, heldAt, heldL, PL.putAt, Sl.held, Sl.put, fMut, mApp, gN, gTn, gsCons, gsNil, gPut, putD, aSeq, seqD, fYes, okW, wipeA, backA, fFor, fLc, fDc, fSc, fSortSet, gIsi, isK, gLen, gIntT, gTuple, gList, gDict, hdK_nil, hdK_i, hdK_s, dKey, gIs, gIsNot, isD, gEq_str, gNe_str, gEq_int, gNe_int, gEq_bool, gNe_bool, gIx_t0, gIx_t1, gIx_t2, gIx_l0, gIx_l1, gIx_l2, gIn2, gInL2, List.length_cons, List.length_nil, List.map_cons, List.map_nil, List.replicate, List.cons_append, List.nil_append, List.getElem?_cons_zero, List.getElem?_cons_succ, List.set_cons_zero, List.set_cons_succ, Nat.reduceAdd, Nat.reduceSub, Nat.reduceEqDiff, List.all_cons, List.all_nil, Option.isNone, Option.map_some, Option.map_none, Bool.and_self, Bool.and_true, Bool.true_and, Bool.and_false, Bool.false_and, Bool.or_true, Bool.true_or, Bool.or_false, Bool.false_or, Bool.or_self, Bool.not_true, Bool.not_false, if_true, if_false, reduceIte, Bool.false_eq_true, decide_true, decide_false, ite_true, ite_false, d1, h, h2]
end K11
namespace K11
open PySem PySem.Spec PyProof.Rows L2 PL
def leS (a b : Str) : Bool := PySem.W.dataLe false id (PyData.str a) (PyData.str b)
def srtL (ls : List Str) : List Str := ls.mergeSort leS
theorem srt_strs (ls : List Str) : sortD (ls.map PyData.str) = (srtL ls).map PyData.str := by
  unfold sortD srtL
  exact (List.map_mergeSort (f := PyData.str) (r := leS) (s := PySem.W.dataLe false id) fun a _ b _ => rfl).symm
theorem le_pairs : ∀ s : Bool, ∀ a ∈ L5, ∀ b ∈ L5, leS a b = PySem.W.dataLe false id (tD (s, a)) (tD (s, b)) := by decide +kernel
def prs (s : Bool) (ls : List Str) : T0 := ls.map fun x => (s, x)
theorem srt_prs (s : Bool) (ls : List Str) (h : ∀ x ∈ ls, x ∈ L5) : sortD ((prs s ls).map tD) = (prs s (srtL ls)).map tD := by
  unfold sortD srtL prs
  rw [List.map_map, List.map_map]
  exact (List.map_mergeSort fun a ha b hb => le_pairs s a (h a ha) b (h b hb)).symm
theorem plain_tDs : ∀ ts : T0, PyData.plainAll (ts.map tD) = true
  | [] => rfl
  | t :: ts => by
    rw [List.map_cons, PyData.plainAll, plain_tDs ts]
    rfl
theorem depth_tDs : ∀ ts : T0, PyData.depthAll (ts.map tD) ≤ 1
  | [] => Nat.zero_le _
  | t :: ts => by
    rw [List.map_cons, PyData.depthAll]
    have := depth_tDs ts
    have : PyData.depth (tD t) = 1 := rfl
    omega
theorem ok_tDs (ts : T0) : sortOk (ts.map tD) = true := by
  unfold sortOk
  rw [plain_tDs]
  have := depth_tDs ts
  simp only [Bool.true_and, Bool.and_eq_true, decide_eq_true_eq, Bool.or_eq_true]
  refine ⟨⟨?_, by omega⟩, .inl ?_⟩
  · rw [List.all_eq_true]
    intro x hx
    rw [List.all_eq_true]
    intro y hy
    obtain ⟨a, _, rfl⟩ := List.mem_map.mp hx
    obtain ⟨b, _, rfl⟩ := List.mem_map.mp hy
    rfl
  · rw [List.all_eq_true]
    intro x hx
    obtain ⟨a, _, rfl⟩ := List.mem_map.mp hx
    rfl
theorem gNe_tDs (ts : T0) : gNe (.list (ts.map tD)) (.list []) = some (.bool (!ts.isEmpty)) := by
  have h := gNe_lnil (ts.map tD) (plain_tDs ts) (by have := depth_tDs ts; omega)
  rw [List.isEmpty_map] at h
  exact h
def spr (b : Bk) : T0 := prs b.1 (srtL b.2)
theorem spr_len (b : Bk) : (spr b).length = b.2.length := by
  unfold spr prs srtL
  rw [List.length_map, List.length_mergeSort]
theorem spr_snd (b : Bk) : ((spr b).map Prod.snd).Perm b.2 := by
  unfold spr prs srtL
  rw [List.map_map]
  have : (Prod.snd ∘ fun x : Str => (b.1, x)) = id := rfl
  rw [this, List.map_id]
  exact List.mergeSort_perm _ _
theorem blk_letters {ts : T0} {bs : List Bk} (h : Blk ts bs) : bs.flatMap (·.2) = ts.map Prod.snd := by
  induction h with
  | nil => rfl
  | @snoc ts bs cs t _ st ih =>
    rw [List.map_append, ← ih]
    rcases bstep_inv st with ⟨rfl, rfl⟩ | ⟨init, ls, rfl, rfl⟩ | ⟨init, s, ls, _, rfl, rfl⟩
    · rfl
    · rw [List.flatMap_append, List.flatMap_append, List.flatMap_cons, List.flatMap_cons, List.flatMap_nil, List.append_nil, List.append_nil, List.append_assoc]
      rfl
    · rw [List.flatMap_append]
      rfl
theorem blk_ne {ts : T0} {bs : List Bk} (h : Blk ts bs) : ∀ b ∈ bs, b.2 ≠ [] := by
  induction h with
  | nil => exact fun b hb => nomatch hb
  | @snoc ts bs cs t _ st ih =>
    rcases bstep_inv st with ⟨rfl, rfl⟩ | ⟨init, ls, rfl, rfl⟩ | ⟨init, s, ls, _, rfl, rfl⟩
    · intro b hb
      rw [List.mem_singleton.mp hb]
      exact fun z => by cases z
    · intro b hb
      rcases List.mem_append.mp hb with hb | hb
      · exact ih b (List.mem_append_left _ hb)
      · rw [List.mem_singleton.mp hb]
        exact fun z => by simp at z
    · intro b hb
      rcases List.mem_append.mp hb with hb | hb
      · exact ih b hb
      · rw [List.mem_singleton.mp hb]
        exact fun z => by cases z
theorem perm_fm {α β : Type} {f g : α → List β} : ∀ {l : List α}, (∀ a ∈ l, (f a).Perm (g a)) → (l.flatMap f).Perm (l.flatMap g)
  | [], _ => List.Perm.refl _
  | a :: l, h => by
    rw [List.flatMap_cons, List.flatMap_cons]
    exact (h a List.mem_cons_self).append (perm_fm fun b hb => h b (List.mem_cons_of_mem _ hb))
theorem ilo_perm {ts : T0} {bs : List Bk} (h : Blk ts bs) : ((bs.flatMap spr).map Prod.snd).Perm (ts.map Prod.snd) := by
  rw [← blk_letters h, List.map_flatMap]
  exact perm_fm fun b _ => spr_snd b
theorem bstep_det {bs cs ds : List Bk} {t : Bool × Str} (h : BStep bs t cs) (h2 : BStep bs t ds) : cs = ds := by
  rcases bstep_inv h with ⟨e1, rfl⟩ | ⟨i1, l1, e1, rfl⟩ | ⟨i1, s1, l1, n1, e1, rfl⟩ <;> rcases bstep_inv h2 with ⟨e2, rfl⟩ | ⟨i2, l2, e2, rfl⟩ | ⟨i2, s2, l2, n2, e2, rfl⟩ <;> subst e1
  · rfl
  · exact absurd e2 (by simp)
  · exact absurd e2 (by simp)
  · exact absurd e2 (by simp)
  · have z := List.append_inj' e2 rfl
    have w := (List.cons.inj z.2).1
    rw [z.1, (Prod.mk.inj w).2]
  · have z := List.append_inj' e2 rfl
    have w := (List.cons.inj z.2).1
    exact absurd (Prod.mk.inj w).1.symm n2
  · exact absurd e2 (by simp)
  · have z := List.append_inj' e2 rfl
    have w := (List.cons.inj z.2).1
    exact absurd (Prod.mk.inj w).1 n1
  · rw [e2]
theorem blk_inv {ts us : T0} {t : Bool × Str} {cs : List Bk} (h : Blk us cs) (e : us = ts ++ [t]) : ∃ bs, Blk ts bs ∧ BStep bs t cs := by
  cases h with
  | nil => exact absurd e (by simp)
  | @snoc ts' bs cs t' hb st =>
    have z := List.append_inj' e rfl
    have w := (List.cons.inj z.2).1
    rw [z.1] at hb
    rw [w] at st
    exact ⟨bs, hb, st⟩
theorem blk_unique {ts : T0} {bs : List Bk} (h : Blk ts bs) : ∀ {cs : List Bk}, Blk ts cs → bs = cs := by
  induction h with
  | nil =>
    intro cs h2
    generalize e : ([] : T0) = us at h2
    cases h2 with
    | nil => rfl
    | snoc _ _ => exact absurd e.symm (by simp)
  | @snoc ts bs cs t hb st ih =>
    intro ds h2
    obtain ⟨bs', h3, h4⟩ := blk_inv h2 rfl
    rw [← ih h3] at h4
    exact bstep_det st h4
/-! ### in_letter_order -/
def ilB : FS := (fDrop (fExt 1 (fLc (aSeq (fCall (g1 gSort) (rCons (fVar 3) rNil))) (gN 4) fYes (fTup (fCons (eV (fVar 2)) (fCons (eV (fVar 4)) fNil))) [4])))
def PX (M : Mir) : Prop := ∀ (b : Bool) (us : T0) (f : Dt), us.length ≤ 100 → (us.map Prod.snd).Nodup → M.f_plain_game [TL b us, f] = some (gam us f)
theorem il_step (G : Sl) (b : Bk) (hb : b.2.length ≤ 100) (acc : T0) (ha : acc.length ≤ 1000) : ilB [G, .ow (tl acc), .fz (.str (sd b.1)), .fz (tpl b.2), .un] = some (.nx [G, .ow (tl (acc ++ spr b)), .fz (.str (sd b.1)), .fz (tpl b.2), .un]) := by
  have big : (10000 : Nat) < sizeLine := by decide
  have sl : (srtL b.2).length = b.2.length := List.length_mergeSort _
  have so := sortOk_strs b.2
  have ss := srt_strs b.2
  have c1 := loopC_pure (g := gN 4) (tt := fYes) (te := fTup (fCons (eV (fVar 2)) (fCons (eV (fVar 4)) fNil))) (vs := [4]) (st := [G, .ow (tl acc), .fz (.str (sd b.1)), .fz (tpl b.2), .un]) (fun x => some (tD (b.1, x))) PyData.str (srtL b.2) []
    (fun x hx => ⟨[G, .ow (tl acc), .fz (.str (sd b.1)), .fz (tpl b.2), .fz (.str x)], rfl, .inr ⟨[G, .ow (tl acc), .fz (.str (sd b.1)), .fz (tpl b.2), .fz (.str x)], _, [G, .ow (tl acc), .fz (.str (sd b.1)), .fz (tpl b.2), .fz (.str x)], rfl, by simp (decide := true) only [Mir.next, dPure, dIo, endI, args0, argsI, fSeq, fIf, fSet, fSetN, fRet, fRetN, fDrop, fSkip, fAsg, fPar, xMk, fBool, fTruth, truth, fNot, fAnd, fOr, fBin, fUn, fVar, vE, eV, fzr, fC, rd, fCallP, fCallI, fCons, fNil, rCons, rNil, fCall, rds, g1, fTup, fLst, vNot, vAnd, vOr, vIf, heldAt, heldL, PL.putAt, Sl.held, Sl.put, fMut, mApp, gN, gTn, gsCons, gsNil, gPut, putD, aSeq, seqD, fYes, okW, wipeA, backA, fFor, fLc, fDc, fSc, fSortSet, gIsi, isK, gLen, gIntT, gTuple, gList, gDict, hdK_nil, hdK_i, hdK_s, dKey, gIs, gIsNot, isD, gEq_str, gNe_str, gEq_int, gNe_int, gEq_bool, gNe_bool, gIx_t0, gIx_t1, gIx_t2, gIx_l0, gIx_l1, gIx_l2, gIn2, gInL2, List.length_cons, List.length_nil, List.map_cons, List.map_nil, List.replicate, List.cons_append, List.nil_append, List.getElem?_cons_zero, List.getElem?_cons_succ, List.set_cons_zero, List.set_cons_succ, Nat.reduceAdd, Nat.reduceSub, Nat.reduceEqDiff, List.all_cons, List.all_nil, Option.isNone, Option.map_some, Option.map_none, Bool.and_self, Bool.and_true, Bool.true_and, Bool.and_false, Bool.false_and, Bool.or_true, Bool.true_or, Bool.or_false, Bool.false_or, Bool.or_self, Bool.not_true, Bool.not_false, if_true, if_false, reduceIte, Bool.false_eq_true, decide_true, decide_false, ite_true, ite_false, tD], rfl, rfl⟩⟩) (by rw [List.length_nil]; omega)
  rw [fm_some, List.nil_append] at c1
  have e1 : (srtL b.2).map (fun x => tD (b.1, x)) = (spr b).map tD := by
    unfold spr prs
    rw [List.map_map]
    rfl
  rw [e1] at c1
  have e0 : tpl b.2 = .tuple (b.2.map PyData.str) := rfl
  have e2 : ∀ us : T0, tl us = .list (us.map tD) := fun _ => rfl
  have z : (acc.map tD).length + ((spr b).map tD).length ≤ sizeLine := by rw [List.length_map, List.length_map, spr_len]; omega
  unfold ilB
  rw [e0, e2] at c1 ⊢
  rw [e2, List.map_append]
  simp (decide := true) only [Mir.next, dPure, dIo, endI, args0, argsI, fSeq, fIf, fSet, fSetN, fRet, fRetN, fDrop, fSkip, fAsg, fPar, xMk, fBool, fTruth, truth, fNot, fAnd, fOr, fBin, fUn, fVar, vE, eV, fzr, fC, rd, fCallP, fCallI, fCons, fNil, rCons, rNil, fCall, rds, g1, fTup, fLst, vNot, vAnd, vOr, vIf, heldAt, heldL, PL.putAt, Sl.held, Sl.put, fMut, mApp, gN, gTn, gsCons, gsNil, gPut, putD, aSeq, seqD, fYes, okW, wipeA, backA, fFor, fLc, fDc, fSc, fSortSet, gIsi, isK, gLen, gIntT, gTuple, gList, gDict, hdK_nil, hdK_i, hdK_s, dKey, gIs, gIsNot, isD, gEq_str, gNe_str, gEq_int, gNe_int, gEq_bool, gNe_bool, gIx_t0, gIx_t1, gIx_t2, gIx_l0, gIx_l1, gIx_l2, gIn2, gInL2, List.length_cons, List.length_nil, List.map_cons, List.map_nil, List.replicate, List.cons_append, List.nil_append, List.getElem?_cons_zero, List.getElem?_cons_succ, List.set_cons_zero, List.set_cons_succ, Nat.reduceAdd, Nat.reduceSub, Nat.reduceEqDiff, List.all_cons, List.all_nil, Option.isNone, Option.map_some, Option.map_none, Bool.and_self, Bool.and_true, Bool.true_and, Bool.and_false, Bool.false_and, Bool.or_true, Bool.true_or, Bool.or_false, Bool.false_or, Bool.or_self, Bool.not_true, Bool.not_false, if_true, if_false, reduceIte, Bool.false_eq_true, decide_true, decide_false, ite_true, ite_false, gSort, so, ss, c1, mExt, z]
theorem e_ilo (M : Mir) (hB : HB M) (hP : PX M) (ts : T0) (f : Fm) (h : ts.length ≤ 100) (nd : (ts.map Prod.snd).Nodup) (bs : List Bk) (hb : Blk ts bs) : M.next.f_in_letter_order [gam ts f.d] = some (gam (bs.flatMap spr) f.d) := by
  obtain ⟨bs', hb', e⟩ := hB false ts h
  have eb := blk_unique hb' hb
  subst eb
  have e' : M.f_blocks [tn ts] = some (.list (bs'.map bD)) := e
  have tot : (bs'.flatMap spr).length = ts.length := by
    have := (ilo_perm hb').length_eq
    rw [List.length_map, List.length_map] at this
    exact this
  have bl := blk_len hb'
  obtain ⟨st, ⟨s2, s3, e1⟩, h2⟩ := loopF_inv (g := gTn 2 (gsCons (gN 2) (gsCons (gN 3) gsNil))) (body := ilB) bD
    (fun r st => ∃ (acc : T0) (s2 s3 : Sl), st = [.fz (gam ts f.d), .ow (tl acc), s2, s3, .un] ∧ acc ++ r.flatMap spr = bs'.flatMap spr ∧ ∀ b ∈ r, b ∈ bs')
    (fun st => ∃ s2 s3, st = [.fz (gam ts f.d), .ow (tl (bs'.flatMap spr)), s2, s3, .un])
    (fun st ⟨acc, s2, s3, e1, e2, _⟩ => ⟨s2, s3, by
      rw [List.flatMap_nil, List.append_nil] at e2
      rw [e1, e2]⟩)
    (fun b r st ⟨acc, s2, s3, e1, e2, e3⟩ => by
      subst e1
      rw [List.flatMap_cons, ← List.append_assoc] at e2
      have al : acc.length ≤ ts.length := by
        rw [← tot, ← e2, List.length_append, List.length_append]
        omega
      have hl := bl.2 b (e3 b List.mem_cons_self)
      exact ⟨_, _, rfl, il_step (.fz (gam ts f.d)) b (by omega) acc (by omega), acc ++ spr b, _, _, rfl, e2, fun c hc => e3 c (List.mem_cons_of_mem _ hc)⟩)
    bs' [.fz (gam ts f.d), .ow (tl []), .un, .un, .un] ⟨[], _, _, rfl, rfl, fun b hb => hb⟩
  subst e1
  have pg := hP true (bs'.flatMap spr) f.d (by omega) ((ilo_perm hb').nodup_iff.mpr nd)
  have pg' : M.f_plain_game [tl (bs'.flatMap spr), f.d] = some (gam (bs'.flatMap spr) f.d) := pg
  show dPure 5 1 (fSeq (fSetN 1 (fLst fNil)) (fSeq (fFor (aSeq (fCallP M.f_blocks (fCons (fBin gIx (fVar 0) (vE (fC (.int 0)))) fNil))) (gTn 2 (gsCons (gN 2) (gsCons (gN 3) gsNil))) ilB) (fRet (fCallP M.f_plain_game (fCons (eV (fVar 1)) (fCons (fBin gIx (fVar 0) (vE (fC (.int 2)))) fNil)))))) [gam ts f.d] = _
  have e0 : tl [] = .list [] := rfl
  rw [e0] at h2
  have eg : ∀ us : T0, gam us f.d = .tuple [tn us, .dict (sgD us), f.d] := fun _ => rfl
  rw [eg ts] at h2 ⊢
  simp (decide := true) only [Mir.next, dPure, dIo, endI, args0, argsI, fSeq, fIf, fSet, fSetN, fRet, fRetN, fDrop, fSkip, fAsg, fPar, xMk, fBool, fTruth, truth, fNot, fAnd, fOr, fBin, fUn, fVar, vE, eV, fzr, fC, rd, fCallP, fCallI, fCons, fNil, rCons, rNil, fCall, rds, g1, fTup, fLst, vNot, vAnd, vOr, vIf, heldAt, heldL, PL.putAt, Sl.held, Sl.put, fMut, mApp, gN, gTn, gsCons, gsNil, gPut, putD, aSeq, seqD, fYes, okW, wipeA, backA, fFor, fLc, fDc, fSc, fSortSet, gIsi, isK, gLen, gIntT, gTuple, gList, gDict, hdK_nil, hdK_i, hdK_s, dKey, gIs, gIsNot, isD, gEq_str, gNe_str, gEq_int, gNe_int, gEq_bool, gNe_bool, gIx_t0, gIx_t1, gIx_t2, gIx_l0, gIx_l1, gIx_l2, gIn2, gInL2, List.length_cons, List.length_nil, List.map_cons, List.map_nil, List.replicate, List.cons_append, List.nil_append, List.getElem?_cons_zero, List.getElem?_cons_succ, List.set_cons_zero, List.set_cons_succ, Nat.reduceAdd, Nat.reduceSub, Nat.reduceEqDiff, List.all_cons, List.all_nil, Option.isNone, Option.map_some, Option.map_none, Bool.and_self, Bool.and_true, Bool.true_and, Bool.and_false, Bool.false_and, Bool.or_true, Bool.true_or, Bool.or_false, Bool.false_or, Bool.or_self, Bool.not_true, Bool.not_false, if_true, if_false, reduceIte, Bool.false_eq_true, decide_true, decide_false, ite_true, ite_false, e', h2, pg']
end K11
namespace K11
open PySem PySem.Spec PyProof.Rows L2 PL
def lbB : FS := (fSeq (fIf (fAnd (fBool (fBin gNe (fVar 2) (vE (fLst fNil)))) (fBool (fBin gNe (vE (fBin gIx (vE (fBin gIx (fVar 2) (vE (fC (.int 0))))) (vE (fC (.int 0))))) (fVar 3)))) (fPar 1 2 false true (fBin gAdd (fVar 1) (vE (fCall (g1 gSort) (rCons (fVar 2) rNil)))) (fLst fNil)) fSkip) (fDrop (fApp 2 (fTup (fCons (eV (fVar 3)) (fCons (eV (fVar 4)) fNil))))))
/-- what is found and the block that goes on -/
inductive LB : List Bk → T0 → T0 → Prop
  | nil : LB [] [] []
  | at (init : List Bk) (s : Bool) (ls : List Str) : LB (init ++ [(s, ls)]) (init.flatMap spr) (prs s ls)
theorem prs_snoc (s : Bool) (ls : List Str) (x : Str) : prs s (ls ++ [x]) = prs s ls ++ [(s, x)] := by
  unfold prs
  rw [List.map_append]
  rfl
theorem lb_app (T s1 : Sl) (bl : T0) (t : Bool × Str) (hl : bl.length ≤ 1000) : (fDrop (fApp 2 (fTup (fCons (eV (fVar 3)) (fCons (eV (fVar 4)) fNil))))) [T, s1, .ow (tl bl), .fz (.str (sd t.1)), .fz (.str t.2)] = some (.nx [T, s1, .ow (tl (bl ++ [t])), .fz (.str (sd t.1)), .fz (.str t.2)]) := by
  have big : (10000 : Nat) < sizeLine := by decide
  have e2 : ∀ us : T0, tl us = .list (us.map tD) := fun _ => rfl
  have z : (bl.map tD).length < sizeLine := by rw [List.length_map]; omega
  have t0 : PyData.tuple [.str (sd t.1), .str t.2] = tD t := rfl
  rw [e2, e2, List.map_append]
  simp (decide := true) only [Mir.next, dPure, dIo, endI, args0, argsI, fSeq, fIf, fSet, fSetN, fRet, fRetN, fDrop, fSkip, fAsg, fPar, xMk, fBool, fTruth, truth, fNot, fAnd, fOr, fBin, fUn, fVar, vE, eV, fzr, fC, rd, fCallP, fCallI, fCons, fNil, rCons, rNil, fCall, rds, g1, fTup, fLst, vNot, vAnd, vOr, vIf, heldAt, heldL, PL.putAt, Sl.held, Sl.put, fMut, mApp, gN, gTn, gsCons, gsNil, gPut, putD, aSeq, seqD, fYes, okW, wipeA, backA, fFor, fLc, fDc, fSc, fSortSet, gIsi, isK, gLen, gIntT, gTuple, gList, gDict, hdK_nil, hdK_i, hdK_s, dKey, gIs, gIsNot, isD, gEq_str, gNe_str, gEq_int, gNe_int, gEq_bool, gNe_bool, gIx_t0, gIx_t1, gIx_t2, gIx_l0, gIx_l1, gIx_l2, gIn2, gInL2, List.length_cons, List.length_nil, List.map_cons, List.map_nil, List.replicate, List.cons_append, List.nil_append, List.getElem?_cons_zero, List.getElem?_cons_succ, List.set_cons_zero, List.set_cons_succ, Nat.reduceAdd, Nat.reduceSub, Nat.reduceEqDiff, List.all_cons, List.all_nil, Option.isNone, Option.map_some, Option.map_none, Bool.and_self, Bool.and_true, Bool.true_and, Bool.and_false, Bool.false_and, Bool.or_true, Bool.true_or, Bool.or_false, Bool.false_or, Bool.or_self, Bool.not_true, Bool.not_false, if_true, if_false, reduceIte, Bool.false_eq_true, decide_true, decide_false, ite_true, ite_false, z, t0]
theorem lb_step (T : Sl) (bs cs : List Bk) (t : Bool × Str) (fo bl : T0) (hb : BStep bs t cs) (h : LB bs fo bl) (hne : ∀ b ∈ bs, b.2 ≠ []) (h5 : ∀ b ∈ bs, ∀ x ∈ b.2, x ∈ L5) (hl : ∀ b ∈ bs, b.2.length ≤ 100) (hf : fo.length ≤ 1000) :
    ∃ fo' bl', LB cs fo' bl' ∧ lbB [T, .fz (tl fo), .ow (tl bl), .fz (.str (sd t.1)), .fz (.str t.2)] = some (.nx [T, .fz (tl fo'), .ow (tl bl'), .fz (.str (sd t.1)), .fz (.str t.2)]) := by
  have big : (10000 : Nat) < sizeLine := by decide
  have e2 : ∀ us : T0, tl us = .list (us.map tD) := fun _ => rfl
  rcases bstep_inv hb with ⟨rfl, rfl⟩ | ⟨init, ls, rfl, rfl⟩ | ⟨init, s, ls, ne, rfl, rfl⟩
  · generalize e : ([] : List Bk) = bs0 at h
    cases h with
    | nil =>
      refine ⟨[], [t], .at [] t.1 [t.2], ?_⟩
      have ap := lb_app T (.fz (tl [])) [] t (Nat.zero_le _)
      have q : gNe (tl []) (.list []) = some (.bool false) := gNe_tDs []
      unfold lbB
      refine (seq_nx (as1 := [T, .fz (tl []), .ow (tl []), .fz (.str (sd t.1)), .fz (.str t.2)]) ?_).trans ap
      simp (decide := true) only [Mir.next, dPure, dIo, endI, args0, argsI, fSeq, fIf, fSet, fSetN, fRet, fRetN, fDrop, fSkip, fAsg, fPar, xMk, fBool, fTruth, truth, fNot, fAnd, fOr, fBin, fUn, fVar, vE, eV, fzr, fC, rd, fCallP, fCallI, fCons, fNil, rCons, rNil, fCall, rds, g1, fTup, fLst, vNot, vAnd, vOr, vIf, heldAt, heldL, PL.putAt, Sl.held, Sl.put, fMut, mApp, gN, gTn, gsCons, gsNil, gPut, putD, aSeq, seqD, fYes, okW, wipeA, backA, fFor, fLc, fDc, fSc, fSortSet, gIsi, isK, gLen, gIntT, gTuple, gList, gDict, hdK_nil, hdK_i, hdK_s, dKey, gIs, gIsNot, isD, gEq_str, gNe_str, gEq_int, gNe_int, gEq_bool, gNe_bool, gIx_t0, gIx_t1, gIx_t2, gIx_l0, gIx_l1, gIx_l2, gIn2, gInL2, List.length_cons, List.length_nil, List.map_cons, List.map_nil, List.replicate, List.cons_append, List.nil_append, List.getElem?_cons_zero, List.getElem?_cons_succ, List.set_cons_zero, List.set_cons_succ, Nat.reduceAdd, Nat.reduceSub, Nat.reduceEqDiff, List.all_cons, List.all_nil, Option.isNone, Option.map_some, Option.map_none, Bool.and_self, Bool.and_true, Bool.true_and, Bool.and_false, Bool.false_and, Bool.or_true, Bool.true_or, Bool.or_false, Bool.false_or, Bool.or_self, Bool.not_true, Bool.not_false, if_true, if_false, reduceIte, Bool.false_eq_true, decide_true, decide_false, ite_true, ite_false, q]
    | «at» init s ls => exact absurd e.symm (by simp)
  · generalize e : init ++ [(t.1, ls)] = bs0 at h
    cases h with
    | nil => exact absurd e (by simp)
    | «at» init' s' ls' =>
      have z := List.append_inj' e rfl
      have w := Prod.mk.inj (List.cons.inj z.2).1
      obtain ⟨w1, w2⟩ := w
      have z1 := z.1
      subst z1
      subst w1
      subst w2
      have mem : (t.1, ls) ∈ init ++ [(t.1, ls)] := List.mem_append_right _ (List.mem_singleton.mpr rfl)
      have lne := hne _ mem
      have lle := hl _ mem
      dsimp only at lne lle
      refine ⟨init.flatMap spr, prs t.1 (ls ++ [t.2]), .at init t.1 (ls ++ [t.2]), ?_⟩
      rw [prs_snoc]
      have ap := lb_app T (.fz (tl (init.flatMap spr))) (prs t.1 ls) t (by unfold prs; rw [List.length_map]; omega)
      have q : gNe (tl (prs t.1 ls)) (.list []) = some (.bool true) := by
        rw [e2, gNe_tDs]
        cases ls with
        | nil => exact absurd rfl lne
        | cons _ _ => rfl
      have i0 : gIx (tl (prs t.1 ls)) (.int 0) = some (.tuple [.str (sd t.1), .str (ls.headD "")]) := by
        rw [e2, gIx_l0]
        cases ls with
        | nil => exact absurd rfl lne
        | cons _ _ => rfl
      have qn : gNe (.str (sd t.1)) (.str (sd t.1)) = some (.bool false) := by rw [gNe_str]; simp
      unfold lbB
      refine (seq_nx (as1 := [T, .fz (tl (init.flatMap spr)), .ow (tl (prs t.1 ls)), .fz (.str (sd t.1)), .fz (.str t.2)]) ?_).trans ap
      simp (decide := true) only [Mir.next, dPure, dIo, endI, args0, argsI, fSeq, fIf, fSet, fSetN, fRet, fRetN, fDrop, fSkip, fAsg, fPar, xMk, fBool, fTruth, truth, fNot, fAnd, fOr, fBin, fUn, fVar, vE, eV, fzr, fC, rd, fCallP, fCallI, fCons, fNil, rCons, rNil, fCall, rds, g1, fTup, fLst, vNot, vAnd, vOr, vIf, heldAt, heldL, PL.putAt, Sl.held, Sl.put, fMut, mApp, gN, gTn, gsCons, gsNil, gPut, putD, aSeq, seqD, fYes, okW, wipeA, backA, fFor, fLc, fDc, fSc, fSortSet, gIsi, isK, gLen, gIntT, gTuple, gList, gDict, hdK_nil, hdK_i, hdK_s, dKey, gIs, gIsNot, isD, gEq_str, gNe_str, gEq_int, gNe_int, gEq_bool, gNe_bool, gIx_t0, gIx_t1, gIx_t2, gIx_l0, gIx_l1, gIx_l2, gIn2, gInL2, List.length_cons, List.length_nil, List.map_cons, List.map_nil, List.replicate, List.cons_append, List.nil_append, List.getElem?_cons_zero, List.getElem?_cons_succ, List.set_cons_zero, List.set_cons_succ, Nat.reduceAdd, Nat.reduceSub, Nat.reduceEqDiff, List.all_cons, List.all_nil, Option.isNone, Option.map_some, Option.map_none, Bool.and_self, Bool.and_true, Bool.true_and, Bool.and_false, Bool.false_and, Bool.or_true, Bool.true_or, Bool.or_false, Bool.false_or, Bool.or_self, Bool.not_true, Bool.not_false, if_true, if_false, reduceIte, Bool.false_eq_true, decide_true, decide_false, ite_true, ite_false, q, i0, qn]
  · generalize e : init ++ [(s, ls)] = bs0 at h
    cases h with
    | nil => exact absurd e (by simp)
    | «at» init' s' ls' =>
      have z := List.append_inj' e rfl
      have w := Prod.mk.inj (List.cons.inj z.2).1
      obtain ⟨w1, w2⟩ := w
      have z1 := z.1
      subst z1
      subst w1
      subst w2
      have mem : (s, ls) ∈ init ++ [(s, ls)] := List.mem_append_right _ (List.mem_singleton.mpr rfl)
      have lne := hne _ mem
      have lle := hl _ mem
      have l5 := h5 _ mem
      dsimp only at lne lle l5
      refine ⟨(init ++ [(s, ls)]).flatMap spr, [t], .at (init ++ [(s, ls)]) t.1 [t.2], ?_⟩
      have ap := lb_app T (.fz (tl ((init ++ [(s, ls)]).flatMap spr))) [] t (Nat.zero_le _)
      have q : gNe (tl (prs s ls)) (.list []) = some (.bool true) := by
        rw [e2, gNe_tDs]
        cases ls with
        | nil => exact absurd rfl lne
        | cons _ _ => rfl
      have i0 : gIx (tl (prs s ls)) (.int 0) = some (.tuple [.str (sd s), .str (ls.headD "")]) := by
        rw [e2, gIx_l0]
        cases ls with
        | nil => exact absurd rfl lne
        | cons _ _ => rfl
      have qn : gNe (.str (sd s)) (.str (sd t.1)) = some (.bool true) := by
        rw [gNe_str, sd_inj]
        have : (s == t.1) = false := by
          cases hh : s == t.1 with
          | true => exact absurd (eq_of_beq hh) ne
          | false => rfl
        rw [this]
        rfl
      have so := ok_tDs (prs s ls)
      have ss := srt_prs s ls l5
      have gs : gSort (tl (prs s ls)) = some (tl (spr (s, ls))) := by
        show (if sortOk ((prs s ls).map tD) = true then some (PyData.list (sortD ((prs s ls).map tD))) else none) = _
        rw [if_pos so, ss]
        rfl
      have ad : gAdd (tl (init.flatMap spr)) (tl (spr (s, ls))) = some (tl ((init ++ [(s, ls)]).flatMap spr)) := by
        show (if ((init.flatMap spr).map tD).length + ((spr (s, ls)).map tD).length ≤ sizeLine then some (PyData.list ((init.flatMap spr).map tD ++ (spr (s, ls)).map tD)) else none) = _
        rw [if_pos (by rw [List.length_map, List.length_map, spr_len]; dsimp only; omega), ← List.map_append, List.flatMap_append, List.flatMap_cons, List.flatMap_nil, List.append_nil]
        rfl
      have en : tl [] = .list [] := rfl
      rw [en] at ap
      unfold lbB
      refine (seq_nx (as1 := [T, .fz (tl ((init ++ [(s, ls)]).flatMap spr)), .ow (.list []), .fz (.str (sd t.1)), .fz (.str t.2)]) ?_).trans ap
      simp (decide := true) only [Mir.next, dPure, dIo, endI, args0, argsI, fSeq, fIf, fSet, fSetN, fRet, fRetN, fDrop, fSkip, fAsg, fPar, xMk, fBool, fTruth, truth, fNot, fAnd, fOr, fBin, fUn, fVar, vE, eV, fzr, fC, rd, fCallP, fCallI, fCons, fNil, rCons, rNil, fCall, rds, g1, fTup, fLst, vNot, vAnd, vOr, vIf, heldAt, heldL, PL.putAt, Sl.held, Sl.put, fMut, mApp, gN, gTn, gsCons, gsNil, gPut, putD, aSeq, seqD, fYes, okW, wipeA, backA, fFor, fLc, fDc, fSc, fSortSet, gIsi, isK, gLen, gIntT, gTuple, gList, gDict, hdK_nil, hdK_i, hdK_s, dKey, gIs, gIsNot, isD, gEq_str, gNe_str, gEq_int, gNe_int, gEq_bool, gNe_bool, gIx_t0, gIx_t1, gIx_t2, gIx_l0, gIx_l1, gIx_l2, gIn2, gInL2, List.length_cons, List.length_nil, List.map_cons, List.map_nil, List.replicate, List.cons_append, List.nil_append, List.getElem?_cons_zero, List.getElem?_cons_succ, List.set_cons_zero, List.set_cons_succ, Nat.reduceAdd, Nat.reduceSub, Nat.reduceEqDiff, List.all_cons, List.all_nil, Option.isNone, Option.map_some, Option.map_none, Bool.and_self, Bool.and_true, Bool.true_and, Bool.and_false, Bool.false_and, Bool.or_true, Bool.true_or, Bool.or_false, Bool.false_or, Bool.or_self, Bool.not_true, Bool.not_false, if_true, if_false, reduceIte, Bool.false_eq_true, decide_true, decide_false, ite_true, ite_false, fPar, xMk, q, i0, qn, gs, ad]
theorem lb_len {bs : List Bk} {fo bl : T0} (h : LB bs fo bl) : fo.length ≤ (bs.flatMap (·.2)).length := by
  cases h with
  | nil => exact Nat.le_refl _
  | «at» init s ls =>
    rw [List.flatMap_append, List.length_append, List.length_flatMap, List.length_flatMap]
    have : (init.map fun a => (spr a).length) = init.map fun a => a.2.length := List.map_congr_left fun a _ => spr_len a
    rw [this]
    omega
theorem e_law_blocks (M : Mir) (ts : T0) (h : ts.length ≤ 100) (h5 : ∀ t ∈ ts, t.2 ∈ L5) : ∃ bs, Blk ts bs ∧ M.next.f__law_blocks [tl ts] = some (tl (bs.flatMap spr)) := by
  have big : (10000 : Nat) < sizeLine := by decide
  have e2 : ∀ us : T0, tl us = .list (us.map tD) := fun _ => rfl
  have info : ∀ {pre : T0} {bs : List Bk}, (∀ t ∈ pre, t.2 ∈ L5) → Blk pre bs → ∀ b ∈ bs, ∀ x ∈ b.2, x ∈ L5 := fun {pre bs} h5 hb b hbm x hx => by
    have : x ∈ bs.flatMap (·.2) := List.mem_flatMap.mpr ⟨b, hbm, hx⟩
    rw [blk_letters hb] at this
    obtain ⟨t, ht, rfl⟩ := List.mem_map.mp this
    exact h5 t ht
  obtain ⟨st, ⟨bs, fo, bl, s3, s4, e1, hb, hlb⟩, h2⟩ := loopF_inv (g := gTn 2 (gsCons (gN 3) (gsCons (gN 4) gsNil))) (body := lbB) tD
    (fun r st => ∃ (pre : T0) (bs : List Bk) (fo bl : T0) (s3 s4 : Sl), st = [.fz (tl ts), .fz (tl fo), .ow (tl bl), s3, s4] ∧ pre ++ r = ts ∧ Blk pre bs ∧ LB bs fo bl)
    (fun st => ∃ (bs : List Bk) (fo bl : T0) (s3 s4 : Sl), st = [.fz (tl ts), .fz (tl fo), .ow (tl bl), s3, s4] ∧ Blk ts bs ∧ LB bs fo bl)
    (fun st ⟨pre, bs, fo, bl, s3, s4, e1, e2, e3, e4⟩ => ⟨bs, fo, bl, s3, s4, e1, by
      rw [List.append_nil] at e2
      rw [← e2]
      exact e3, e4⟩)
    (fun t r st ⟨pre, bs, fo, bl, s3, s4, e1, e2, e3, e4⟩ => by
      subst e1
      obtain ⟨cs, hc⟩ := bstep_ex bs t
      have pl : pre.length ≤ ts.length := by rw [← e2, List.length_append]; omega
      have bl0 := blk_len e3
      have p5 : ∀ u ∈ pre, u.2 ∈ L5 := fun u hu => h5 u (by rw [← e2]; exact List.mem_append_left _ hu)
      have ll := lb_len e4
      rw [blk_letters e3, List.length_map] at ll
      obtain ⟨fo', bl', h1, h2⟩ := lb_step (.fz (tl ts)) bs cs t fo bl hc e4 (blk_ne e3) (info p5 e3) (fun b hb => by have := bl0.2 b hb; omega) (by omega)
      exact ⟨_, _, rfl, h2, pre ++ [t], cs, fo', bl', _, _, rfl, by rw [List.append_assoc]; exact e2, .snoc e3 hc, h1⟩)
    ts [.fz (tl ts), .fz (tl []), .ow (tl []), .un, .un] ⟨[], [], [], [], _, _, rfl, rfl, .nil, .nil⟩
  subst e1
  refine ⟨bs, hb, ?_⟩
  have ll := lb_len hlb
  rw [blk_letters hb, List.length_map] at ll
  have last : ∃ d, gSort (tl bl) = some d ∧ gAdd (tl fo) d = some (tl (bs.flatMap spr)) := by
    have i5 := info h5 hb
    have bl0 := blk_len hb
    cases hlb with
    | nil => exact ⟨.list [], by
        show (if sortOk (([] : T0).map tD) = true then some (PyData.list (sortD (([] : T0).map tD))) else none) = _
        rw [if_pos (ok_tDs [])]
        unfold sortD
        rw [List.map_nil, List.mergeSort_nil], rfl⟩
    | «at» init s ls =>
      have mem : (s, ls) ∈ init ++ [(s, ls)] := List.mem_append_right _ (List.mem_singleton.mpr rfl)
      have l5 := i5 _ mem
      have ll2 := bl0.2 _ mem
      dsimp only at l5 ll2
      refine ⟨tl (spr (s, ls)), ?_, ?_⟩
      · show (if sortOk ((prs s ls).map tD) = true then some (PyData.list (sortD ((prs s ls).map tD))) else none) = _
        rw [if_pos (ok_tDs _), srt_prs s ls l5]
        rfl
      · show (if ((init.flatMap spr).map tD).length + ((spr (s, ls)).map tD).length ≤ sizeLine then some (PyData.list ((init.flatMap spr).map tD ++ (spr (s, ls)).map tD)) else none) = _
        rw [if_pos (by rw [List.length_map, List.length_map, spr_len]; dsimp only; omega), ← List.map_append, List.flatMap_append, List.flatMap_cons, List.flatMap_nil, List.append_nil]
        rfl
  obtain ⟨d, g1', g2'⟩ := last
  show dPure 5 1 (fSeq (fPar 1 2 false true (fLst fNil) (fLst fNil)) (fSeq (fFor (aSeq (eV (fVar 0))) (gTn 2 (gsCons (gN 3) (gsCons (gN 4) gsNil))) lbB) (fRet (fBin gAdd (fVar 1) (vE (fCall (g1 gSort) (rCons (fVar 2) rNil))))))) [tl ts] = _
  have en : tl [] = .list [] := rfl
  rw [en, e2 ts] at h2
  rw [e2 ts]
  simp (decide := true) only [Mir.next, dPure, dIo, endI, args0, argsI, fSeq, fIf, fSet, fSetN, fRet, fRetN, fDrop, fSkip, fAsg, fPar, xMk, fBool, fTruth, truth, fNot, fAnd, fOr, fBin, fUn, fVar, vE, eV, fzr, fC, rd, fCallP, fCallI, fCons, fNil, rCons, rNil, fCall, rds, g1, fTup, fLst, vNot, vAnd, vOr, vIf, heldAt, heldL, PL.putAt, Sl.held, Sl.put, fMut, mApp, gN, gTn, gsCons, gsNil, gPut, putD, aSeq, seqD, fYes, okW, wipeA, backA, fFor, fLc, fDc, fSc, fSortSet, gIsi, isK, gLen, gIntT, gTuple, gList, gDict, hdK_nil, hdK_i, hdK_s, dKey, gIs, gIsNot, isD, gEq_str, gNe_str, gEq_int, gNe_int, gEq_bool, gNe_bool, gIx_t0, gIx_t1, gIx_t2, gIx_l0, gIx_l1, gIx_l2, gIn2, gInL2, List.length_cons, List.length_nil, List.map_cons, List.map_nil, List.replicate, List.cons_append, List.nil_append, List.getElem?_cons_zero, List.getElem?_cons_succ, List.set_cons_zero, List.set_cons_succ, Nat.reduceAdd, Nat.reduceSub, Nat.reduceEqDiff, List.all_cons, List.all_nil, Option.isNone, Option.map_some, Option.map_none, Bool.and_self, Bool.and_true, Bool.true_and, Bool.and_false, Bool.false_and, Bool.or_true, Bool.true_or, Bool.or_false, Bool.false_or, Bool.or_self, Bool.not_true, Bool.not_false, if_true, if_false, reduceIte, Bool.false_eq_true, decide_true, decide_false, ite_true, ite_false, fPar, xMk, h2, g1', g2']
end K11
namespace K11
open PySem PySem.Spec PyProof.Rows L2 PL
/-! ### swapped -/
def swp (ts : T0) (p : Nat) (t0 t1 : Bool × Str) : T0 := ts.take p ++ [t1, t0] ++ ts.drop (p + 2)
theorem split2 {ts : T0} {p : Nat} {t0 t1 : Bool × Str} (h0 : ts[p]? = some t0) (h1 : ts[p + 1]? = some t1) : ts = ts.take p ++ [t0, t1] ++ ts.drop (p + 2) := by
  have a0 := (List.getElem?_eq_some_iff.mp h0)
  have a1 := (List.getElem?_eq_some_iff.mp h1)
  obtain ⟨l0, e0⟩ := a0
  obtain ⟨l1, e1⟩ := a1
  have d0 : ts.drop p = t0 :: ts.drop (p + 1) := by rw [List.drop_eq_getElem_cons l0, e0]
  have d1 : ts.drop (p + 1) = t1 :: ts.drop (p + 2) := by rw [List.drop_eq_getElem_cons l1, e1]
  have e := List.take_append_drop p ts
  rw [d0, d1] at e
  rw [List.append_assoc]
  exact e.symm
theorem swp_set {ts : T0} {p : Nat} {t0 t1 : Bool × Str} (h0 : ts[p]? = some t0) (h1 : ts[p + 1]? = some t1) : (ts.set p t1).set (p + 1) t0 = swp ts p t0 t1 := by
  have l0 := (List.getElem?_eq_some_iff.mp h0).1
  have lt : (ts.take p).length = p := by rw [List.length_take]; omega
  have e := split2 h0 h1
  unfold swp
  generalize ts.take p = a at e lt ⊢
  generalize ts.drop (p + 2) = b at e ⊢
  subst e
  subst lt
  rw [List.append_assoc, List.append_assoc, List.set_append_right _ _ (Nat.le_refl _), Nat.sub_self]
  show (a ++ t1 :: t1 :: b).set (a.length + 1) t0 = a ++ t1 :: t0 :: b
  rw [List.set_append_right _ _ (Nat.le_succ _), show a.length + 1 - a.length = 1 by omega]
  rfl
theorem swp_perm {ts : T0} {p : Nat} {t0 t1 : Bool × Str} (h0 : ts[p]? = some t0) (h1 : ts[p + 1]? = some t1) : (swp ts p t0 t1).Perm ts := by
  have e := split2 h0 h1
  unfold swp
  generalize ts.take p = a at e ⊢
  generalize ts.drop (p + 2) = b at e ⊢
  subst e
  exact ((List.Perm.swap t0 t1 []).append_left a).append_right b
theorem ixN_at {n i : Nat} (h : i < n) : ixN n (i : Int) = some i := by
  unfold ixN
  rw [if_pos (by omega), if_pos (by omega)]
  rfl
theorem putD_at (ds : List D) (i : Nat) (d : D) (h : i < ds.length) : putD (.list ds) (.int (i : Int)) d = some (.list (ds.set i d)) := by
  show (match ixN ds.length (i : Int) with | some j => some (PyData.list (ds.set j d)) | none => none) = _
  rw [ixN_at h]
theorem e_swapped (M : Mir) (hP : PX M) (ts : T0) (f : Fm) (h : ts.length ≤ 100) (nd : (ts.map Prod.snd).Nodup) (p : Nat) (t0 t1 : Bool × Str) (h0 : ts[p]? = some t0) (h1 : ts[p + 1]? = some t1) :
    M.next.f_swapped [gam ts f.d, .int (p : Int)] = some (gam (swp ts p t0 t1) f.d) := by
  have l0 := (List.getElem?_eq_some_iff.mp h0).1
  have l1 := (List.getElem?_eq_some_iff.mp h1).1
  have g0 : gIx (.list (ts.map tD)) (.int (p : Int)) = some (tD t0) := by rw [gIx_ln, List.getElem?_map, h0]; rfl
  have g1' : gIx (.list (ts.map tD)) (.int ((p : Int) + 1)) = some (tD t1) := by rw [show (p : Int) + 1 = ((p + 1 : Nat) : Int) by omega, gIx_ln, List.getElem?_map, h1]; rfl
  have p0 := putD_at (ts.map tD) p (tD t1) (by rw [List.length_map]; exact l0)
  have p1 : putD (.list ((ts.map tD).set p (tD t1))) (.int ((p : Int) + 1)) (tD t0) = some (.list (((ts.map tD).set p (tD t1)).set (p + 1) (tD t0))) := by
    rw [show (p : Int) + 1 = ((p + 1 : Nat) : Int) by omega]
    exact putD_at _ (p + 1) _ (by rw [List.length_set, List.length_map]; exact l1)
  have es : ((ts.map tD).set p (tD t1)).set (p + 1) (tD t0) = (swp ts p t0 t1).map tD := by
    rw [← swp_set h0 h1, List.map_set, List.map_set]
  rw [es] at p1
  have sp := swp_perm h0 h1
  have sl := sp.length_eq
  have pg := hP true (swp ts p t0 t1) f.d (by omega) ((sp.map Prod.snd).nodup_iff.mpr nd)
  have pg' : M.f_plain_game [.list ((swp ts p t0 t1).map tD), f.d] = some (gam (swp ts p t0 t1) f.d) := pg
  have ai : gAdd (.int (p : Int)) (.int 1) = some (.int ((p : Int) + 1)) := rfl
  have eg : gam ts f.d = .tuple [.tuple (ts.map tD), .dict (sgD ts), f.d] := rfl
  rw [eg]
  simp (decide := true) only [b_swapped, Mir.next, dPure, dIo, endI, args0, argsI, fSeq, fIf, fSet, fSetN, fRet, fRetN, fDrop, fSkip, fAsg, fPar, xMk, fBool, fTruth, truth, fNot, fAnd, fOr, fBin, fUn, fVar, vE, eV, fzr, fC, rd, fCallP, fCallI, fCons, fNil, rCons, rNil, fCall, rds, g1, fTup, fLst, vNot, vAnd, vOr, vIf, heldAt, heldL, PL.putAt, Sl.held, Sl.put, fMut, mApp, gN, gTn, gsCons, gsNil, gPut, aSeq, seqD, fYes, okW, wipeA, backA, fFor, fLc, fDc, fSc, fSortSet, gIsi, isK, gLen, gIntT, gTuple, gList, gDict, hdK_nil, hdK_i, hdK_s, dKey, gIs, gIsNot, isD, gEq_str, gNe_str, gEq_int, gNe_int, gEq_bool, gNe_bool, gIx_t0, gIx_t1, gIx_t2, gIx_l0, gIx_l1, gIx_l2, gIn2, gInL2, List.length_cons, List.length_nil, List.map_cons, List.map_nil, List.replicate, List.cons_append, List.nil_append, List.getElem?_cons_zero, List.getElem?_cons_succ, List.set_cons_zero, List.set_cons_succ, Nat.reduceAdd, Nat.reduceSub, Nat.reduceEqDiff, List.all_cons, List.all_nil, Option.isNone, Option.map_some, Option.map_none, Bool.and_self, Bool.and_true, Bool.true_and, Bool.and_false, Bool.false_and, Bool.or_true, Bool.true_or, Bool.or_false, Bool.false_or, Bool.or_self, Bool.not_true, Bool.not_false, if_true, if_false, reduceIte, Bool.false_eq_true, decide_true, decide_false, ite_true, ite_false, ai, g0, g1', p0, p1, pg']
/-! ### the same -/
theorem rp_of (x : Str) (h1 : ∀ c ∈ x.cps.toList, c < 1000) (h2 : x.cps.toList.length ≤ 100) : Rp x := by
  unfold Rp
  have big : (2000 : Nat) < sizeLine := by decide
  have z := PySem.StrLaws.reprText_len x fun c hc => Nat.lt_trans (h1 c hc) (by decide)
  have l : x.length ≤ 100 := h2
  omega
theorem rp_sd (b : Bool) : Rp (sd b) := by
  cases b
  · exact rp_of "all" (by decide) (by decide)
  · exact rp_of "some" (by decide) (by decide)
theorem rp_L5 : ∀ x ∈ L5, Rp x := fun x hx => by
  have h : ∀ y ∈ L5, (∀ c ∈ y.cps.toList, c < 1000) ∧ y.cps.toList.length ≤ 100 := by decide
  exact rp_of x (h x hx).1 (h x hx).2
theorem sm_strs {ls : List Str} (h : ∀ x ∈ ls, x ∈ L5) (hl : ls.length ≤ 1000) : SmN 2 (.tuple (ls.map PyData.str)) := sm_tup (n := 1) (by rw [List.length_map]; exact hl) fun d hd => by
  obtain ⟨x, hx, rfl⟩ := List.mem_map.mp hd
  exact sm_str (rp_L5 x (h x hx))
theorem sm_tpl {o : List Str} (h : ∀ x ∈ o, x ∈ L5) (hl : o.length ≤ 1000) : SmN 2 (tpl o) := sm_strs h hl
theorem sm_2 {n : Nat} {a b : Dt} (h1 : SmN n a) (h2 : SmN n b) : SmN (n + 1) (.tuple [a, b]) := sm_tup (by show 2 ≤ 1000; decide) fun d hd => by
  rcases List.mem_cons.mp hd with e | hd
  · rw [e]; exact h1
  · rw [List.mem_singleton.mp hd]; exact h2
theorem sm_3 {n : Nat} {a b c : Dt} (h1 : SmN n a) (h2 : SmN n b) (h3 : SmN n c) : SmN (n + 1) (.tuple [a, b, c]) := sm_tup (by show 3 ≤ 1000; decide) fun d hd => by
  rcases List.mem_cons.mp hd with e | hd
  · rw [e]; exact h1
  · rcases List.mem_cons.mp hd with e | hd
    · rw [e]; exact h2
    · rw [List.mem_singleton.mp hd]; exact h3
theorem sm_fm : ∀ f : Fm, f.flat = true → (∀ x ∈ f.lets, x ∈ L5) → SmN (f.dep + 2) f.d
  | .lit x, _, h => sm_2 (n := 1) (sm_str (rp_of "letter" (by decide) (by decide))) (sm_str (rp_L5 x (h x (List.mem_singleton.mpr rfl))))
  | .con true, _, _ => sm_tup (n := 1) (by show 1 ≤ 1000; decide) fun d hd => by rw [List.mem_singleton.mp hd]; exact sm_str (rp_of "true" (by decide) (by decide))
  | .con false, _, _ => sm_tup (n := 1) (by show 1 ≤ 1000; decide) fun d hd => by rw [List.mem_singleton.mp hd]; exact sm_str (rp_of "false" (by decide) (by decide))
  | .not f, hf, h => sm_2 (n := f.dep + 2) (sm_up (sm_str (rp_of "not" (by decide) (by decide))) (by omega)) (sm_fm f hf h)
  | .bin o f g, hf, h => by
    have hf' : (f.flat && g.flat) = true := hf
    rw [Bool.and_eq_true] at hf'
    have h1 := sm_fm f hf'.1 fun x hx => h x (List.mem_append.mpr (.inl hx))
    have h2 := sm_fm g hf'.2 fun x hx => h x (List.mem_append.mpr (.inr hx))
    have ro : Rp o.nm := by cases o <;> exact rp_of _ (by decide) (by decide)
    show SmN (max f.dep g.dep + 1 + 2) (.tuple [.str o.nm, f.d, g.d])
    exact sm_3 (n := max f.dep g.dep + 2) (sm_up (sm_str ro) (by omega)) (sm_up h1 (by omega)) (sm_up h2 (by omega))
  | .all _ _, hf, _ => by cases hf
  | .som _ _, hf, _ => by cases hf
theorem sgt_sub : ∀ (ts : T0) (ah : List Str), (∀ t ∈ ts, t.2 ∈ L5) → (∀ x ∈ ah, x ∈ L5) → ∀ p ∈ sgt ah ts, p.1 ∈ L5 ∧ (∀ x ∈ p.2, x ∈ L5) ∧ p.2.length ≤ ah.length + ts.length
  | [], _, _, _, p, hp => nomatch hp
  | (true, x) :: r, ah, h, ha, p, hp => by
    rcases List.mem_cons.mp hp with e | hp
    · rw [e]
      exact ⟨h _ List.mem_cons_self, ha, Nat.le_add_right _ _⟩
    · obtain ⟨a, b, c⟩ := sgt_sub r ah (fun t ht => h t (List.mem_cons_of_mem _ ht)) ha p hp
      exact ⟨a, b, by rw [List.length_cons]; omega⟩
  | (false, x) :: r, ah, h, ha, p, hp => by
    obtain ⟨a, b, c⟩ := sgt_sub r (ah ++ [x]) (fun t ht => h t (List.mem_cons_of_mem _ ht)) (fun y hy => by
      rcases List.mem_append.mp hy with hy | hy
      · exact ha y hy
      · rw [List.mem_singleton.mp hy]
        exact h _ List.mem_cons_self) p hp
    exact ⟨a, b, by rw [List.length_append, List.length_singleton] at c; rw [List.length_cons]; omega⟩
theorem sm_gam {ts : T0} {f : Fm} (h : ∀ t ∈ ts, t.2 ∈ L5) (hl : ts.length ≤ 100) (hf : f.flat = true) (hx : ∀ x ∈ f.lets, x ∈ L5) (hd : f.dep ≤ 2) : SmN 7 (gam ts f.d) := by
  refine sm_3 (n := 6) (sm_up (n := 3) (sm_tup (n := 2) (by rw [List.length_map]; omega) fun d hd => ?_) (by omega)) (sm_up (n := 2 + 3) (sm_dict (n := 2) ?_ (hdK_sg ts) fun p hp => ?_) (by omega)) (sm_up (sm_fm f hf hx) (by omega))
  · obtain ⟨t, ht, rfl⟩ := List.mem_map.mp hd
    exact sm_2 (n := 1) (sm_str (rp_sd t.1)) (sm_str (rp_L5 _ (h t ht)))
  · have := sgt_len ts []
    unfold sgD
    rw [List.length_map]
    omega
  · obtain ⟨q, hq, rfl⟩ := List.mem_map.mp hp
    obtain ⟨a, b, c⟩ := sgt_sub ts [] h (fun x hx => nomatch hx) q hq
    rw [List.length_nil] at c
    refine ⟨sm_up (sm_str (rp_L5 _ a)) (by omega), ?_⟩
    show SmN 2 (.tuple (sortD (q.2.map .str)))
    rw [srt_strs]
    have pm : (srtL q.2).Perm q.2 := List.mergeSort_perm _ _
    exact sm_strs (fun x hx => b x (pm.mem_iff.mp hx)) (by rw [pm.length_eq]; omega)
end K11
namespace K11
open PySem PySem.Spec PyProof.Rows L2 PL
/-! ### what the functions answer, from some depth on -/
theorem up {k : Nat} (n : Nat) (h : n ≤ k) : ∃ m, k = m + n := ⟨k - n, by omega⟩
theorem hb_mir {k : Nat} (h : 1 ≤ k) : HB (mir k) := by
  obtain ⟨m, rfl⟩ := up 1 h
  exact fun b us hu => e_blocks (mir m) b us hu
theorem ax_mir {k : Nat} (h : 2 ≤ k) : AX (mir k) := by
  obtain ⟨m, rfl⟩ := up 2 h
  exact fun b us x hu => e_aheadX (mir (m + 1)) (lo_mir m) b us x hu
theorem px_mir {k : Nat} (h : 3 ≤ k) : PX (mir k) := by
  obtain ⟨m, rfl⟩ := up 3 h
  exact fun b us f hu nd => e_plainX (mir (m + 2)) (ax_mir (by omega)) b us f hu nd
structure Cd (xs : List Str) (ts : T0) (f : Fm) : Prop where
  l : Lts xs
  p : (ts.map Prod.snd).Perm xs
  fl : Flt f xs
  dep : f.dep ≤ 2
  few : (ordsN xs.length xs).length ≤ 1000
section
variable {xs : List Str} {ts : T0} {f : Fm}
theorem Cd.len (c : Cd xs ts f) : ts.length = xs.length := by
  have := c.p.length_eq
  rw [List.length_map] at this
  exact this
theorem Cd.nd (c : Cd xs ts f) : (ts.map Prod.snd).Nodup := c.p.nodup_iff.mpr c.l.nd
theorem Cd.in5 (c : Cd xs ts f) : ∀ t ∈ ts, t.2 ∈ L5 := fun t ht => c.l.sub _ (c.p.mem_iff.mp (List.mem_map_of_mem ht))
theorem v_pw (c : Cd xs ts f) {k : Nat} (hk : 50 ≤ k) (hk2 : k ≤ 400) : PW (mir k) xs f := fun us pu => by
  have big : (1000 : Nat) < sizeLine := by decide
  have h5 := lts_le c.l
  have ul : us.length = xs.length := by have := pu.length_eq; rw [List.length_map] at this; exact this
  have nd : (us.map Prod.snd).Nodup := pu.nodup_iff.mpr c.l.nd
  refine ⟨gam us f.d, px_mir (by omega) true us f.d (by omega) nd, ?_⟩
  obtain ⟨m, rfl⟩ := up 42 (show 42 ≤ k by omega)
  have e1 : (mir (m + 41)).f_closed [gam us f.d] = some (cls us f).d := e_closed (mir (m + 40)) us (.dict (sgD us)) f
  have inn : (cls us f).inn (has []) = true := cls_inn f (has []) c.fl.1 us (has []) fun x hx => .inl (pu.mem_iff.mpr (c.fl.2 x hx))
  have dc := dep_cls f us
  have d2 := c.dep
  have w : (mir (m + 41)).f_worth [(cls us f).d, sg []] = some (.bool ((cls us f).ev (env []))) := by
    exact e_worth (m + 40) (cls us f) [] (by omega) inn (by show 0 + (m + 40) < sizeLine; omega)
  rw [cls_ev, env_nil] at w
  exact e_winner (mir (m + 41)) (gam us f.d) (cls us f) _ e1 w
theorem v_all (c : Cd xs ts f) {k : Nat} (hk : 51 ≤ k) (hk2 : k ≤ 400) : (mir k).f_all_orders [gam ts f.d] = some (dueD xs ts f) := by
  obtain ⟨m, rfl⟩ := up 1 (show 1 ≤ k by omega)
  exact e_all_orders (mir m) xs c.l ts c.p f (v_pw c (by omega) (by omega))
theorem zip_sub : ∀ (xs : List Str) (bs : List Bool), ((xs.zip bs).map Prod.fst).Sublist xs
  | [], _ => .slnil
  | x :: xs, [] => List.nil_sublist _
  | x :: xs, b :: bs => (zip_sub xs bs).cons₂ x
def tabF (xs : List Str) (f : Fm) (bs : List Bool) : Bool := f.ev (env (xs.zip bs))
theorem tab_run (nd : xs.Nodup) (bs : List Bool) : tabF xs f bs = f.ev (run e0 (xs.zip bs)) := by
  unfold tabF
  rw [env_run]
  exact nd.sublist (zip_sub xs bs)
theorem elim_Wn (c : Cd xs ts f) {o : List Str} (po : o.Perm xs) : elim (sid ts) o.reverse xs (tabF xs f) = Wn ts f o := by
  have e : tabF xs f = fun bs => f.ev (run e0 (xs.zip bs)) := funext fun bs => tab_run c.l.nd bs
  rw [e, elim_gv (sid ts) o.reverse xs f.ev e0 ((List.reverse_perm o).trans po) c.l.nd, List.reverse_reverse]
  rfl
theorem v_sides (c : Cd xs ts f) {k : Nat} (hk : 51 ≤ k) (hk2 : k ≤ 400) : (mir k).f__law_sides [txts xs, .dict (sdD ts), f.d] = some (dueD xs ts f) := by
  have big : (1000 : Nat) < sizeLine := by decide
  have h5 := lts_le c.l
  have d2 := c.dep
  obtain ⟨m, rfl⟩ := up 2 (show 2 ≤ k by omega)
  have hs : ∀ x ∈ xs, gIx (.dict (sdD ts)) (.str x) = some (.str (sd (sid ts x))) := fun x hx => ix_sd x ts (c.p.mem_iff.mpr hx)
  have h := e_law_sides (mir (m + 1)) xs c.l f (.dict (sdD ts)) (sid ts) hs (tabF xs f) (e_law_all_signs (mir m) xs (by omega)) (e_orders xs.length xs (m + 1) rfl (by omega) c.l.nd c.l.so (by omega))
    (fun bs hb => e_lworth (m + 1) f (xs.zip bs) (by omega) (flat_inn f c.fl.1 fun x hx => by
      rw [has_mem, zip_fst hb]
      exact decide_eq_true (c.fl.2 x hx)) (by rw [List.length_zip]; omega))
    (fun o po => e_chosen (mir m) xs o (.dict (sdD ts)) (sid ts) (tabF xs f) hs po c.l.len)
  refine h.trans ?_
  unfold dueD
  congr 2
  refine List.map_congr_left fun o ho => ?_
  rw [elim_Wn c (ords_perm xs.length xs rfl c.l.nd o ho)]
theorem v_best (c : Cd xs ts f) (s : Bool) {k : Nat} (hk : 52 ≤ k) (hk2 : k ≤ 400) : (mir k).f_best_for [gam ts f.d, .str (sd s)] = some (oT ((ordsN xs.length xs).find? fun o => Wn ts f o == s)) := by
  obtain ⟨m, rfl⟩ := up 1 (show 1 ≤ k by omega)
  exact e_best (mir m) xs ts f s (v_all c (by omega) (by omega))
theorem v_few (c : Cd xs ts f) {k : Nat} (hk : 52 ≤ k) (hk2 : k ≤ 400) : (mir k).f_fewest_changes [gam ts f.d] = some (bK ts ((someO xs ts f).foldl (stepM ts) none)) := by
  obtain ⟨m, rfl⟩ := up 1 (show 1 ≤ k by omega)
  exact e_fewest (mir m) (hb_mir (by omega)) xs c.l ts c.p f (v_all c (by omega) (by omega))
theorem v_ilo (c : Cd xs ts f) {k : Nat} (hk : 52 ≤ k) : ∃ us : T0, (us.map Prod.snd).Perm xs ∧ us.length = ts.length ∧ (mir k).f_in_letter_order [gam ts f.d] = some (gam us f.d) ∧ (mir k).f__law_blocks [tl ts] = some (tl us) := by
  obtain ⟨m, rfl⟩ := up 1 (show 1 ≤ k by omega)
  have h5 := lts_le c.l
  have cl := c.len
  obtain ⟨bs, hb, e⟩ := e_law_blocks (mir m) ts (by omega) c.in5
  have ip := ilo_perm hb
  have il := ip.length_eq
  rw [List.length_map, List.length_map] at il
  exact ⟨bs.flatMap spr, ip.trans c.p, il, e_ilo (mir m) (hb_mir (by omega)) (px_mir (by omega)) ts f (by omega) c.nd bs hb, e⟩
theorem v_plain {us : T0} (hu : us.length ≤ 100) (nd : (us.map Prod.snd).Nodup) {k : Nat} (hk : 1 ≤ k) : (mir k).f__law_plain [tl us, f.d] = some (gam us f.d) := by
  obtain ⟨m, rfl⟩ := up 1 hk
  exact e_law_plain (mir m) us f.d hu nd
theorem v_swap (c : Cd xs ts f) {p : Nat} {t0 t1 : Bool × Str} (h0 : ts[p]? = some t0) (h1 : ts[p + 1]? = some t1) {k : Nat} (hk : 10 ≤ k) : (mir k).f_swapped [gam ts f.d, .int (p : Int)] = some (gam (swp ts p t0 t1) f.d) := by
  obtain ⟨m, rfl⟩ := up 1 (show 1 ≤ k by omega)
  have h5 := lts_le c.l
  have cl := c.len
  exact e_swapped (mir m) (px_mir (by omega)) ts f (by omega) c.nd p t0 t1 h0 h1
theorem sm_gam_of (c : Cd xs ts f) {us : T0} (pu : (us.map Prod.snd).Perm xs) : SmN 7 (gam us f.d) := by
  have h5 := lts_le c.l
  have ul : us.length = xs.length := by have := pu.length_eq; rw [List.length_map] at this; exact this
  exact sm_gam (fun t ht => c.l.sub _ (pu.mem_iff.mp (List.mem_map_of_mem ht))) (by omega) c.fl.1 (fun x hx => c.l.sub x (c.fl.2 x hx)) c.dep
theorem o_in5 (c : Cd xs ts f) {o : List Str} (ho : o ∈ ordsN xs.length xs) : (∀ x ∈ o, x ∈ L5) ∧ o.length ≤ 5 := by
  have po := ords_perm xs.length xs rfl c.l.nd o ho
  have := lts_le c.l
  exact ⟨fun x hx => c.l.sub x (po.mem_iff.mp hx), by rw [po.length_eq]; omega⟩
theorem sm_due (c : Cd xs ts f) : SmN 4 (dueD xs ts f) := sm_list (n := 3) (by rw [List.length_map]; exact c.few) fun d hd => by
  obtain ⟨o, ho, rfl⟩ := List.mem_map.mp hd
  have := o_in5 c ho
  exact sm_2 (n := 2) (sm_tpl this.1 (by omega)) (sm_up (sm_str (rp_sd _)) (by omega))
theorem sm_oT (c : Cd xs ts f) {o : Option (List Str)} (h : ∀ p, o = some p → p ∈ ordsN xs.length xs) : SmN 3 (oT o) := by
  cases o with
  | none => exact sm_up sm_none (by omega)
  | some p =>
    have := o_in5 c (h p rfl)
    exact sm_up (sm_tpl this.1 (by omega)) (by omega)
theorem cnt_le (o : List Str) : cnt ts o ≤ o.length := by
  unfold cnt cntI
  refine Nat.le_trans (List.length_filter_le _ _) ?_
  rw [List.length_range, List.length_map]
  omega
theorem log_small {n : Nat} (h : n ≤ 100) : ((n : Int).natAbs).log2 < 1920 := by
  rw [Int.natAbs_natCast]
  by_cases z : n = 0
  · rw [z]; decide
  · have : n.log2 ≤ n := Nat.le_of_lt (Nat.lt_of_lt_of_le ((Nat.log2_lt z).mpr Nat.lt_two_pow_self) (Nat.le_refl _))
    omega
theorem sm_bK (c : Cd xs ts f) {o : Option (List Str)} (h : ∀ p, o = some p → p ∈ ordsN xs.length xs) : SmN 4 (bK ts o) := by
  cases o with
  | none => exact sm_up sm_none (by omega)
  | some p =>
    have := o_in5 c (h p rfl)
    have cl := cnt_le (ts := ts) p
    exact sm_up (sm_2 (n := 2) (sm_up (sm_int (log_small (by omega))) (by omega)) (sm_tpl this.1 (by omega))) (by omega)
theorem fold_mem (ts : T0) : ∀ (os : List (List Str)) (b : Option (List Str)) (p : List Str), os.foldl (stepM ts) b = some p → p ∈ os ∨ b = some p
  | [], b, p, h => .inr h
  | o :: os, b, p, h => by
    rw [List.foldl_cons] at h
    rcases fold_mem ts os _ p h with h | h
    · exact .inl (List.mem_cons_of_mem _ h)
    · cases b with
      | none => exact .inl (by rw [Option.some.inj h]; exact List.mem_cons_self)
      | some q =>
        have h' : (if PySem.W.dataLt (kD ts o) (kD ts q) = true then some o else some q) = some p := h
        split at h'
        · exact .inl (by rw [Option.some.inj h']; exact List.mem_cons_self)
        · exact .inr h'
end
end K11
namespace K11
open PySem PySem.Spec PyProof.Rows L2 PL
section
variable {xs : List Str} {ts : T0} {f : Fm}
/-! ### sides[letter] = side -/
theorem lw_sides (nd : (ts.map Prod.snd).Nodup) (hl : ts.length ≤ 100) (A B C E F G : Sl) (s7 s8 : Sl) : ∃ s7' s8', loopF (gTn 2 (gsCons (gN 7) (gsCons (gN 8) gsNil))) (fAsg (eV (fVar 7)) (gPut 6 (eV (fVar 8)))) (ts.map tD) [A, B, C, E, F, G, .ow (.dict []), s7, s8, .un, .un, .un, .un, .un, .un, .un, .un]
    = some (.nx [A, B, C, E, F, G, .ow (.dict (sdD ts)), s7', s8', .un, .un, .un, .un, .un, .un, .un, .un]) := by
  have big : (1000 : Nat) < sizeLine := by decide
  obtain ⟨st, ⟨a, b, e1⟩, h2⟩ := loopF_inv (g := gTn 2 (gsCons (gN 7) (gsCons (gN 8) gsNil))) (body := fAsg (eV (fVar 7)) (gPut 6 (eV (fVar 8)))) tD
    (fun r st => ∃ (pre : T0) (s7 s8 : Sl), st = [A, B, C, E, F, G, .ow (.dict (sdD pre)), s7, s8, .un, .un, .un, .un, .un, .un, .un, .un] ∧ pre ++ r = ts)
    (fun st => ∃ s7 s8, st = [A, B, C, E, F, G, .ow (.dict (sdD ts)), s7, s8, .un, .un, .un, .un, .un, .un, .un, .un])
    (fun st ⟨pre, s7, s8, e1, e2⟩ => ⟨s7, s8, by
      rw [List.append_nil] at e2
      rw [e1, e2]⟩)
    (fun t r st ⟨pre, s7, s8, e1, e2⟩ => by
      subst e1
      have ny : t.2 ∉ pre.map Prod.snd := fun z => by
        rw [← e2, List.map_append, List.nodup_append] at nd
        exact nd.2.2 _ z _ List.mem_cons_self rfl
      have pl : pre.length ≤ ts.length := by rw [← e2, List.length_append]; omega
      have pt := put_sd pre t ny
      have hk := hdK_sd pre
      have z : (sdD pre).length < sizeLine := by
        unfold sdD
        rw [List.length_map]
        omega
      refine ⟨[A, B, C, E, F, G, .ow (.dict (sdD pre)), .fz (.str (sd t.1)), .fz (.str t.2), .un, .un, .un, .un, .un, .un, .un, .un], [A, B, C, E, F, G, .ow (.dict (sdD (pre ++ [t]))), .fz (.str (sd t.1)), .fz (.str t.2), .un, .un, .un, .un, .un, .un, .un, .un], rfl, ?_, pre ++ [t], _, _, rfl, by rw [List.append_assoc]; exact e2⟩
      simp (decide := true) only [Mir.next, dPure, dIo, endI, args0, argsI, fSeq, fIf, fSet, fSetN, fRet, fRetN, fDrop, fSkip, fAsg, fPar, xMk, fBool, fTruth, truth, fNot, fAnd, fOr, fBin, fUn, fVar, vE, eV, fzr, fC, rd, fCallP, fCallI, fCons, fNil, rCons, rNil, fCall, rds, g1, fTup, fLst, vNot, vAnd, vOr, vIf, heldAt, heldL, PL.putAt, Sl.held, Sl.put, fMut, mApp, gN, gTn, gsCons, gsNil, gPut, putD, aSeq, seqD, fYes, okW, wipeA, backA, fFor, fLc, fDc, fSc, fSortSet, gIsi, isK, gLen, gIntT, gTuple, gList, gDict, hdK_nil, hdK_i, hdK_s, dKey, gIs, gIsNot, isD, gEq_str, gNe_str, gEq_int, gNe_int, gEq_bool, gNe_bool, gIx_t0, gIx_t1, gIx_t2, gIx_l0, gIx_l1, gIx_l2, gIn2, gInL2, List.length_cons, List.length_nil, List.map_cons, List.map_nil, List.replicate, List.cons_append, List.nil_append, List.getElem?_cons_zero, List.getElem?_cons_succ, List.set_cons_zero, List.set_cons_succ, Nat.reduceAdd, Nat.reduceSub, Nat.reduceEqDiff, List.all_cons, List.all_nil, Option.isNone, Option.map_some, Option.map_none, Bool.and_self, Bool.and_true, Bool.true_and, Bool.and_false, Bool.false_and, Bool.or_true, Bool.true_or, Bool.or_false, Bool.false_or, Bool.or_self, Bool.not_true, Bool.not_false, if_true, if_false, reduceIte, Bool.false_eq_true, decide_true, decide_false, ite_true, ite_false, z, hk, pt])
    ts [A, B, C, E, F, G, .ow (.dict []), s7, s8, .un, .un, .un, .un, .un, .un, .un, .un] ⟨[], _, _, rfl, rfl⟩
  exact ⟨a, b, by rw [h2, e1]⟩
/-! ### best_for, both sides -/
def bfB (M : Mir) : FS := (fSeq (fSetN 10 (fLc (aSeq (eV (fVar 9))) (gTn 2 (gsCons (gN 12) (gsCons (gN 13) gsNil))) (fBool (fBin gEq (fVar 13) (fVar 7))) (eV (fVar 12)) [12, 13])) (fIf (fNot (fTruth (vE (fCallP M.f__law_same (fCons (fCallP M.f_best_for (fCons (eV (fVar 5)) (fCons (eV (fVar 7)) fNil))) (fCons (vIf (fBool (fBin gNe (fVar 10) (vE (fLst fNil)))) (fBin gIx (fVar 10) (vE (fC (.int 0)))) (fC .none)) fNil)))))) (fRet (fC (.bool false))) fSkip))
theorem bf_step (M : Mir) (c : Cd xs ts f) (s : Bool) (hB : M.f_best_for [gam ts f.d, .str (sd s)] = some (oT ((ordsN xs.length xs).find? fun o => Wn ts f o == s))) (hS : ∀ o : Option (List Str), (∀ p, o = some p → p ∈ ordsN xs.length xs) → Smd M (oT o)) (A B C E F s6 s8 s10 : Sl) :
    ∃ s10', bfB M [A, B, C, E, F, .fz (gam ts f.d), s6, .fz (.str (sd s)), s8, .fz (dueD xs ts f), s10, .un, .un, .un, .un, .un, .un] = some (.nx [A, B, C, E, F, .fz (gam ts f.d), s6, .fz (.str (sd s)), s8, .fz (dueD xs ts f), s10', .un, .un, .un, .un, .un, .un]) := by
  have big : (10000 : Nat) < sizeLine := by decide
  have fw := c.few
  have c1 := loopC_pure (g := gTn 2 (gsCons (gN 12) (gsCons (gN 13) gsNil))) (tt := fBool (fBin gEq (fVar 13) (fVar 7))) (te := eV (fVar 12)) (vs := [12, 13]) (st := [A, B, C, E, F, .fz (gam ts f.d), s6, .fz (.str (sd s)), s8, .fz (dueD xs ts f), s10, .un, .un, .un, .un, .un, .un])
    (fun o => if (Wn ts f o == s) = true then some (tpl o) else none) (rowD ts f) (ordsN xs.length xs) []
    (fun o ho => by
      have q : gEq (.str (sd (Wn ts f o))) (.str (sd s)) = some (.bool (Wn ts f o == s)) := by rw [gEq_str, sd_inj]
      refine ⟨[A, B, C, E, F, .fz (gam ts f.d), s6, .fz (.str (sd s)), s8, .fz (dueD xs ts f), s10, .un, .fz (tpl o), .fz (.str (sd (Wn ts f o))), .un, .un, .un], by unfold rowD; rfl, ?_⟩
      cases w : Wn ts f o == s with
      | true =>
        rw [w] at q
        exact .inr ⟨[A, B, C, E, F, .fz (gam ts f.d), s6, .fz (.str (sd s)), s8, .fz (dueD xs ts f), s10, .un, .fz (tpl o), .fz (.str (sd (Wn ts f o))), .un, .un, .un], _, [A, B, C, E, F, .fz (gam ts f.d), s6, .fz (.str (sd s)), s8, .fz (dueD xs ts f), s10, .un, .fz (tpl o), .fz (.str (sd (Wn ts f o))), .un, .un, .un], by simp (decide := true) only [fBool, fBin, fVar, rd, List.getElem?_cons_succ, List.getElem?_cons_zero, q], rfl, rfl, rfl⟩
      | false =>
        rw [w] at q
        exact .inl ⟨[A, B, C, E, F, .fz (gam ts f.d), s6, .fz (.str (sd s)), s8, .fz (dueD xs ts f), s10, .un, .fz (tpl o), .fz (.str (sd (Wn ts f o))), .un, .un, .un], by simp (decide := true) only [fBool, fBin, fVar, rd, List.getElem?_cons_succ, List.getElem?_cons_zero, q], rfl, rfl⟩) (by rw [List.length_nil]; omega)
  rw [fm_filter, List.nil_append] at c1
  have ed : dueD xs ts f = .list ((ordsN xs.length xs).map (rowD ts f)) := rfl
  have hf := List.head?_filter (p := fun o => Wn ts f o == s) (l := ordsN xs.length xs)
  have sme := hS ((ordsN xs.length xs).find? fun o => Wn ts f o == s) (fun p hp => List.mem_of_find?_eq_some hp)
  unfold Smd at sme
  have gn := gNe_ords ((ordsN xs.length xs).filter fun o => Wn ts f o == s)
  refine ⟨.ow (ordD ((ordsN xs.length xs).filter fun o => Wn ts f o == s)), ?_⟩
  have first : (fSetN 10 (fLc (aSeq (eV (fVar 9))) (gTn 2 (gsCons (gN 12) (gsCons (gN 13) gsNil))) (fBool (fBin gEq (fVar 13) (fVar 7))) (eV (fVar 12)) [12, 13])) [A, B, C, E, F, .fz (gam ts f.d), s6, .fz (.str (sd s)), s8, .fz (dueD xs ts f), s10, .un, .un, .un, .un, .un, .un] = some (.nx [A, B, C, E, F, .fz (gam ts f.d), s6, .fz (.str (sd s)), s8, .fz (dueD xs ts f), .ow (ordD ((ordsN xs.length xs).filter fun o => Wn ts f o == s)), .un, .un, .un, .un, .un, .un]) := by
    rw [ed] at c1 ⊢
    simp (decide := true) only [Mir.next, dPure, dIo, endI, args0, argsI, fSeq, fIf, fSet, fSetN, fRet, fRetN, fDrop, fSkip, fAsg, fPar, xMk, fBool, fTruth, truth, fNot, fAnd, fOr, fBin, fUn, fVar, vE, eV, fzr, fC, rd, fCallP, fCallI, fCons, fNil, rCons, rNil, fCall, rds, g1, fTup, fLst, vNot, vAnd, vOr, vIf, heldAt, heldL, PL.putAt, Sl.held, Sl.put, fMut, mApp, gN, gTn, gsCons, gsNil, gPut, putD, aSeq, seqD, fYes, okW, wipeA, backA, fFor, fLc, fDc, fSc, fSortSet, gIsi, isK, gLen, gIntT, gTuple, gList, gDict, hdK_nil, hdK_i, hdK_s, dKey, gIs, gIsNot, isD, gEq_str, gNe_str, gEq_int, gNe_int, gEq_bool, gNe_bool, gIx_t0, gIx_t1, gIx_t2, gIx_l0, gIx_l1, gIx_l2, gIn2, gInL2, List.length_cons, List.length_nil, List.map_cons, List.map_nil, List.replicate, List.cons_append, List.nil_append, List.getElem?_cons_zero, List.getElem?_cons_succ, List.set_cons_zero, List.set_cons_succ, Nat.reduceAdd, Nat.reduceSub, Nat.reduceEqDiff, List.all_cons, List.all_nil, Option.isNone, Option.map_some, Option.map_none, Bool.and_self, Bool.and_true, Bool.true_and, Bool.and_false, Bool.false_and, Bool.or_true, Bool.true_or, Bool.or_false, Bool.false_or, Bool.or_self, Bool.not_true, Bool.not_false, if_true, if_false, reduceIte, Bool.false_eq_true, decide_true, decide_false, ite_true, ite_false, c1]
    rfl
  unfold bfB
  refine (seq_nx first).trans ?_
  revert gn hf sme
  generalize (ordsN xs.length xs).find? (fun o => Wn ts f o == s) = fo at hB ⊢
  generalize (ordsN xs.length xs).filter (fun o => Wn ts f o == s) = fl
  intro hf sme gn
  cases fl with
  | nil =>
    have e : fo = none := hf.symm
    subst e
    have gn' : gNe (ordD []) (.list []) = some (.bool false) := gn
    have hB' : M.f_best_for [gam ts f.d, .str (sd s)] = some .none := hB
    have sme' : M.f__law_same [.none, .none] = some (.bool true) := sme
    simp (decide := true) only [Mir.next, dPure, dIo, endI, args0, argsI, fSeq, fIf, fSet, fSetN, fRet, fRetN, fDrop, fSkip, fAsg, fPar, xMk, fBool, fTruth, truth, fNot, fAnd, fOr, fBin, fUn, fVar, vE, eV, fzr, fC, rd, fCallP, fCallI, fCons, fNil, rCons, rNil, fCall, rds, g1, fTup, fLst, vNot, vAnd, vOr, vIf, heldAt, heldL, PL.putAt, Sl.held, Sl.put, fMut, mApp, gN, gTn, gsCons, gsNil, gPut, putD, aSeq, seqD, fYes, okW, wipeA, backA, fFor, fLc, fDc, fSc, fSortSet, gIsi, isK, gLen, gIntT, gTuple, gList, gDict, hdK_nil, hdK_i, hdK_s, dKey, gIs, gIsNot, isD, gEq_str, gNe_str, gEq_int, gNe_int, gEq_bool, gNe_bool, gIx_t0, gIx_t1, gIx_t2, gIx_l0, gIx_l1, gIx_l2, gIn2, gInL2, List.length_cons, List.length_nil, List.map_cons, List.map_nil, List.replicate, List.cons_append, List.nil_append, List.getElem?_cons_zero, List.getElem?_cons_succ, List.set_cons_zero, List.set_cons_succ, Nat.reduceAdd, Nat.reduceSub, Nat.reduceEqDiff, List.all_cons, List.all_nil, Option.isNone, Option.map_some, Option.map_none, Bool.and_self, Bool.and_true, Bool.true_and, Bool.and_false, Bool.false_and, Bool.or_true, Bool.true_or, Bool.or_false, Bool.false_or, Bool.or_self, Bool.not_true, Bool.not_false, if_true, if_false, reduceIte, Bool.false_eq_true, decide_true, decide_false, ite_true, ite_false, gn', hB', sme']
  | cons o r =>
    have e : fo = some o := hf.symm
    subst e
    have gn' : gNe (ordD (o :: r)) (.list []) = some (.bool true) := gn
    have hB' : M.f_best_for [gam ts f.d, .str (sd s)] = some (tpl o) := hB
    have sme' : M.f__law_same [tpl o, tpl o] = some (.bool true) := sme
    have ix : gIx (ordD (o :: r)) (.int 0) = some (tpl o) := by
      unfold ordD
      rw [gIx_l0]
      rfl
    simp (decide := true) only [Mir.next, dPure, dIo, endI, args0, argsI, fSeq, fIf, fSet, fSetN, fRet, fRetN, fDrop, fSkip, fAsg, fPar, xMk, fBool, fTruth, truth, fNot, fAnd, fOr, fBin, fUn, fVar, vE, eV, fzr, fC, rd, fCallP, fCallI, fCons, fNil, rCons, rNil, fCall, rds, g1, fTup, fLst, vNot, vAnd, vOr, vIf, heldAt, heldL, PL.putAt, Sl.held, Sl.put, fMut, mApp, gN, gTn, gsCons, gsNil, gPut, putD, aSeq, seqD, fYes, okW, wipeA, backA, fFor, fLc, fDc, fSc, fSortSet, gIsi, isK, gLen, gIntT, gTuple, gList, gDict, hdK_nil, hdK_i, hdK_s, dKey, gIs, gIsNot, isD, gEq_str, gNe_str, gEq_int, gNe_int, gEq_bool, gNe_bool, gIx_t0, gIx_t1, gIx_t2, gIx_l0, gIx_l1, gIx_l2, gIn2, gInL2, List.length_cons, List.length_nil, List.map_cons, List.map_nil, List.replicate, List.cons_append, List.nil_append, List.getElem?_cons_zero, List.getElem?_cons_succ, List.set_cons_zero, List.set_cons_succ, Nat.reduceAdd, Nat.reduceSub, Nat.reduceEqDiff, List.all_cons, List.all_nil, Option.isNone, Option.map_some, Option.map_none, Bool.and_self, Bool.and_true, Bool.true_and, Bool.and_false, Bool.false_and, Bool.or_true, Bool.true_or, Bool.or_false, Bool.false_or, Bool.or_self, Bool.not_true, Bool.not_false, if_true, if_false, reduceIte, Bool.false_eq_true, decide_true, decide_false, ite_true, ite_false, gn', hB', sme', ix]
/-! ### the changes of side in an order -/
def cmB : FV := (fLc (aRng2 (fC (.int 1)) (fCall (g1 gLen) (rCons (fVar 12) rNil))) (gN 16) (fBool (fBin gNe (vE (fBin gIx (fVar 6) (vE (fBin gIx (fVar 12) (fVar 16))))) (vE (fBin gIx (fVar 6) (vE (fBin gIx (fVar 12) (vE (fBin PL.gSub (fVar 16) (vE (fC (.int 1))))))))))) (eV (fVar 16)) [16])
theorem fm_len2 {α β : Type} (p : α → Bool) (g : α → β) (xs : List α) : (xs.filterMap fun x => if p x = true then some (g x) else none).length = (xs.filter p).length := by
  rw [fm_filter, List.length_map]
theorem cm_val (o : List Str) (h : ∀ x ∈ o, x ∈ ts.map Prod.snd) (ho : o.length ≤ 100) (ne : o ≠ []) (A B C E F G s7 s8 s9 s10 s11 s13 : Sl) :
    ∃ ks : List Dt, ks.length = cnt ts o ∧ cmB [A, B, C, E, F, G, .fz (.dict (sdD ts)), s7, s8, s9, s10, s11, .fz (tpl o), s13, .un, .un, .un] = some (.list ks, [A, B, C, E, F, G, .fz (.dict (sdD ts)), s7, s8, s9, s10, s11, .fz (tpl o), s13, .un, .un, .un]) := by
  have big : (10000 : Nat) < sizeLine := by decide
  have c1 := loopC_pure (g := gN 16) (tt := (fBool (fBin gNe (vE (fBin gIx (fVar 6) (vE (fBin gIx (fVar 12) (fVar 16))))) (vE (fBin gIx (fVar 6) (vE (fBin gIx (fVar 12) (vE (fBin PL.gSub (fVar 16) (vE (fC (.int 1)))))))))))) (te := eV (fVar 16)) (vs := [16]) (st := [A, B, C, E, F, G, .fz (.dict (sdD ts)), s7, s8, s9, s10, s11, .fz (tpl o), s13, .un, .un, .un])
    (fun i : Nat => if ((o.map (sid ts))[i + 1]? != (o.map (sid ts))[i]?) = true then some (PyData.int (1 + (i : Nat))) else none) (fun i : Nat => PyData.int (1 + (i : Nat))) (List.range (o.length - 1)) []
    (fun i hi => by
      have hi := List.mem_range.mp hi
      have l1 : i + 1 < o.length := by omega
      have l0 : i < o.length := by omega
      have i1 : gIx (tpl o) (.int (1 + (i : Int))) = some (.str o[i + 1]) := by
        rw [show (1 : Int) + (i : Int) = ((i + 1 : Nat) : Int) by omega]
        unfold tpl
        rw [gIx_tn, List.getElem?_map, List.getElem?_eq_getElem l1]
        rfl
      have i0 : gIx (tpl o) (.int (1 + (i : Int) - 1)) = some (.str o[i]) := by
        rw [show (1 : Int) + (i : Int) - 1 = ((i : Nat) : Int) by omega]
        unfold tpl
        rw [gIx_tn, List.getElem?_map, List.getElem?_eq_getElem l0]
        rfl
      have d1 := ix_sd o[i + 1] ts (h _ (List.getElem_mem l1))
      have d0 := ix_sd o[i] ts (h _ (List.getElem_mem l0))
      have e1 : (o.map (sid ts))[i + 1]? = some (sid ts o[i + 1]) := by rw [List.getElem?_map, List.getElem?_eq_getElem l1]; rfl
      have e0' : (o.map (sid ts))[i]? = some (sid ts o[i]) := by rw [List.getElem?_map, List.getElem?_eq_getElem l0]; rfl
      have sb : PL.gSub (.int (1 + (i : Int))) (.int 1) = some (.int (1 + (i : Int) - 1)) := rfl
      have q : gNe (.str (sd (sid ts o[i + 1]))) (.str (sd (sid ts o[i]))) = some (.bool (sid ts o[i + 1] != sid ts o[i])) := by rw [gNe_str, sd_inj]; rfl
      rw [e1, e0']
      have so : (some (sid ts o[i + 1]) != some (sid ts o[i])) = (sid ts o[i + 1] != sid ts o[i]) := by
        cases sid ts o[i + 1] <;> cases sid ts o[i] <;> rfl
      rw [so]
      refine ⟨[A, B, C, E, F, G, .fz (.dict (sdD ts)), s7, s8, s9, s10, s11, .fz (tpl o), s13, .un, .un, .fz (.int (1 + (i : Int)))], rfl, ?_⟩
      cases w : sid ts o[i + 1] != sid ts o[i] with
      | true =>
        rw [w] at q
        exact .inr ⟨[A, B, C, E, F, G, .fz (.dict (sdD ts)), s7, s8, s9, s10, s11, .fz (tpl o), s13, .un, .un, .fz (.int (1 + (i : Int)))], _, [A, B, C, E, F, G, .fz (.dict (sdD ts)), s7, s8, s9, s10, s11, .fz (tpl o), s13, .un, .un, .fz (.int (1 + (i : Int)))], by simp (decide := true) only [Mir.next, dPure, dIo, endI, args0, argsI, fSeq, fIf, fSet, fSetN, fRet, fRetN, fDrop, fSkip, fAsg, fPar, xMk, fBool, fTruth, truth, fNot, fAnd, fOr, fBin, fUn, fVar, vE, eV, fzr, fC, rd, fCallP, fCallI, fCons, fNil, rCons, rNil, fCall, rds, g1, fTup, fLst, vNot, vAnd, vOr, vIf, heldAt, heldL, PL.putAt, Sl.held, Sl.put, fMut, mApp, gN, gTn, gsCons, gsNil, gPut, putD, aSeq, seqD, fYes, okW, wipeA, backA, fFor, fLc, fDc, fSc, fSortSet, gIsi, isK, gLen, gIntT, gTuple, gList, gDict, hdK_nil, hdK_i, hdK_s, dKey, gIs, gIsNot, isD, gEq_str, gNe_str, gEq_int, gNe_int, gEq_bool, gNe_bool, gIx_t0, gIx_t1, gIx_t2, gIx_l0, gIx_l1, gIx_l2, gIn2, gInL2, List.length_cons, List.length_nil, List.map_cons, List.map_nil, List.replicate, List.cons_append, List.nil_append, List.getElem?_cons_zero, List.getElem?_cons_succ, List.set_cons_zero, List.set_cons_succ, Nat.reduceAdd, Nat.reduceSub, Nat.reduceEqDiff, List.all_cons, List.all_nil, Option.isNone, Option.map_some, Option.map_none, Bool.and_self, Bool.and_true, Bool.true_and, Bool.and_false, Bool.false_and, Bool.or_true, Bool.true_or, Bool.or_false, Bool.false_or, Bool.or_self, Bool.not_true, Bool.not_false, if_true, if_false, reduceIte, Bool.false_eq_true, decide_true, decide_false, ite_true, ite_false, i1, i0, d1, d0, sb, q], rfl, rfl, rfl⟩
      | false =>
        rw [w] at q
        exact .inl ⟨[A, B, C, E, F, G, .fz (.dict (sdD ts)), s7, s8, s9, s10, s11, .fz (tpl o), s13, .un, .un, .fz (.int (1 + (i : Int)))], by simp (decide := true) only [Mir.next, dPure, dIo, endI, args0, argsI, fSeq, fIf, fSet, fSetN, fRet, fRetN, fDrop, fSkip, fAsg, fPar, xMk, fBool, fTruth, truth, fNot, fAnd, fOr, fBin, fUn, fVar, vE, eV, fzr, fC, rd, fCallP, fCallI, fCons, fNil, rCons, rNil, fCall, rds, g1, fTup, fLst, vNot, vAnd, vOr, vIf, heldAt, heldL, PL.putAt, Sl.held, Sl.put, fMut, mApp, gN, gTn, gsCons, gsNil, gPut, putD, aSeq, seqD, fYes, okW, wipeA, backA, fFor, fLc, fDc, fSc, fSortSet, gIsi, isK, gLen, gIntT, gTuple, gList, gDict, hdK_nil, hdK_i, hdK_s, dKey, gIs, gIsNot, isD, gEq_str, gNe_str, gEq_int, gNe_int, gEq_bool, gNe_bool, gIx_t0, gIx_t1, gIx_t2, gIx_l0, gIx_l1, gIx_l2, gIn2, gInL2, List.length_cons, List.length_nil, List.map_cons, List.map_nil, List.replicate, List.cons_append, List.nil_append, List.getElem?_cons_zero, List.getElem?_cons_succ, List.set_cons_zero, List.set_cons_succ, Nat.reduceAdd, Nat.reduceSub, Nat.reduceEqDiff, List.all_cons, List.all_nil, Option.isNone, Option.map_some, Option.map_none, Bool.and_self, Bool.and_true, Bool.true_and, Bool.and_false, Bool.false_and, Bool.or_true, Bool.true_or, Bool.or_false, Bool.false_or, Bool.or_self, Bool.not_true, Bool.not_false, if_true, if_false, reduceIte, Bool.false_eq_true, decide_true, decide_false, ite_true, ite_false, i1, i0, d1, d0, sb, q], rfl, rfl⟩) (by rw [List.length_nil, List.length_range]; omega)
  refine ⟨(List.range (o.length - 1)).filterMap fun i : Nat => if ((o.map (sid ts))[i + 1]? != (o.map (sid ts))[i]?) = true then some (PyData.int (1 + (i : Nat))) else none, ?_, ?_⟩
  · rw [fm_len2]
    unfold cnt cntI
    rw [List.length_map]
  · rw [List.nil_append] at c1
    have it : aRng2 (fC (.int 1)) (fCall (g1 gLen) (rCons (fVar 12) rNil)) [A, B, C, E, F, G, .fz (.dict (sdD ts)), s7, s8, s9, s10, s11, .fz (tpl o), s13, .un, .un, .un] = some (rgD 1 (o.length - 1), [A, B, C, E, F, G, .fz (.dict (sdD ts)), s7, s8, s9, s10, s11, .fz (tpl o), s13, .un, .un, .un]) := by
      have e : (fCall (g1 gLen) (rCons (fVar 12) rNil)) [A, B, C, E, F, G, .fz (.dict (sdD ts)), s7, s8, s9, s10, s11, .fz (tpl o), s13, .un, .un, .un] = some (.int (.ofNat o.length), [A, B, C, E, F, G, .fz (.dict (sdD ts)), s7, s8, s9, s10, s11, .fz (tpl o), s13, .un, .un, .un]) := by
        show some (PyData.int ((o.map PyData.str).length : Int), _) = _
        rw [List.length_map]
        rfl
      unfold aRng2
      show (match (fCall (g1 gLen) (rCons (fVar 12) rNil)) [A, B, C, E, F, G, .fz (.dict (sdD ts)), s7, s8, s9, s10, s11, .fz (tpl o), s13, .un, .un, .un] with | some (.int (.ofNat n), as2) => if 1 ≤ sizeLine ∧ n ≤ sizeLine then some (rgD 1 (n - 1), as2) else none | _ => none) = _
      rw [e]
      dsimp only
      rw [if_pos ⟨by omega, by omega⟩]
    unfold cmB fLc
    rw [it]
    dsimp only
    rw [if_pos (show okW [A, B, C, E, F, G, .fz (.dict (sdD ts)), s7, s8, s9, s10, s11, .fz (tpl o), s13, .un, .un, .un] [16] = true from rfl)]
    have c1' : loopC (gN 16) (fBool (fBin gNe (vE (fBin gIx (fVar 6) (vE (fBin gIx (fVar 12) (fVar 16))))) (vE (fBin gIx (fVar 6) (vE (fBin gIx (fVar 12) (vE (fBin PL.gSub (fVar 16) (vE (fC (.int 1))))))))))) (eV (fVar 16)) [16] (rgD 1 (o.length - 1)) (wipeA [A, B, C, E, F, G, .fz (.dict (sdD ts)), s7, s8, s9, s10, s11, .fz (tpl o), s13, .un, .un, .un] [16]) [] = _ := c1
    rw [c1']
    rfl
end
end K11
namespace K11
open PySem PySem.Spec PyProof.Rows L2 PL
section
variable {xs : List Str} {ts : T0} {f : Fm}
def bsB : FS := (fIf (fBool (fBin gEq (fVar 13) (vE (fC (.str "some"))))) (fDrop (fApp 11 (fTup (fCons (fCall (g1 gLen) (rCons (vE cmB) rNil)) (fCons (eV (fVar 12)) fNil))))) fSkip)
theorem lw_best (c : Cd xs ts f) (A B C E F G s7 s8 s10 : Sl) : ∃ s12 s13, loopF (gTn 2 (gsCons (gN 12) (gsCons (gN 13) gsNil))) bsB ((ordsN xs.length xs).map (rowD ts f)) [A, B, C, E, F, G, .fz (.dict (sdD ts)), s7, s8, .fz (dueD xs ts f), s10, .ow (.list []), .un, .un, .un, .un, .un]
    = some (.nx [A, B, C, E, F, G, .fz (.dict (sdD ts)), s7, s8, .fz (dueD xs ts f), s10, .ow (.list ((someO xs ts f).map (kD ts))), s12, s13, .un, .un, .un]) := by
  have big : (10000 : Nat) < sizeLine := by decide
  have fw := c.few
  obtain ⟨st, ⟨a, b, e1⟩, h2⟩ := loopF_inv (g := gTn 2 (gsCons (gN 12) (gsCons (gN 13) gsNil))) (body := bsB) (rowD ts f)
    (fun r st => ∃ (acc : List (List Str)) (s12 s13 : Sl), st = [A, B, C, E, F, G, .fz (.dict (sdD ts)), s7, s8, .fz (dueD xs ts f), s10, .ow (.list (acc.map (kD ts))), s12, s13, .un, .un, .un] ∧ acc ++ (r.filter fun o => Wn ts f o) = someO xs ts f ∧ ∀ o ∈ r, o ∈ ordsN xs.length xs)
    (fun st => ∃ s12 s13, st = [A, B, C, E, F, G, .fz (.dict (sdD ts)), s7, s8, .fz (dueD xs ts f), s10, .ow (.list ((someO xs ts f).map (kD ts))), s12, s13, .un, .un, .un])
    (fun st ⟨acc, s12, s13, e1, e2, _⟩ => ⟨s12, s13, by
      have e3 : acc = someO xs ts f := by rw [← e2]; exact (List.append_nil acc).symm
      rw [e1, e3]⟩)
    (fun o r st ⟨acc, s12, s13, e1, e2, e3⟩ => by
      subst e1
      have ho := e3 o List.mem_cons_self
      have po := ords_perm xs.length xs rfl c.l.nd o ho
      have ol := po.length_eq
      have h5 := lts_le c.l
      have ne : o ≠ [] := fun z => by rw [z] at ol; rcases c.l.len with h | h <;> rw [h] at ol <;> cases ol
      have e3' : ∀ q ∈ r, q ∈ ordsN xs.length xs := fun q hq => e3 q (List.mem_cons_of_mem _ hq)
      cases w : Wn ts f o with
      | true =>
        rw [List.filter_cons_of_pos w] at e2
        obtain ⟨ks, k1, k2⟩ := cm_val (ts := ts) o (fun x hx => c.p.mem_iff.mpr (po.mem_iff.mp hx)) (by omega) ne A B C E F G s7 s8 (.fz (dueD xs ts f)) s10 (.ow (.list (acc.map (kD ts)))) (.fz (.str (sd true)))
        have al : (acc.map (kD ts)).length < sizeLine := by
          have q := congrArg List.length e2
          have q2 : (someO xs ts f).length ≤ (ordsN xs.length xs).length := List.length_filter_le _ _
          rw [List.length_append, List.length_cons] at q
          rw [List.length_map]
          omega
        have kl : ((ks.length : Nat) : Int) = (cnt ts o : Int) := by rw [k1]
        have ek : PyData.tuple [.int (cnt ts o : Int), tpl o] = kD ts o := rfl
        have s1 : (sd true = "some") = True := by decide
        refine ⟨[A, B, C, E, F, G, .fz (.dict (sdD ts)), s7, s8, .fz (dueD xs ts f), s10, .ow (.list (acc.map (kD ts))), .fz (tpl o), .fz (.str (sd true)), .un, .un, .un], [A, B, C, E, F, G, .fz (.dict (sdD ts)), s7, s8, .fz (dueD xs ts f), s10, .ow (.list ((acc ++ [o]).map (kD ts))), .fz (tpl o), .fz (.str (sd true)), .un, .un, .un], by unfold rowD; rw [w]; rfl, ?_, acc ++ [o], _, _, rfl, by rw [List.append_assoc]; exact e2, e3'⟩
        rw [List.map_append]
        unfold bsB
        simp (decide := true) only [Mir.next, dPure, dIo, endI, args0, argsI, fSeq, fIf, fSet, fSetN, fRet, fRetN, fDrop, fSkip, fAsg, fPar, xMk, fBool, fTruth, truth, fNot, fAnd, fOr, fBin, fUn, fVar, vE, eV, fzr, fC, rd, fCallP, fCallI, fCons, fNil, rCons, rNil, fCall, rds, g1, fTup, fLst, vNot, vAnd, vOr, vIf, heldAt, heldL, PL.putAt, Sl.held, Sl.put, fMut, mApp, gN, gTn, gsCons, gsNil, gPut, putD, aSeq, seqD, fYes, okW, wipeA, backA, fFor, fLc, fDc, fSc, fSortSet, gIsi, isK, gLen, gIntT, gTuple, gList, gDict, hdK_nil, hdK_i, hdK_s, dKey, gIs, gIsNot, isD, gEq_str, gNe_str, gEq_int, gNe_int, gEq_bool, gNe_bool, gIx_t0, gIx_t1, gIx_t2, gIx_l0, gIx_l1, gIx_l2, gIn2, gInL2, List.length_cons, List.length_nil, List.map_cons, List.map_nil, List.replicate, List.cons_append, List.nil_append, List.getElem?_cons_zero, List.getElem?_cons_succ, List.set_cons_zero, List.set_cons_succ, Nat.reduceAdd, Nat.reduceSub, Nat.reduceEqDiff, List.all_cons, List.all_nil, Option.isNone, Option.map_some, Option.map_none, Bool.and_self, Bool.and_true, Bool.true_and, Bool.and_false, Bool.false_and, Bool.or_true, Bool.true_or, Bool.or_false, Bool.false_or, Bool.or_self, Bool.not_true, Bool.not_false, if_true, if_false, reduceIte, Bool.false_eq_true, decide_true, decide_false, ite_true, ite_false, s1, k2, kl, al, ek]
      | false =>
        rw [List.filter_cons_of_neg (by rw [w]; exact Bool.false_ne_true)] at e2
        have s1 : (sd false = "some") = False := by decide
        refine ⟨[A, B, C, E, F, G, .fz (.dict (sdD ts)), s7, s8, .fz (dueD xs ts f), s10, .ow (.list (acc.map (kD ts))), .fz (tpl o), .fz (.str (sd false)), .un, .un, .un], [A, B, C, E, F, G, .fz (.dict (sdD ts)), s7, s8, .fz (dueD xs ts f), s10, .ow (.list (acc.map (kD ts))), .fz (tpl o), .fz (.str (sd false)), .un, .un, .un], by unfold rowD; rw [w]; rfl, ?_, acc, _, _, rfl, e2, e3'⟩
        unfold bsB
        simp (decide := true) only [Mir.next, dPure, dIo, endI, args0, argsI, fSeq, fIf, fSet, fSetN, fRet, fRetN, fDrop, fSkip, fAsg, fPar, xMk, fBool, fTruth, truth, fNot, fAnd, fOr, fBin, fUn, fVar, vE, eV, fzr, fC, rd, fCallP, fCallI, fCons, fNil, rCons, rNil, fCall, rds, g1, fTup, fLst, vNot, vAnd, vOr, vIf, heldAt, heldL, PL.putAt, Sl.held, Sl.put, fMut, mApp, gN, gTn, gsCons, gsNil, gPut, putD, aSeq, seqD, fYes, okW, wipeA, backA, fFor, fLc, fDc, fSc, fSortSet, gIsi, isK, gLen, gIntT, gTuple, gList, gDict, hdK_nil, hdK_i, hdK_s, dKey, gIs, gIsNot, isD, gEq_str, gNe_str, gEq_int, gNe_int, gEq_bool, gNe_bool, gIx_t0, gIx_t1, gIx_t2, gIx_l0, gIx_l1, gIx_l2, gIn2, gInL2, List.length_cons, List.length_nil, List.map_cons, List.map_nil, List.replicate, List.cons_append, List.nil_append, List.getElem?_cons_zero, List.getElem?_cons_succ, List.set_cons_zero, List.set_cons_succ, Nat.reduceAdd, Nat.reduceSub, Nat.reduceEqDiff, List.all_cons, List.all_nil, Option.isNone, Option.map_some, Option.map_none, Bool.and_self, Bool.and_true, Bool.true_and, Bool.and_false, Bool.false_and, Bool.or_true, Bool.true_or, Bool.or_false, Bool.false_or, Bool.or_self, Bool.not_true, Bool.not_false, if_true, if_false, reduceIte, Bool.false_eq_true, decide_true, decide_false, ite_true, ite_false, s1])
    (ordsN xs.length xs) [A, B, C, E, F, G, .fz (.dict (sdD ts)), s7, s8, .fz (dueD xs ts f), s10, .ow (.list []), .un, .un, .un, .un, .un] ⟨[], _, _, rfl, rfl, fun o ho => ho⟩
  exact ⟨a, b, by rw [h2, e1]⟩
def fwB (M : Mir) : FS := (fIf (fNot (fTruth (vE (fCallP M.f__law_same (fCons (fCallP M.f_fewest_changes (fCons (eV (fVar 5)) fNil)) (fCons (vIf (fBool (fBin gNe (fVar 11) (vE (fLst fNil)))) (fCall (g1 gMin1) (rCons (fVar 11) rNil)) (fC .none)) fNil)))))) (fRet (fC (.bool false))) fSkip)
theorem lw_few (M : Mir) (hF : M.f_fewest_changes [gam ts f.d] = some (bK ts ((someO xs ts f).foldl (stepM ts) none))) (hS : Smd M (bK ts ((someO xs ts f).foldl (stepM ts) none))) (A B C E F s6 s7 s8 s9 s10 s12 s13 s14 s15 s16 : Sl) :
    fwB M [A, B, C, E, F, .fz (gam ts f.d), s6, s7, s8, s9, s10, .ow (.list ((someO xs ts f).map (kD ts))), s12, s13, s14, s15, s16] = some (.nx [A, B, C, E, F, .fz (gam ts f.d), s6, s7, s8, s9, s10, .ow (.list ((someO xs ts f).map (kD ts))), s12, s13, s14, s15, s16]) := by
  revert hF hS
  generalize someO xs ts f = L
  intro hF hS
  have gn := gNe_lnil (L.map (kD ts)) (plain_kDs ts L) (by have := depth_kDs ts L; omega)
  unfold Smd at hS
  cases L with
  | nil =>
    have gn' : gNe (.list []) (.list []) = some (.bool false) := gn
    have hF' : M.f_fewest_changes [gam ts f.d] = some .none := hF
    have hS' : M.f__law_same [.none, .none] = some (.bool true) := hS
    unfold fwB
    rw [List.map_nil]
    simp (decide := true) only [Mir.next, dPure, dIo, endI, args0, argsI, fSeq, fIf, fSet, fSetN, fRet, fRetN, fDrop, fSkip, fAsg, fPar, xMk, fBool, fTruth, truth, fNot, fAnd, fOr, fBin, fUn, fVar, vE, eV, fzr, fC, rd, fCallP, fCallI, fCons, fNil, rCons, rNil, fCall, rds, g1, fTup, fLst, vNot, vAnd, vOr, vIf, heldAt, heldL, PL.putAt, Sl.held, Sl.put, fMut, mApp, gN, gTn, gsCons, gsNil, gPut, putD, aSeq, seqD, fYes, okW, wipeA, backA, fFor, fLc, fDc, fSc, fSortSet, gIsi, isK, gLen, gIntT, gTuple, gList, gDict, hdK_nil, hdK_i, hdK_s, dKey, gIs, gIsNot, isD, gEq_str, gNe_str, gEq_int, gNe_int, gEq_bool, gNe_bool, gIx_t0, gIx_t1, gIx_t2, gIx_l0, gIx_l1, gIx_l2, gIn2, gInL2, List.length_cons, List.length_nil, List.map_cons, List.map_nil, List.replicate, List.cons_append, List.nil_append, List.getElem?_cons_zero, List.getElem?_cons_succ, List.set_cons_zero, List.set_cons_succ, Nat.reduceAdd, Nat.reduceSub, Nat.reduceEqDiff, List.all_cons, List.all_nil, Option.isNone, Option.map_some, Option.map_none, Bool.and_self, Bool.and_true, Bool.true_and, Bool.and_false, Bool.false_and, Bool.or_true, Bool.true_or, Bool.or_false, Bool.false_or, Bool.or_self, Bool.not_true, Bool.not_false, if_true, if_false, reduceIte, Bool.false_eq_true, decide_true, decide_false, ite_true, ite_false, gn', hF', hS']
  | cons o r =>
    have gm := gMin_kD ts o r
    have gn' : gNe (.list ((o :: r).map (kD ts))) (.list []) = some (.bool true) := gn
    unfold fwB
    revert gm gn' hF hS
    generalize (o :: r).map (kD ts) = ds
    generalize bK ts ((o :: r).foldl (stepM ts) none) = d
    intro hF hS gm gn'
    simp (decide := true) only [Mir.next, dPure, dIo, endI, args0, argsI, fSeq, fIf, fSet, fSetN, fRet, fRetN, fDrop, fSkip, fAsg, fPar, xMk, fBool, fTruth, truth, fNot, fAnd, fOr, fBin, fUn, fVar, vE, eV, fzr, fC, rd, fCallP, fCallI, fCons, fNil, rCons, rNil, fCall, rds, g1, fTup, fLst, vNot, vAnd, vOr, vIf, heldAt, heldL, PL.putAt, Sl.held, Sl.put, fMut, mApp, gN, gTn, gsCons, gsNil, gPut, putD, aSeq, seqD, fYes, okW, wipeA, backA, fFor, fLc, fDc, fSc, fSortSet, gIsi, isK, gLen, gIntT, gTuple, gList, gDict, hdK_nil, hdK_i, hdK_s, dKey, gIs, gIsNot, isD, gEq_str, gNe_str, gEq_int, gNe_int, gEq_bool, gNe_bool, gIx_t0, gIx_t1, gIx_t2, gIx_l0, gIx_l1, gIx_l2, gIn2, gInL2, List.length_cons, List.length_nil, List.map_cons, List.map_nil, List.replicate, List.cons_append, List.nil_append, List.getElem?_cons_zero, List.getElem?_cons_succ, List.set_cons_zero, List.set_cons_succ, Nat.reduceAdd, Nat.reduceSub, Nat.reduceEqDiff, List.all_cons, List.all_nil, Option.isNone, Option.map_some, Option.map_none, Bool.and_self, Bool.and_true, Bool.true_and, Bool.and_false, Bool.false_and, Bool.or_true, Bool.true_or, Bool.or_false, Bool.false_or, Bool.or_self, Bool.not_true, Bool.not_false, if_true, if_false, reduceIte, Bool.false_eq_true, decide_true, decide_false, ite_true, ite_false, gn', hF, hS, gm]
def dlB (M : Mir) : FS := (fIf (fNot (fTruth (vE (fCallP M.f__law_same (fCons (fCallP M.f_in_letter_order (fCons (eV (fVar 5)) fNil)) (fCons (fCallP M.f__law_plain (fCons (fCallP M.f__law_blocks (fCons (eV (fVar 3)) fNil)) (fCons (eV (fVar 4)) fNil))) fNil)))))) (fRet (fC (.bool false))) fSkip)
theorem lw_ilo (M : Mir) (us : T0) (h1 : M.f_in_letter_order [gam ts f.d] = some (gam us f.d)) (h2 : M.f__law_blocks [tl ts] = some (tl us)) (h3 : M.f__law_plain [tl us, f.d] = some (gam us f.d)) (hS : Smd M (gam us f.d)) (A B C s6 s7 s8 s9 s10 s11 s12 s13 s14 s15 s16 : Sl) :
    dlB M [A, B, C, .fz (tl ts), .fz f.d, .fz (gam ts f.d), s6, s7, s8, s9, s10, s11, s12, s13, s14, s15, s16] = some (.nx [A, B, C, .fz (tl ts), .fz f.d, .fz (gam ts f.d), s6, s7, s8, s9, s10, s11, s12, s13, s14, s15, s16]) := by
  unfold Smd at hS
  unfold dlB
  simp (decide := true) only [Mir.next, dPure, dIo, endI, args0, argsI, fSeq, fIf, fSet, fSetN, fRet, fRetN, fDrop, fSkip, fAsg, fPar, xMk, fBool, fTruth, truth, fNot, fAnd, fOr, fBin, fUn, fVar, vE, eV, fzr, fC, rd, fCallP, fCallI, fCons, fNil, rCons, rNil, fCall, rds, g1, fTup, fLst, vNot, vAnd, vOr, vIf, heldAt, heldL, PL.putAt, Sl.held, Sl.put, fMut, mApp, gN, gTn, gsCons, gsNil, gPut, putD, aSeq, seqD, fYes, okW, wipeA, backA, fFor, fLc, fDc, fSc, fSortSet, gIsi, isK, gLen, gIntT, gTuple, gList, gDict, hdK_nil, hdK_i, hdK_s, dKey, gIs, gIsNot, isD, gEq_str, gNe_str, gEq_int, gNe_int, gEq_bool, gNe_bool, gIx_t0, gIx_t1, gIx_t2, gIx_l0, gIx_l1, gIx_l2, gIn2, gInL2, List.length_cons, List.length_nil, List.map_cons, List.map_nil, List.replicate, List.cons_append, List.nil_append, List.getElem?_cons_zero, List.getElem?_cons_succ, List.set_cons_zero, List.set_cons_succ, Nat.reduceAdd, Nat.reduceSub, Nat.reduceEqDiff, List.all_cons, List.all_nil, Option.isNone, Option.map_some, Option.map_none, Bool.and_self, Bool.and_true, Bool.true_and, Bool.and_false, Bool.false_and, Bool.or_true, Bool.true_or, Bool.or_false, Bool.false_or, Bool.or_self, Bool.not_true, Bool.not_false, if_true, if_false, reduceIte, Bool.false_eq_true, decide_true, decide_false, ite_true, ite_false, h1, h2, h3, hS]
def frB : FS := (fSet 15 (fBin gAdd (vE (fBin gAdd (vE (fSl (fVar 3) pNo (pYes (eV (fVar 14))))) (vE (fLst (fCons (fBin gIx (fVar 3) (vE (fBin gAdd (fVar 14) (vE (fC (.int 1)))))) (fCons (fBin gIx (fVar 3) (fVar 14)) fNil)))))) (vE (fSl (fVar 3) (pYes (fBin gAdd (fVar 14) (vE (fC (.int 2))))) pNo))))
theorem lw_fresh (p : Nat) (t0 t1 : Bool × Str) (h0 : ts[p]? = some t0) (h1 : ts[p + 1]? = some t1) (hl : ts.length ≤ 100) (A B C E G s6 s7 s8 s9 s10 s11 s12 s13 s15 s16 : Sl) :
    frB [A, B, C, .fz (tl ts), E, G, s6, s7, s8, s9, s10, s11, s12, s13, .fz (.int (p : Int)), s15, s16] = some (.nx [A, B, C, .fz (tl ts), E, G, s6, s7, s8, s9, s10, s11, s12, s13, .fz (.int (p : Int)), .fz (tl (swp ts p t0 t1)), s16]) := by
  have big : (10000 : Nat) < sizeLine := by decide
  have l0 := (List.getElem?_eq_some_iff.mp h0).1
  have g0 : gIx (tl ts) (.int (p : Int)) = some (tD t0) := by unfold tl; rw [gIx_ln, List.getElem?_map, h0]; rfl
  have g1' : gIx (tl ts) (.int ((p : Int) + 1)) = some (tD t1) := by unfold tl; rw [show (p : Int) + 1 = ((p + 1 : Nat) : Int) by omega, gIx_ln, List.getElem?_map, h1]; rfl
  have a1 : gAdd (.int (p : Int)) (.int 1) = some (.int ((p : Int) + 1)) := rfl
  have a2 : gAdd (.int (p : Int)) (.int 2) = some (.int ((p : Int) + 2)) := rfl
  have s1 : gSl (tl ts) none (some (p : Int)) = some (tl (ts.take p)) := by
    show some (PyData.list (cut (ts.map tD) none (some (p : Int)))) = _
    rw [cut_take, ← List.map_take]
    rfl
  have s2 : gSl (tl ts) (some ((p : Int) + 2)) none = some (tl (ts.drop (p + 2))) := by
    show some (PyData.list (cut (ts.map tD) (some ((p : Int) + 2)) none)) = _
    rw [show (p : Int) + 2 = ((p + 2 : Nat) : Int) by omega, cut_drop, ← List.map_drop]
    rfl
  have tk : (ts.take p).length ≤ 100 := by rw [List.length_take]; omega
  have dk : (ts.drop (p + 2)).length ≤ 100 := by rw [List.length_drop]; omega
  have addT : ∀ a b : T0, a.length ≤ 200 → b.length ≤ 200 → gAdd (tl a) (tl b) = some (tl (a ++ b)) := fun a b ha hb => by
    show (if (a.map tD).length + (b.map tD).length ≤ sizeLine then some (PyData.list (a.map tD ++ b.map tD)) else none) = _
    rw [if_pos (by rw [List.length_map, List.length_map]; omega), ← List.map_append]
    rfl
  have m1 := addT (ts.take p) [t1, t0] (by omega) (by show 2 ≤ 200; omega)
  have m2 := addT (ts.take p ++ [t1, t0]) (ts.drop (p + 2)) (by rw [List.length_append]; show _ + 2 ≤ 200; omega) (by omega)
  have e2 : PyData.list [tD t1, tD t0] = tl [t1, t0] := rfl
  unfold frB swp
  simp (decide := true) only [Mir.next, dPure, dIo, endI, args0, argsI, fSeq, fIf, fSet, fSetN, fRet, fRetN, fDrop, fSkip, fAsg, fPar, xMk, fBool, fTruth, truth, fNot, fAnd, fOr, fBin, fUn, fVar, vE, eV, fzr, fC, rd, fCallP, fCallI, fCons, fNil, rCons, rNil, fCall, rds, g1, fTup, fLst, vNot, vAnd, vOr, vIf, heldAt, heldL, PL.putAt, Sl.held, Sl.put, fMut, mApp, gN, gTn, gsCons, gsNil, gPut, putD, aSeq, seqD, fYes, okW, wipeA, backA, fFor, fLc, fDc, fSc, fSortSet, gIsi, isK, gLen, gIntT, gTuple, gList, gDict, hdK_nil, hdK_i, hdK_s, dKey, gIs, gIsNot, isD, gEq_str, gNe_str, gEq_int, gNe_int, gEq_bool, gNe_bool, gIx_t0, gIx_t1, gIx_t2, gIx_l0, gIx_l1, gIx_l2, gIn2, gInL2, List.length_cons, List.length_nil, List.map_cons, List.map_nil, List.replicate, List.cons_append, List.nil_append, List.getElem?_cons_zero, List.getElem?_cons_succ, List.set_cons_zero, List.set_cons_succ, Nat.reduceAdd, Nat.reduceSub, Nat.reduceEqDiff, List.all_cons, List.all_nil, Option.isNone, Option.map_some, Option.map_none, Bool.and_self, Bool.and_true, Bool.true_and, Bool.and_false, Bool.false_and, Bool.or_true, Bool.true_or, Bool.or_false, Bool.false_or, Bool.or_self, Bool.not_true, Bool.not_false, if_true, if_false, reduceIte, Bool.false_eq_true, decide_true, decide_false, ite_true, ite_false, fSl, pNo, pYes, a1, a2, g0, g1', s1, s2, e2, m1, m2]
end
end K11
namespace K11
open PySem PySem.Spec PyProof.Rows L2 PL
def xsOf (r : Nat) : List Str := L5.take (4 + r)
theorem few4 : (ordsN L4.length L4).length ≤ 1000 := by decide +kernel
theorem few5 : (ordsN L5.length L5).length ≤ 1000 := by decide +kernel
theorem xs_ok (r : Nat) (h : r < 2) : Lts (xsOf r) ∧ (ordsN (xsOf r).length (xsOf r)).length ≤ 1000 := by
  have : r = 0 ∨ r = 1 := by omega
  rcases this with rfl | rfl
  · exact ⟨lts4, few4⟩
  · exact ⟨lts5, few5⟩
theorem law_true (ns : List Int) : (mir 201).f_law [intsD ns] = some (.bool true) := by
  have big : (2000 : Nat) < sizeLine := by decide
  obtain ⟨ds, _, DG⟩ := e_digits (mir 199) (fun ns k => e_cell (mir 198) ns k) ns
  have DG : (mir 200).f__law_digits [intsD ns, .int 0, .int 30] = some (intsD ds) := DG
  obtain ⟨r, hr, DW2⟩ := e_draw (mir 199) ds 0 2 (by decide)
  have DW2 : (mir 200).f__law_draw (bx ds 0) [.int 2] = some (.int (r : Int), bx ds 1) := DW2
  obtain ⟨lt, fw⟩ := xs_ok r hr
  have h5 := lts_le lt
  have e5 : (L5.take (4 + r)) = xsOf r := rfl
  have q : cut [PyData.str "a", .str "b", .str "c", .str "d", .str "e"] none (some (4 + (r : Int))) = (xsOf r).map PyData.str := by
    rw [show 4 + (r : Int) = ((4 + r : Nat) : Int) by omega, cut_take]
    show List.take (4 + r) (L5.map PyData.str) = _
    rw [← List.map_take]
    rfl
  revert q lt fw h5
  generalize xsOf r = xs
  intro lt fw h5 q
  obtain ⟨ts, c1, perm, TU⟩ := e_turns (mir 199) (e_pick (mir 198) (e_draw (mir 197))) (e_mixed (mir 198) (e_draw (mir 197))) ds 1 xs (by omega)
  have TU : (mir 200).f__law_turns (bx ds 1) [txts xs] = some (tl ts, bx ds c1) := TU
  obtain ⟨f, c2, ff, fd, FF⟩ := fo_all 2 195 ds c1 2 xs (Nat.le_refl 2)
  have FF : (mir 200).f__law_formula (bx ds c1) [txts xs, .int 2] = some (f.d, bx ds c2) := FF
  have c : Cd xs ts f := ⟨lt, perm, ff, fd, fw⟩
  have cl := c.len
  have P1 := v_plain (f := f) (us := ts) (by omega) c.nd (k := 200) (by omega)
  have D1 := v_sides c (k := 200) (by omega) (by omega)
  have A1 := v_all c (k := 200) (by omega) (by omega)
  have S1 : (mir 200).f__law_same [dueD xs ts f, dueD xs ts f] = some (.bool true) := sm_due c 200 (by omega)
  have B1 := fun s => v_best c s (k := 200) (by omega) (by omega)
  have F1 := v_few c (k := 200) (by omega) (by omega)
  obtain ⟨us, pu, ul, I1, I2⟩ := v_ilo c (k := 200) (by omega)
  have P2 := v_plain (f := f) (us := us) (by omega) (pu.nodup_iff.mpr lt.nd) (k := 200) (by omega)
  have S2 : Smd (mir 200) (gam us f.d) := sm_gam_of c pu 200 (by omega)
  obtain ⟨p, hp, DW3⟩ := e_draw (mir 199) ds c2 (xs.length - 1) (by rcases lt.len with h | h <;> omega)
  have DW3 : (mir 200).f__law_draw (bx ds c2) [.int ((xs.length - 1 : Nat) : Int)] = some (.int (p : Int), bx ds (c2 + 1)) := DW3
  obtain ⟨t0, h0⟩ : ∃ t, ts[p]? = some t := ⟨_, List.getElem?_eq_getElem (by omega)⟩
  obtain ⟨t1, h1⟩ : ∃ t, ts[p + 1]? = some t := ⟨_, List.getElem?_eq_getElem (by omega)⟩
  have sp := swp_perm h0 h1
  have sl := sp.length_eq
  have psw : ((swp ts p t0 t1).map Prod.snd).Perm xs := (sp.map Prod.snd).trans perm
  have W1 := v_swap c h0 h1 (k := 200) (by omega)
  have P3 := v_plain (f := f) (us := swp ts p t0 t1) (by omega) (psw.nodup_iff.mpr lt.nd) (k := 200) (by omega)
  have S3 : (mir 200).f__law_same [gam (swp ts p t0 t1) f.d, gam (swp ts p t0 t1) f.d] = some (.bool true) := sm_gam_of c psw 200 (by omega)
  have X0 : Sl := .un
  have mem_some : ∀ q, (someO xs ts f).foldl (stepM ts) none = some q → q ∈ ordsN xs.length xs := fun q hq => by
    rcases fold_mem ts _ _ _ hq with h | h
    · exact (List.mem_filter.mp h).1
    · cases h
  have S4 : Smd (mir 200) (bK ts ((someO xs ts f).foldl (stepM ts) none)) := sm_bK c mem_some 200 (by omega)
  obtain ⟨a7, a8, LS⟩ := lw_sides c.nd (by omega) (.fz (intsD ns)) (.ow (bx ds c2)) (.fz (txts xs)) (.fz (tl ts)) (.fz f.d) (.fz (gam ts f.d)) .un .un
  obtain ⟨b10, BS1⟩ := bf_step (mir 200) c true (B1 true) (fun o ho => sm_oT c ho 200 (by omega)) (.fz (intsD ns)) (.ow (bx ds c2)) (.fz (txts xs)) (.fz (tl ts)) (.fz f.d) (.fz (.dict (sdD ts))) a8 .un
  obtain ⟨b11, BS2⟩ := bf_step (mir 200) c false (B1 false) (fun o ho => sm_oT c ho 200 (by omega)) (.fz (intsD ns)) (.ow (bx ds c2)) (.fz (txts xs)) (.fz (tl ts)) (.fz f.d) (.fz (.dict (sdD ts))) a8 b10
  obtain ⟨d12, d13, LB1⟩ := lw_best c (.fz (intsD ns)) (.ow (bx ds c2)) (.fz (txts xs)) (.fz (tl ts)) (.fz f.d) (.fz (gam ts f.d)) (.fz (.str (sd false))) a8 b11
  have FW := lw_few (mir 200) F1 S4 (.fz (intsD ns)) (.ow (bx ds c2)) (.fz (txts xs)) (.fz (tl ts)) (.fz f.d) (.fz (.dict (sdD ts))) (.fz (.str (sd false))) a8 (.fz (dueD xs ts f)) b11 d12 d13 .un .un .un
  have LI := lw_ilo (mir 200) us I1 I2 P2 S2 (.fz (intsD ns)) (.ow (bx ds c2)) (.fz (txts xs)) (.fz (.dict (sdD ts))) (.fz (.str (sd false))) a8 (.fz (dueD xs ts f)) b11 (.ow (.list ((someO xs ts f).map (kD ts)))) d12 d13 .un .un .un
  have LF := lw_fresh p t0 t1 h0 h1 (by omega) (.fz (intsD ns)) (.ow (bx ds (c2 + 1))) (.fz (txts xs)) (.fz f.d) (.fz (gam ts f.d)) (.fz (.dict (sdD ts))) (.fz (.str (sd false))) a8 (.fz (dueD xs ts f)) b11 (.ow (.list ((someO xs ts f).map (kD ts)))) d12 d13 .un .un
  show dPure 17 1 (b_law (mir 200)) [intsD ns] = _
  refine d_pure rfl (as1 := [.fz (intsD ns), .ow (bx ds (c2 + 1)), .fz (txts xs), .fz (tl ts), .fz f.d, .fz (gam ts f.d), .fz (.dict (sdD ts)), .fz (.str (sd false)), a8, .fz (dueD xs ts f), b11, .ow (.list ((someO xs ts f).map (kD ts))), d12, d13, .fz (.int (p : Int)), .fz (tl (swp ts p t0 t1)), .un]) ?_
  unfold b_law
  refine (seq_nx (as1 := [.fz (intsD ns), .ow (bx ds 0), .un, .un, .un, .un, .un, .un, .un, .un, .un, .un, .un, .un, .un, .un, .un]) ?_).trans ?_
  · simp (decide := true) only [args0, Mir.next, dPure, dIo, endI, args0, argsI, fSeq, fIf, fSet, fSetN, fRet, fRetN, fDrop, fSkip, fAsg, fPar, xMk, fBool, fTruth, truth, fNot, fAnd, fOr, fBin, fUn, fVar, vE, eV, fzr, fC, rd, fCallP, fCallI, fCons, fNil, rCons, rNil, fCall, rds, g1, fTup, fLst, vNot, vAnd, vOr, vIf, heldAt, heldL, PL.putAt, Sl.held, Sl.put, fMut, mApp, gN, gTn, gsCons, gsNil, gPut, putD, aSeq, seqD, fYes, okW, wipeA, backA, fFor, fLc, fDc, fSc, fSortSet, gIsi, isK, gLen, gIntT, gTuple, gList, gDict, hdK_nil, hdK_i, hdK_s, dKey, gIs, gIsNot, isD, gEq_str, gNe_str, gEq_int, gNe_int, gEq_bool, gNe_bool, gIx_t0, gIx_t1, gIx_t2, gIx_l0, gIx_l1, gIx_l2, gIn2, gInL2, List.length_cons, List.length_nil, List.map_cons, List.map_nil, List.replicate, List.cons_append, List.nil_append, List.getElem?_cons_zero, List.getElem?_cons_succ, List.set_cons_zero, List.set_cons_succ, Nat.reduceAdd, Nat.reduceSub, Nat.reduceEqDiff, List.all_cons, List.all_nil, Option.isNone, Option.map_some, Option.map_none, Bool.and_self, Bool.and_true, Bool.true_and, Bool.and_false, Bool.false_and, Bool.or_true, Bool.true_or, Bool.or_false, Bool.false_or, Bool.or_self, Bool.not_true, Bool.not_false, if_true, if_false, reduceIte, Bool.false_eq_true, decide_true, decide_false, ite_true, ite_false, DG]
    rfl
  refine (seq_nx (as1 := [.fz (intsD ns), .ow (bx ds 1), .fz (txts xs), .un, .un, .un, .un, .un, .un, .un, .un, .un, .un, .un, .un, .un, .un]) ?_).trans ?_
  · simp (decide := true) only [Mir.next, dPure, dIo, endI, args0, argsI, fSeq, fIf, fSet, fSetN, fRet, fRetN, fDrop, fSkip, fAsg, fPar, xMk, fBool, fTruth, truth, fNot, fAnd, fOr, fBin, fUn, fVar, vE, eV, fzr, fC, rd, fCallP, fCallI, fCons, fNil, rCons, rNil, fCall, rds, g1, fTup, fLst, vNot, vAnd, vOr, vIf, heldAt, heldL, PL.putAt, Sl.held, Sl.put, fMut, mApp, gN, gTn, gsCons, gsNil, gPut, putD, aSeq, seqD, fYes, okW, wipeA, backA, fFor, fLc, fDc, fSc, fSortSet, gIsi, isK, gLen, gIntT, gTuple, gList, gDict, hdK_nil, hdK_i, hdK_s, dKey, gIs, gIsNot, isD, gEq_str, gNe_str, gEq_int, gNe_int, gEq_bool, gNe_bool, gIx_t0, gIx_t1, gIx_t2, gIx_l0, gIx_l1, gIx_l2, gIn2, gInL2, List.length_cons, List.length_nil, List.map_cons, List.map_nil, List.replicate, List.cons_append, List.nil_append, List.getElem?_cons_zero, List.getElem?_cons_succ, List.set_cons_zero, List.set_cons_succ, Nat.reduceAdd, Nat.reduceSub, Nat.reduceEqDiff, List.all_cons, List.all_nil, Option.isNone, Option.map_some, Option.map_none, Bool.and_self, Bool.and_true, Bool.true_and, Bool.and_false, Bool.false_and, Bool.or_true, Bool.true_or, Bool.or_false, Bool.false_or, Bool.or_self, Bool.not_true, Bool.not_false, if_true, if_false, reduceIte, Bool.false_eq_true, decide_true, decide_false, ite_true, ite_false, fCallI, fSl, pNo, pYes, gSl, DW2, gAdd, gInt, q]
    rfl
  refine (seq_nx (as1 := [.fz (intsD ns), .ow (bx ds c1), .fz (txts xs), .fz (tl ts), .un, .un, .un, .un, .un, .un, .un, .un, .un, .un, .un, .un, .un]) ?_).trans ?_
  · simp (decide := true) only [Mir.next, dPure, dIo, endI, args0, argsI, fSeq, fIf, fSet, fSetN, fRet, fRetN, fDrop, fSkip, fAsg, fPar, xMk, fBool, fTruth, truth, fNot, fAnd, fOr, fBin, fUn, fVar, vE, eV, fzr, fC, rd, fCallP, fCallI, fCons, fNil, rCons, rNil, fCall, rds, g1, fTup, fLst, vNot, vAnd, vOr, vIf, heldAt, heldL, PL.putAt, Sl.held, Sl.put, fMut, mApp, gN, gTn, gsCons, gsNil, gPut, putD, aSeq, seqD, fYes, okW, wipeA, backA, fFor, fLc, fDc, fSc, fSortSet, gIsi, isK, gLen, gIntT, gTuple, gList, gDict, hdK_nil, hdK_i, hdK_s, dKey, gIs, gIsNot, isD, gEq_str, gNe_str, gEq_int, gNe_int, gEq_bool, gNe_bool, gIx_t0, gIx_t1, gIx_t2, gIx_l0, gIx_l1, gIx_l2, gIn2, gInL2, List.length_cons, List.length_nil, List.map_cons, List.map_nil, List.replicate, List.cons_append, List.nil_append, List.getElem?_cons_zero, List.getElem?_cons_succ, List.set_cons_zero, List.set_cons_succ, Nat.reduceAdd, Nat.reduceSub, Nat.reduceEqDiff, List.all_cons, List.all_nil, Option.isNone, Option.map_some, Option.map_none, Bool.and_self, Bool.and_true, Bool.true_and, Bool.and_false, Bool.false_and, Bool.or_true, Bool.true_or, Bool.or_false, Bool.false_or, Bool.or_self, Bool.not_true, Bool.not_false, if_true, if_false, reduceIte, Bool.false_eq_true, decide_true, decide_false, ite_true, ite_false, fCallI, TU]
  refine (seq_nx (as1 := [.fz (intsD ns), .ow (bx ds c2), .fz (txts xs), .fz (tl ts), .fz f.d, .un, .un, .un, .un, .un, .un, .un, .un, .un, .un, .un, .un]) ?_).trans ?_
  · simp (decide := true) only [Mir.next, dPure, dIo, endI, args0, argsI, fSeq, fIf, fSet, fSetN, fRet, fRetN, fDrop, fSkip, fAsg, fPar, xMk, fBool, fTruth, truth, fNot, fAnd, fOr, fBin, fUn, fVar, vE, eV, fzr, fC, rd, fCallP, fCallI, fCons, fNil, rCons, rNil, fCall, rds, g1, fTup, fLst, vNot, vAnd, vOr, vIf, heldAt, heldL, PL.putAt, Sl.held, Sl.put, fMut, mApp, gN, gTn, gsCons, gsNil, gPut, putD, aSeq, seqD, fYes, okW, wipeA, backA, fFor, fLc, fDc, fSc, fSortSet, gIsi, isK, gLen, gIntT, gTuple, gList, gDict, hdK_nil, hdK_i, hdK_s, dKey, gIs, gIsNot, isD, gEq_str, gNe_str, gEq_int, gNe_int, gEq_bool, gNe_bool, gIx_t0, gIx_t1, gIx_t2, gIx_l0, gIx_l1, gIx_l2, gIn2, gInL2, List.length_cons, List.length_nil, List.map_cons, List.map_nil, List.replicate, List.cons_append, List.nil_append, List.getElem?_cons_zero, List.getElem?_cons_succ, List.set_cons_zero, List.set_cons_succ, Nat.reduceAdd, Nat.reduceSub, Nat.reduceEqDiff, List.all_cons, List.all_nil, Option.isNone, Option.map_some, Option.map_none, Bool.and_self, Bool.and_true, Bool.true_and, Bool.and_false, Bool.false_and, Bool.or_true, Bool.true_or, Bool.or_false, Bool.false_or, Bool.or_self, Bool.not_true, Bool.not_false, if_true, if_false, reduceIte, Bool.false_eq_true, decide_true, decide_false, ite_true, ite_false, fCallI, FF]
  refine (seq_nx (as1 := [.fz (intsD ns), .ow (bx ds c2), .fz (txts xs), .fz (tl ts), .fz f.d, .fz (gam ts f.d), .ow (.dict []), .un, .un, .un, .un, .un, .un, .un, .un, .un, .un]) ?_).trans ?_
  · simp (decide := true) only [Mir.next, dPure, dIo, endI, args0, argsI, fSeq, fIf, fSet, fSetN, fRet, fRetN, fDrop, fSkip, fAsg, fPar, xMk, fBool, fTruth, truth, fNot, fAnd, fOr, fBin, fUn, fVar, vE, eV, fzr, fC, rd, fCallP, fCallI, fCons, fNil, rCons, rNil, fCall, rds, g1, fTup, fLst, vNot, vAnd, vOr, vIf, heldAt, heldL, PL.putAt, Sl.held, Sl.put, fMut, mApp, gN, gTn, gsCons, gsNil, gPut, putD, aSeq, seqD, fYes, okW, wipeA, backA, fFor, fLc, fDc, fSc, fSortSet, gIsi, isK, gLen, gIntT, gTuple, gList, gDict, hdK_nil, hdK_i, hdK_s, dKey, gIs, gIsNot, isD, gEq_str, gNe_str, gEq_int, gNe_int, gEq_bool, gNe_bool, gIx_t0, gIx_t1, gIx_t2, gIx_l0, gIx_l1, gIx_l2, gIn2, gInL2, List.length_cons, List.length_nil, List.map_cons, List.map_nil, List.replicate, List.cons_append, List.nil_append, List.getElem?_cons_zero, List.getElem?_cons_succ, List.set_cons_zero, List.set_cons_succ, Nat.reduceAdd, Nat.reduceSub, Nat.reduceEqDiff, List.all_cons, List.all_nil, Option.isNone, Option.map_some, Option.map_none, Bool.and_self, Bool.and_true, Bool.true_and, Bool.and_false, Bool.false_and, Bool.or_true, Bool.true_or, Bool.or_false, Bool.false_or, Bool.or_self, Bool.not_true, Bool.not_false, if_true, if_false, reduceIte, Bool.false_eq_true, decide_true, decide_false, ite_true, ite_false, fPar, xMk, P1]
  refine (seq_nx (as1 := [.fz (intsD ns), .ow (bx ds c2), .fz (txts xs), .fz (tl ts), .fz f.d, .fz (gam ts f.d), .ow (.dict (sdD ts)), a7, a8, .un, .un, .un, .un, .un, .un, .un, .un]) ?_).trans ?_
  · exact LS
  refine (seq_nx (as1 := [.fz (intsD ns), .ow (bx ds c2), .fz (txts xs), .fz (tl ts), .fz f.d, .fz (gam ts f.d), .fz (.dict (sdD ts)), a7, a8, .fz (dueD xs ts f), .un, .un, .un, .un, .un, .un, .un]) ?_).trans ?_
  · simp (decide := true) only [Mir.next, dPure, dIo, endI, args0, argsI, fSeq, fIf, fSet, fSetN, fRet, fRetN, fDrop, fSkip, fAsg, fPar, xMk, fBool, fTruth, truth, fNot, fAnd, fOr, fBin, fUn, fVar, vE, eV, fzr, fC, rd, fCallP, fCallI, fCons, fNil, rCons, rNil, fCall, rds, g1, fTup, fLst, vNot, vAnd, vOr, vIf, heldAt, heldL, PL.putAt, Sl.held, Sl.put, fMut, mApp, gN, gTn, gsCons, gsNil, gPut, putD, aSeq, seqD, fYes, okW, wipeA, backA, fFor, fLc, fDc, fSc, fSortSet, gIsi, isK, gLen, gIntT, gTuple, gList, gDict, hdK_nil, hdK_i, hdK_s, dKey, gIs, gIsNot, isD, gEq_str, gNe_str, gEq_int, gNe_int, gEq_bool, gNe_bool, gIx_t0, gIx_t1, gIx_t2, gIx_l0, gIx_l1, gIx_l2, gIn2, gInL2, List.length_cons, List.length_nil, List.map_cons, List.map_nil, List.replicate, List.cons_append, List.nil_append, List.getElem?_cons_zero, List.getElem?_cons_succ, List.set_cons_zero, List.set_cons_succ, Nat.reduceAdd, Nat.reduceSub, Nat.reduceEqDiff, List.all_cons, List.all_nil, Option.isNone, Option.map_some, Option.map_none, Bool.and_self, Bool.and_true, Bool.true_and, Bool.and_false, Bool.false_and, Bool.or_true, Bool.true_or, Bool.or_false, Bool.false_or, Bool.or_self, Bool.not_true, Bool.not_false, if_true, if_false, reduceIte, Bool.false_eq_true, decide_true, decide_false, ite_true, ite_false, D1]
  refine (seq_nx (as1 := [.fz (intsD ns), .ow (bx ds c2), .fz (txts xs), .fz (tl ts), .fz f.d, .fz (gam ts f.d), .fz (.dict (sdD ts)), a7, a8, .fz (dueD xs ts f), .un, .un, .un, .un, .un, .un, .un]) ?_).trans ?_
  · simp (decide := true) only [Mir.next, dPure, dIo, endI, args0, argsI, fSeq, fIf, fSet, fSetN, fRet, fRetN, fDrop, fSkip, fAsg, fPar, xMk, fBool, fTruth, truth, fNot, fAnd, fOr, fBin, fUn, fVar, vE, eV, fzr, fC, rd, fCallP, fCallI, fCons, fNil, rCons, rNil, fCall, rds, g1, fTup, fLst, vNot, vAnd, vOr, vIf, heldAt, heldL, PL.putAt, Sl.held, Sl.put, fMut, mApp, gN, gTn, gsCons, gsNil, gPut, putD, aSeq, seqD, fYes, okW, wipeA, backA, fFor, fLc, fDc, fSc, fSortSet, gIsi, isK, gLen, gIntT, gTuple, gList, gDict, hdK_nil, hdK_i, hdK_s, dKey, gIs, gIsNot, isD, gEq_str, gNe_str, gEq_int, gNe_int, gEq_bool, gNe_bool, gIx_t0, gIx_t1, gIx_t2, gIx_l0, gIx_l1, gIx_l2, gIn2, gInL2, List.length_cons, List.length_nil, List.map_cons, List.map_nil, List.replicate, List.cons_append, List.nil_append, List.getElem?_cons_zero, List.getElem?_cons_succ, List.set_cons_zero, List.set_cons_succ, Nat.reduceAdd, Nat.reduceSub, Nat.reduceEqDiff, List.all_cons, List.all_nil, Option.isNone, Option.map_some, Option.map_none, Bool.and_self, Bool.and_true, Bool.true_and, Bool.and_false, Bool.false_and, Bool.or_true, Bool.true_or, Bool.or_false, Bool.false_or, Bool.or_self, Bool.not_true, Bool.not_false, if_true, if_false, reduceIte, Bool.false_eq_true, decide_true, decide_false, ite_true, ite_false, A1, S1]
  refine (seq_nx (as1 := [.fz (intsD ns), .ow (bx ds c2), .fz (txts xs), .fz (tl ts), .fz f.d, .fz (gam ts f.d), .fz (.dict (sdD ts)), .fz (.str (sd false)), a8, .fz (dueD xs ts f), b11, .un, .un, .un, .un, .un, .un]) ?_).trans ?_
  · show loopF (gN 7) (bfB (mir 200)) [.str (sd true), .str (sd false)] [.fz (intsD ns), .ow (bx ds c2), .fz (txts xs), .fz (tl ts), .fz f.d, .fz (gam ts f.d), .fz (.dict (sdD ts)), a7, a8, .fz (dueD xs ts f), .un, .un, .un, .un, .un, .un, .un] = _
    unfold loopF
    show (match bfB (mir 200) [.fz (intsD ns), .ow (bx ds c2), .fz (txts xs), .fz (tl ts), .fz f.d, .fz (gam ts f.d), .fz (.dict (sdD ts)), .fz (.str (sd true)), a8, .fz (dueD xs ts f), .un, .un, .un, .un, .un, .un, .un] with
      | some (.nx as2) => loopF (gN 7) (bfB (mir 200)) [.str (sd false)] as2
      | some (.ct as2) => loopF (gN 7) (bfB (mir 200)) [.str (sd false)] as2
      | some (.bk as2) => some (.nx as2)
      | some (.rt y as2) => some (.rt y as2)
      | none => none) = _
    rw [BS1]
    dsimp only
    unfold loopF
    show (match bfB (mir 200) [.fz (intsD ns), .ow (bx ds c2), .fz (txts xs), .fz (tl ts), .fz f.d, .fz (gam ts f.d), .fz (.dict (sdD ts)), .fz (.str (sd false)), a8, .fz (dueD xs ts f), b10, .un, .un, .un, .un, .un, .un] with
      | some (.nx as2) => loopF (gN 7) (bfB (mir 200)) [] as2
      | some (.ct as2) => loopF (gN 7) (bfB (mir 200)) [] as2
      | some (.bk as2) => some (.nx as2)
      | some (.rt y as2) => some (.rt y as2)
      | none => none) = _
    rw [BS2]
    rfl
  refine (seq_nx (as1 := [.fz (intsD ns), .ow (bx ds c2), .fz (txts xs), .fz (tl ts), .fz f.d, .fz (gam ts f.d), .fz (.dict (sdD ts)), .fz (.str (sd false)), a8, .fz (dueD xs ts f), b11, .ow (.list []), .un, .un, .un, .un, .un]) rfl).trans ?_
  refine (seq_nx (as1 := [.fz (intsD ns), .ow (bx ds c2), .fz (txts xs), .fz (tl ts), .fz f.d, .fz (gam ts f.d), .fz (.dict (sdD ts)), .fz (.str (sd false)), a8, .fz (dueD xs ts f), b11, .ow (.list ((someO xs ts f).map (kD ts))), d12, d13, .un, .un, .un]) ?_).trans ?_
  · exact LB1
  refine (seq_nx FW).trans ?_
  refine (seq_nx LI).trans ?_
  refine (seq_nx (as1 := [.fz (intsD ns), .ow (bx ds (c2 + 1)), .fz (txts xs), .fz (tl ts), .fz f.d, .fz (gam ts f.d), .fz (.dict (sdD ts)), .fz (.str (sd false)), a8, .fz (dueD xs ts f), b11, .ow (.list ((someO xs ts f).map (kD ts))), d12, d13, .fz (.int (p : Int)), .un, .un]) ?_).trans ?_
  · have lm : ((xs.map PyData.str).length : Int) - 1 = ((xs.length - 1 : Nat) : Int) := by
      rw [List.length_map]
      rcases lt.len with h | h <;> omega
    have e1 : txts xs = .list (xs.map PyData.str) := rfl
    rw [e1]
    simp (decide := true) only [Mir.next, dPure, dIo, endI, args0, argsI, fSeq, fIf, fSet, fSetN, fRet, fRetN, fDrop, fSkip, fAsg, fPar, xMk, fBool, fTruth, truth, fNot, fAnd, fOr, fBin, fUn, fVar, vE, eV, fzr, fC, rd, fCallP, fCallI, fCons, fNil, rCons, rNil, fCall, rds, g1, fTup, fLst, vNot, vAnd, vOr, vIf, heldAt, heldL, PL.putAt, Sl.held, Sl.put, fMut, mApp, gN, gTn, gsCons, gsNil, gPut, putD, aSeq, seqD, fYes, okW, wipeA, backA, fFor, fLc, fDc, fSc, fSortSet, gIsi, isK, gLen, gIntT, gTuple, gList, gDict, hdK_nil, hdK_i, hdK_s, dKey, gIs, gIsNot, isD, gEq_str, gNe_str, gEq_int, gNe_int, gEq_bool, gNe_bool, gIx_t0, gIx_t1, gIx_t2, gIx_l0, gIx_l1, gIx_l2, gIn2, gInL2, List.length_cons, List.length_nil, List.map_cons, List.map_nil, List.replicate, List.cons_append, List.nil_append, List.getElem?_cons_zero, List.getElem?_cons_succ, List.set_cons_zero, List.set_cons_succ, Nat.reduceAdd, Nat.reduceSub, Nat.reduceEqDiff, List.all_cons, List.all_nil, Option.isNone, Option.map_some, Option.map_none, Bool.and_self, Bool.and_true, Bool.true_and, Bool.and_false, Bool.false_and, Bool.or_true, Bool.true_or, Bool.or_false, Bool.false_or, Bool.or_self, Bool.not_true, Bool.not_false, if_true, if_false, reduceIte, Bool.false_eq_true, decide_true, decide_false, ite_true, ite_false, fCallI, PL.gSub, gInt, lm, DW3]
  refine (seq_nx LF).trans ?_
  simp (decide := true) only [Mir.next, dPure, dIo, endI, args0, argsI, fSeq, fIf, fSet, fSetN, fRet, fRetN, fDrop, fSkip, fAsg, fPar, xMk, fBool, fTruth, truth, fNot, fAnd, fOr, fBin, fUn, fVar, vE, eV, fzr, fC, rd, fCallP, fCallI, fCons, fNil, rCons, rNil, fCall, rds, g1, fTup, fLst, vNot, vAnd, vOr, vIf, heldAt, heldL, PL.putAt, Sl.held, Sl.put, fMut, mApp, gN, gTn, gsCons, gsNil, gPut, putD, aSeq, seqD, fYes, okW, wipeA, backA, fFor, fLc, fDc, fSc, fSortSet, gIsi, isK, gLen, gIntT, gTuple, gList, gDict, hdK_nil, hdK_i, hdK_s, dKey, gIs, gIsNot, isD, gEq_str, gNe_str, gEq_int, gNe_int, gEq_bool, gNe_bool, gIx_t0, gIx_t1, gIx_t2, gIx_l0, gIx_l1, gIx_l2, gIn2, gInL2, List.length_cons, List.length_nil, List.map_cons, List.map_nil, List.replicate, List.cons_append, List.nil_append, List.getElem?_cons_zero, List.getElem?_cons_succ, List.set_cons_zero, List.set_cons_succ, Nat.reduceAdd, Nat.reduceSub, Nat.reduceEqDiff, List.all_cons, List.all_nil, Option.isNone, Option.map_some, Option.map_none, Bool.and_self, Bool.and_true, Bool.true_and, Bool.and_false, Bool.false_and, Bool.or_true, Bool.true_or, Bool.or_false, Bool.false_or, Bool.or_self, Bool.not_true, Bool.not_false, if_true, if_false, reduceIte, Bool.false_eq_true, decide_true, decide_false, ite_true, ite_false, W1, P3, S3]
end K11
namespace K11
open PySem PySem.Spec PyProof.Rows L2 PL
def spLaw (K : PySem.W.Frag) : Sp := fun vs H Q _ => ∃ (a : Addr) (ns : List Int), vs = [.ref a] ∧ SqL K H a (ns.map V.int) ∧ ns.length ≤ 63 ∧ ∀ H', Q (.bl true) H'
theorem frs_ints {K : PySem.W.Frag} {F : Hp} : ∀ ns : List Int, FRs K F (ns.map V.int) (ns.map PyData.int)
  | [] => .nil
  | n :: ns => .cons (.int n) (frs_ints ns)
set_option maxHeartbeats 0 in
def glob_mk {K : PySem.W.Frag} {h : Heap} {mg : Str → Option Value} (X : K.In h) (G : h.Ns mainGlobals mg)
    {oc1 kV1 dc1 pm1 cd1 ct1 : Value} {od1 an1 : Option Addr} {sl1 : Array (Option Value)} {f1 : Addr} {oc2 kV2 dc2 pm2 cd2 ct2 : Value} {od2 an2 : Option Addr} {sl2 : Array (Option Value)} {f2 : Addr} {oc3 kV3 dc3 pm3 cd3 ct3 : Value} {od3 an3 : Option Addr} {sl3 : Array (Option Value)} {f3 : Addr} {oc4 kV4 dc4 pm4 cd4 ct4 : Value} {od4 an4 : Option Addr} {sl4 : Array (Option Value)} {f4 : Addr} {oc5 kV5 dc5 pm5 cd5 ct5 : Value} {od5 an5 : Option Addr} {sl5 : Array (Option Value)} {f5 : Addr} {oc6 kV6 dc6 pm6 cd6 ct6 : Value} {od6 an6 : Option Addr} {sl6 : Array (Option Value)} {f6 : Addr} {oc7 kV7 dc7 pm7 cd7 ct7 : Value} {od7 an7 : Option Addr} {sl7 : Array (Option Value)} {f7 : Addr} {oc8 kV8 dc8 pm8 cd8 ct8 : Value} {od8 an8 : Option Addr} {sl8 : Array (Option Value)} {f8 : Addr} {oc9 kV9 dc9 pm9 cd9 ct9 : Value} {od9 an9 : Option Addr} {sl9 : Array (Option Value)} {f9 : Addr} {oc10 kV10 dc10 pm10 cd10 ct10 : Value} {od10 an10 : Option Addr} {sl10 : Array (Option Value)} {f10 : Addr} {oc11 kV11 dc11 pm11 cd11 ct11 : Value} {od11 an11 : Option Addr} {sl11 : Array (Option Value)} {f11 : Addr} {oc12 kV12 dc12 pm12 cd12 ct12 : Value} {od12 an12 : Option Addr} {sl12 : Array (Option Value)} {f12 : Addr} {oc13 kV13 dc13 pm13 cd13 ct13 : Value} {od13 an13 : Option Addr} {sl13 : Array (Option Value)} {f13 : Addr} {oc14 kV14 dc14 pm14 cd14 ct14 : Value} {od14 an14 : Option Addr} {sl14 : Array (Option Value)} {f14 : Addr} {oc15 kV15 dc15 pm15 cd15 ct15 : Value} {od15 an15 : Option Addr} {sl15 : Array (Option Value)} {f15 : Addr} {oc16 kV16 dc16 pm16 cd16 ct16 : Value} {od16 an16 : Option Addr} {sl16 : Array (Option Value)} {f16 : Addr} {oc17 kV17 dc17 pm17 cd17 ct17 : Value} {od17 an17 : Option Addr} {sl17 : Array (Option Value)} {f17 : Addr} {oc18 kV18 dc18 pm18 cd18 ct18 : Value} {od18 an18 : Option Addr} {sl18 : Array (Option Value)} {f18 : Addr} {oc19 kV19 dc19 pm19 cd19 ct19 : Value} {od19 an19 : Option Addr} {sl19 : Array (Option Value)} {f19 : Addr} {oc20 kV20 dc20 pm20 cd20 ct20 : Value} {od20 an20 : Option Addr} {sl20 : Array (Option Value)} {f20 : Addr} {oc21 kV21 dc21 pm21 cd21 ct21 : Value} {od21 an21 : Option Addr} {sl21 : Array (Option Value)} {f21 : Addr} {oc22 kV22 dc22 pm22 cd22 ct22 : Value} {od22 an22 : Option Addr} {sl22 : Array (Option Value)} {f22 : Addr} {oc23 kV23 dc23 pm23 cd23 ct23 : Value} {od23 an23 : Option Addr} {sl23 : Array (Option Value)} {f23 : Addr} {oc24 kV24 dc24 pm24 cd24 ct24 : Value} {od24 an24 : Option Addr} {sl24 : Array (Option Value)} {f24 : Addr} {oc25 kV25 dc25 pm25 cd25 ct25 : Value} {od25 an25 : Option Addr} {sl25 : Array (Option Value)} {f25 : Addr} {oc26 kV26 dc26 pm26 cd26 ct26 : Value} {od26 an26 : Option Addr} {sl26 : Array (Option Value)} {f26 : Addr} {oc27 kV27 dc27 pm27 cd27 ct27 : Value} {od27 an27 : Option Addr} {sl27 : Array (Option Value)} {f27 : Addr} {oc28 kV28 dc28 pm28 cd28 ct28 : Value} {od28 an28 : Option Addr} {sl28 : Array (Option Value)} {f28 : Addr} {oc29 kV29 dc29 pm29 cd29 ct29 : Value} {od29 an29 : Option Addr} {sl29 : Array (Option Value)} {f29 : Addr} {tk1 : Tok} {tk2 : Tok} {t_SIDES_1 n_SIDES_1 : Nat} {o_SIDES_1 : Option Addr} {s_SIDES_1 : Array (Option Value)}
    (a1 : PySem.W.nsIn K mainGlobals "lot" = some (some (.ref f1))) (l1 : K.lookup f1 = some ⟨oc1, od1, .func (PySem.W.fnOf "lot" "lot" (defArgs s_lot) (defBody s_lot) (defScope s_lot) .none kV1 dc1 pm1 an1 cd1 ct1), sl1⟩) (c1 : PySem.W.codeIn K cd1 "lot" = true) (k1 : PySem.W.keepIn K (.ref f1) = true)
    (a2 : PySem.W.nsIn K mainGlobals "worth" = some (some (.ref f2))) (l2 : K.lookup f2 = some ⟨oc2, od2, .func (PySem.W.fnOf "worth" "worth" (defArgs s_worth) (defBody s_worth) (defScope s_worth) .none kV2 dc2 pm2 an2 cd2 ct2), sl2⟩) (c2 : PySem.W.codeIn K cd2 "worth" = true) (k2 : PySem.W.keepIn K (.ref f2) = true)
    (a3 : PySem.W.nsIn K mainGlobals "with_sign" = some (some (.ref f3))) (l3 : K.lookup f3 = some ⟨oc3, od3, .func (PySem.W.fnOf "with_sign" "with_sign" (defArgs s_with_sign) (defBody s_with_sign) (defScope s_with_sign) .none kV3 dc3 pm3 an3 cd3 ct3), sl3⟩) (c3 : PySem.W.codeIn K cd3 "with_sign" = true) (k3 : PySem.W.keepIn K (.ref f3) = true)
    (a4 : PySem.W.nsIn K mainGlobals "ahead_of" = some (some (.ref f4))) (l4 : K.lookup f4 = some ⟨oc4, od4, .func (PySem.W.fnOf "ahead_of" "ahead_of" (defArgs s_ahead_of) (defBody s_ahead_of) (defScope s_ahead_of) .none kV4 dc4 pm4 an4 cd4 ct4), sl4⟩) (c4 : PySem.W.codeIn K cd4 "ahead_of" = true) (k4 : PySem.W.keepIn K (.ref f4) = true)
    (a5 : PySem.W.nsIn K mainGlobals "plain_game" = some (some (.ref f5))) (l5 : K.lookup f5 = some ⟨oc5, od5, .func (PySem.W.fnOf "plain_game" "plain_game" (defArgs s_plain_game) (defBody s_plain_game) (defScope s_plain_game) .none kV5 dc5 pm5 an5 cd5 ct5), sl5⟩) (c5 : PySem.W.codeIn K cd5 "plain_game" = true) (k5 : PySem.W.keepIn K (.ref f5) = true)
    (a6 : PySem.W.nsIn K mainGlobals "blocks" = some (some (.ref f6))) (l6 : K.lookup f6 = some ⟨oc6, od6, .func (PySem.W.fnOf "blocks" "blocks" (defArgs s_blocks) (defBody s_blocks) (defScope s_blocks) .none kV6 dc6 pm6 an6 cd6 ct6), sl6⟩) (c6 : PySem.W.codeIn K cd6 "blocks" = true) (k6 : PySem.W.keepIn K (.ref f6) = true)
    (a7 : PySem.W.nsIn K mainGlobals "closed" = some (some (.ref f7))) (l7 : K.lookup f7 = some ⟨oc7, od7, .func (PySem.W.fnOf "closed" "closed" (defArgs s_closed) (defBody s_closed) (defScope s_closed) .none kV7 dc7 pm7 an7 cd7 ct7), sl7⟩) (c7 : PySem.W.codeIn K cd7 "closed" = true) (k7 : PySem.W.keepIn K (.ref f7) = true)
    (a8 : PySem.W.nsIn K mainGlobals "winner" = some (some (.ref f8))) (l8 : K.lookup f8 = some ⟨oc8, od8, .func (PySem.W.fnOf "winner" "winner" (defArgs s_winner) (defBody s_winner) (defScope s_winner) .none kV8 dc8 pm8 an8 cd8 ct8), sl8⟩) (c8 : PySem.W.codeIn K cd8 "winner" = true) (k8 : PySem.W.keepIn K (.ref f8) = true)
    (a9 : PySem.W.nsIn K mainGlobals "swapped" = some (some (.ref f9))) (l9 : K.lookup f9 = some ⟨oc9, od9, .func (PySem.W.fnOf "swapped" "swapped" (defArgs s_swapped) (defBody s_swapped) (defScope s_swapped) .none kV9 dc9 pm9 an9 cd9 ct9), sl9⟩) (c9 : PySem.W.codeIn K cd9 "swapped" = true) (k9 : PySem.W.keepIn K (.ref f9) = true)
    (a10 : PySem.W.nsIn K mainGlobals "in_letter_order" = some (some (.ref f10))) (l10 : K.lookup f10 = some ⟨oc10, od10, .func (PySem.W.fnOf "in_letter_order" "in_letter_order" (defArgs s_in_letter_order) (defBody s_in_letter_order) (defScope s_in_letter_order) .none kV10 dc10 pm10 an10 cd10 ct10), sl10⟩) (c10 : PySem.W.codeIn K cd10 "in_letter_order" = true) (k10 : PySem.W.keepIn K (.ref f10) = true)
    (a11 : PySem.W.nsIn K mainGlobals "all_orders" = some (some (.ref f11))) (l11 : K.lookup f11 = some ⟨oc11, od11, .func (PySem.W.fnOf "all_orders" "all_orders" (defArgs s_all_orders) (defBody s_all_orders) (defScope s_all_orders) .none kV11 dc11 pm11 an11 cd11 ct11), sl11⟩) (c11 : PySem.W.codeIn K cd11 "all_orders" = true) (k11 : PySem.W.keepIn K (.ref f11) = true)
    (a12 : PySem.W.nsIn K mainGlobals "best_for" = some (some (.ref f12))) (l12 : K.lookup f12 = some ⟨oc12, od12, .func (PySem.W.fnOf "best_for" "best_for" (defArgs s_best_for) (defBody s_best_for) (defScope s_best_for) .none kV12 dc12 pm12 an12 cd12 ct12), sl12⟩) (c12 : PySem.W.codeIn K cd12 "best_for" = true) (k12 : PySem.W.keepIn K (.ref f12) = true)
    (a13 : PySem.W.nsIn K mainGlobals "fewest_changes" = some (some (.ref f13))) (l13 : K.lookup f13 = some ⟨oc13, od13, .func (PySem.W.fnOf "fewest_changes" "fewest_changes" (defArgs s_fewest_changes) (defBody s_fewest_changes) (defScope s_fewest_changes) .none kV13 dc13 pm13 an13 cd13 ct13), sl13⟩) (c13 : PySem.W.codeIn K cd13 "fewest_changes" = true) (k13 : PySem.W.keepIn K (.ref f13) = true)
    (a14 : PySem.W.nsIn K mainGlobals "_law_cell" = some (some (.ref f14))) (l14 : K.lookup f14 = some ⟨oc14, od14, .func (PySem.W.fnOf "_law_cell" "_law_cell" (defArgs s__law_cell) (defBody s__law_cell) (defScope s__law_cell) .none kV14 dc14 pm14 an14 cd14 ct14), sl14⟩) (c14 : PySem.W.codeIn K cd14 "_law_cell" = true) (k14 : PySem.W.keepIn K (.ref f14) = true)
    (a15 : PySem.W.nsIn K mainGlobals "_law_digits" = some (some (.ref f15))) (l15 : K.lookup f15 = some ⟨oc15, od15, .func (PySem.W.fnOf "_law_digits" "_law_digits" (defArgs s__law_digits) (defBody s__law_digits) (defScope s__law_digits) .none kV15 dc15 pm15 an15 cd15 ct15), sl15⟩) (c15 : PySem.W.codeIn K cd15 "_law_digits" = true) (k15 : PySem.W.keepIn K (.ref f15) = true)
    (a16 : PySem.W.nsIn K mainGlobals "_law_draw" = some (some (.ref f16))) (l16 : K.lookup f16 = some ⟨oc16, od16, .func (PySem.W.fnOf "_law_draw" "_law_draw" (defArgs s__law_draw) (defBody s__law_draw) (defScope s__law_draw) .none kV16 dc16 pm16 an16 cd16 ct16), sl16⟩) (c16 : PySem.W.codeIn K cd16 "_law_draw" = true) (k16 : PySem.W.keepIn K (.ref f16) = true)
    (a17 : PySem.W.nsIn K mainGlobals "_law_pick" = some (some (.ref f17))) (l17 : K.lookup f17 = some ⟨oc17, od17, .func (PySem.W.fnOf "_law_pick" "_law_pick" (defArgs s__law_pick) (defBody s__law_pick) (defScope s__law_pick) .none kV17 dc17 pm17 an17 cd17 ct17), sl17⟩) (c17 : PySem.W.codeIn K cd17 "_law_pick" = true) (k17 : PySem.W.keepIn K (.ref f17) = true)
    (a18 : PySem.W.nsIn K mainGlobals "_law_mixed" = some (some (.ref f18))) (l18 : K.lookup f18 = some ⟨oc18, od18, .func (PySem.W.fnOf "_law_mixed" "_law_mixed" (defArgs s__law_mixed) (defBody s__law_mixed) (defScope s__law_mixed) .none kV18 dc18 pm18 an18 cd18 ct18), sl18⟩) (c18 : PySem.W.codeIn K cd18 "_law_mixed" = true) (k18 : PySem.W.keepIn K (.ref f18) = true)
    (a19 : PySem.W.nsIn K mainGlobals "_law_same" = some (some (.ref f19))) (l19 : K.lookup f19 = some ⟨oc19, od19, .func (PySem.W.fnOf "_law_same" "_law_same" (defArgs s__law_same) (defBody s__law_same) (defScope s__law_same) .none kV19 dc19 pm19 an19 cd19 ct19), sl19⟩) (c19 : PySem.W.codeIn K cd19 "_law_same" = true) (k19 : PySem.W.keepIn K (.ref f19) = true)
    (a20 : PySem.W.nsIn K mainGlobals "_law_turns" = some (some (.ref f20))) (l20 : K.lookup f20 = some ⟨oc20, od20, .func (PySem.W.fnOf "_law_turns" "_law_turns" (defArgs s__law_turns) (defBody s__law_turns) (defScope s__law_turns) .none kV20 dc20 pm20 an20 cd20 ct20), sl20⟩) (c20 : PySem.W.codeIn K cd20 "_law_turns" = true) (k20 : PySem.W.keepIn K (.ref f20) = true)
    (a21 : PySem.W.nsIn K mainGlobals "_law_plain" = some (some (.ref f21))) (l21 : K.lookup f21 = some ⟨oc21, od21, .func (PySem.W.fnOf "_law_plain" "_law_plain" (defArgs s__law_plain) (defBody s__law_plain) (defScope s__law_plain) .none kV21 dc21 pm21 an21 cd21 ct21), sl21⟩) (c21 : PySem.W.codeIn K cd21 "_law_plain" = true) (k21 : PySem.W.keepIn K (.ref f21) = true)
    (a22 : PySem.W.nsIn K mainGlobals "_law_formula" = some (some (.ref f22))) (l22 : K.lookup f22 = some ⟨oc22, od22, .func (PySem.W.fnOf "_law_formula" "_law_formula" (defArgs s__law_formula) (defBody s__law_formula) (defScope s__law_formula) .none kV22 dc22 pm22 an22 cd22 ct22), sl22⟩) (c22 : PySem.W.codeIn K cd22 "_law_formula" = true) (k22 : PySem.W.keepIn K (.ref f22) = true)
    (a23 : PySem.W.nsIn K mainGlobals "_law_worth" = some (some (.ref f23))) (l23 : K.lookup f23 = some ⟨oc23, od23, .func (PySem.W.fnOf "_law_worth" "_law_worth" (defArgs s__law_worth) (defBody s__law_worth) (defScope s__law_worth) .none kV23 dc23 pm23 an23 cd23 ct23), sl23⟩) (c23 : PySem.W.codeIn K cd23 "_law_worth" = true) (k23 : PySem.W.keepIn K (.ref f23) = true)
    (a24 : PySem.W.nsIn K mainGlobals "_law_all_signs" = some (some (.ref f24))) (l24 : K.lookup f24 = some ⟨oc24, od24, .func (PySem.W.fnOf "_law_all_signs" "_law_all_signs" (defArgs s__law_all_signs) (defBody s__law_all_signs) (defScope s__law_all_signs) .none kV24 dc24 pm24 an24 cd24 ct24), sl24⟩) (c24 : PySem.W.codeIn K cd24 "_law_all_signs" = true) (k24 : PySem.W.keepIn K (.ref f24) = true)
    (a25 : PySem.W.nsIn K mainGlobals "_law_orders" = some (some (.ref f25))) (l25 : K.lookup f25 = some ⟨oc25, od25, .func (PySem.W.fnOf "_law_orders" "_law_orders" (defArgs s__law_orders) (defBody s__law_orders) (defScope s__law_orders) .none kV25 dc25 pm25 an25 cd25 ct25), sl25⟩) (c25 : PySem.W.codeIn K cd25 "_law_orders" = true) (k25 : PySem.W.keepIn K (.ref f25) = true)
    (a26 : PySem.W.nsIn K mainGlobals "_law_sides" = some (some (.ref f26))) (l26 : K.lookup f26 = some ⟨oc26, od26, .func (PySem.W.fnOf "_law_sides" "_law_sides" (defArgs s__law_sides) (defBody s__law_sides) (defScope s__law_sides) .none kV26 dc26 pm26 an26 cd26 ct26), sl26⟩) (c26 : PySem.W.codeIn K cd26 "_law_sides" = true) (k26 : PySem.W.keepIn K (.ref f26) = true)
    (a27 : PySem.W.nsIn K mainGlobals "_law_chosen" = some (some (.ref f27))) (l27 : K.lookup f27 = some ⟨oc27, od27, .func (PySem.W.fnOf "_law_chosen" "_law_chosen" (defArgs s__law_chosen) (defBody s__law_chosen) (defScope s__law_chosen) .none kV27 dc27 pm27 an27 cd27 ct27), sl27⟩) (c27 : PySem.W.codeIn K cd27 "_law_chosen" = true) (k27 : PySem.W.keepIn K (.ref f27) = true)
    (a28 : PySem.W.nsIn K mainGlobals "_law_blocks" = some (some (.ref f28))) (l28 : K.lookup f28 = some ⟨oc28, od28, .func (PySem.W.fnOf "_law_blocks" "_law_blocks" (defArgs s__law_blocks) (defBody s__law_blocks) (defScope s__law_blocks) .none kV28 dc28 pm28 an28 cd28 ct28), sl28⟩) (c28 : PySem.W.codeIn K cd28 "_law_blocks" = true) (k28 : PySem.W.keepIn K (.ref f28) = true)
    (a29 : PySem.W.nsIn K mainGlobals "law" = some (some (.ref f29))) (l29 : K.lookup f29 = some ⟨oc29, od29, .func (PySem.W.fnOf "law" "law" (defArgs s_law) (defBody s_law) (defScope s_law) .none kV29 dc29 pm29 an29 cd29 ct29), sl29⟩) (c29 : PySem.W.codeIn K cd29 "law" = true) (k29 : PySem.W.keepIn K (.ref f29) = true)
    (n_SIDES : PySem.W.nsIn K mainGlobals "SIDES" = some (some (.ref t_SIDES_1)))
    (l_SIDES_1 : K.lookup t_SIDES_1 = some ⟨.type "tuple", o_SIDES_1, .seq ([.str "all" tk1, .str "some" tk2] : List Value).toArray n_SIDES_1, s_SIDES_1⟩)
    (z_all : PySem.W.nsIn K mainGlobals "all" = some none)
    (z_any : PySem.W.nsIn K mainGlobals "any" = some none)
    (z_bool : PySem.W.nsIn K mainGlobals "bool" = some none)
    (z_dict : PySem.W.nsIn K mainGlobals "dict" = some none)
    (z_int : PySem.W.nsIn K mainGlobals "int" = some none)
    (z_isinstance : PySem.W.nsIn K mainGlobals "isinstance" = some none)
    (z_len : PySem.W.nsIn K mainGlobals "len" = some none)
    (z_list : PySem.W.nsIn K mainGlobals "list" = some none)
    (z_max : PySem.W.nsIn K mainGlobals "max" = some none)
    (z_min : PySem.W.nsIn K mainGlobals "min" = some none)
    (z_range : PySem.W.nsIn K mainGlobals "range" = some none)
    (z_repr : PySem.W.nsIn K mainGlobals "repr" = some none)
    (z_sorted : PySem.W.nsIn K mainGlobals "sorted" = some none)
    (z_str : PySem.W.nsIn K mainGlobals "str" = some none)
    (z_tuple : PySem.W.nsIn K mainGlobals "tuple" = some none) : Glob K mg where
  a_lot := f1
  d_lot := PySem.W.fnOf "lot" "lot" (defArgs s_lot) (defBody s_lot) (defScope s_lot) .none kV1 dc1 pm1 an1 cd1 ct1
  F_lot := fun_mk (st := s_lot) l1 c1 k1
  B_lot := (fun_mk (st := s_lot) l1 c1 k1).binds (ps := ["letters"]) fun _ _ _ _ _ _ us hl => match us, hl with | [_], _ => rfl
  m_lot := PySem.W.mg_of X G a1
  a_worth := f2
  d_worth := PySem.W.fnOf "worth" "worth" (defArgs s_worth) (defBody s_worth) (defScope s_worth) .none kV2 dc2 pm2 an2 cd2 ct2
  F_worth := fun_mk (st := s_worth) l2 c2 k2
  B_worth := (fun_mk (st := s_worth) l2 c2 k2).binds (ps := ["formula", "signs"]) fun _ _ _ _ _ _ us hl => match us, hl with | [_, _], _ => rfl
  m_worth := PySem.W.mg_of X G a2
  a_with_sign := f3
  d_with_sign := PySem.W.fnOf "with_sign" "with_sign" (defArgs s_with_sign) (defBody s_with_sign) (defScope s_with_sign) .none kV3 dc3 pm3 an3 cd3 ct3
  F_with_sign := fun_mk (st := s_with_sign) l3 c3 k3
  B_with_sign := (fun_mk (st := s_with_sign) l3 c3 k3).binds (ps := ["signs", "letter", "sign"]) fun _ _ _ _ _ _ us hl => match us, hl with | [_, _, _], _ => rfl
  m_with_sign := PySem.W.mg_of X G a3
  a_ahead_of := f4
  d_ahead_of := PySem.W.fnOf "ahead_of" "ahead_of" (defArgs s_ahead_of) (defBody s_ahead_of) (defScope s_ahead_of) .none kV4 dc4 pm4 an4 cd4 ct4
  F_ahead_of := fun_mk (st := s_ahead_of) l4 c4 k4
  B_ahead_of := (fun_mk (st := s_ahead_of) l4 c4 k4).binds (ps := ["turns", "letter"]) fun _ _ _ _ _ _ us hl => match us, hl with | [_, _], _ => rfl
  m_ahead_of := PySem.W.mg_of X G a4
  a_plain_game := f5
  d_plain_game := PySem.W.fnOf "plain_game" "plain_game" (defArgs s_plain_game) (defBody s_plain_game) (defScope s_plain_game) .none kV5 dc5 pm5 an5 cd5 ct5
  F_plain_game := fun_mk (st := s_plain_game) l5 c5 k5
  B_plain_game := (fun_mk (st := s_plain_game) l5 c5 k5).binds (ps := ["turns", "need"]) fun _ _ _ _ _ _ us hl => match us, hl with | [_, _], _ => rfl
  m_plain_game := PySem.W.mg_of X G a5
  a_blocks := f6
  d_blocks := PySem.W.fnOf "blocks" "blocks" (defArgs s_blocks) (defBody s_blocks) (defScope s_blocks) .none kV6 dc6 pm6 an6 cd6 ct6
  F_blocks := fun_mk (st := s_blocks) l6 c6 k6
  B_blocks := (fun_mk (st := s_blocks) l6 c6 k6).binds (ps := ["turns"]) fun _ _ _ _ _ _ us hl => match us, hl with | [_], _ => rfl
  m_blocks := PySem.W.mg_of X G a6
  a_closed := f7
  d_closed := PySem.W.fnOf "closed" "closed" (defArgs s_closed) (defBody s_closed) (defScope s_closed) .none kV7 dc7 pm7 an7 cd7 ct7
  F_closed := fun_mk (st := s_closed) l7 c7 k7
  B_closed := (fun_mk (st := s_closed) l7 c7 k7).binds (ps := ["game"]) fun _ _ _ _ _ _ us hl => match us, hl with | [_], _ => rfl
  m_closed := PySem.W.mg_of X G a7
  a_winner := f8
  d_winner := PySem.W.fnOf "winner" "winner" (defArgs s_winner) (defBody s_winner) (defScope s_winner) .none kV8 dc8 pm8 an8 cd8 ct8
  F_winner := fun_mk (st := s_winner) l8 c8 k8
  B_winner := (fun_mk (st := s_winner) l8 c8 k8).binds (ps := ["game"]) fun _ _ _ _ _ _ us hl => match us, hl with | [_], _ => rfl
  m_winner := PySem.W.mg_of X G a8
  a_swapped := f9
  d_swapped := PySem.W.fnOf "swapped" "swapped" (defArgs s_swapped) (defBody s_swapped) (defScope s_swapped) .none kV9 dc9 pm9 an9 cd9 ct9
  F_swapped := fun_mk (st := s_swapped) l9 c9 k9
  B_swapped := (fun_mk (st := s_swapped) l9 c9 k9).binds (ps := ["game", "place"]) fun _ _ _ _ _ _ us hl => match us, hl with | [_, _], _ => rfl
  m_swapped := PySem.W.mg_of X G a9
  a_in_letter_order := f10
  d_in_letter_order := PySem.W.fnOf "in_letter_order" "in_letter_order" (defArgs s_in_letter_order) (defBody s_in_letter_order) (defScope s_in_letter_order) .none kV10 dc10 pm10 an10 cd10 ct10
  F_in_letter_order := fun_mk (st := s_in_letter_order) l10 c10 k10
  B_in_letter_order := (fun_mk (st := s_in_letter_order) l10 c10 k10).binds (ps := ["game"]) fun _ _ _ _ _ _ us hl => match us, hl with | [_], _ => rfl
  m_in_letter_order := PySem.W.mg_of X G a10
  a_all_orders := f11
  d_all_orders := PySem.W.fnOf "all_orders" "all_orders" (defArgs s_all_orders) (defBody s_all_orders) (defScope s_all_orders) .none kV11 dc11 pm11 an11 cd11 ct11
  F_all_orders := fun_mk (st := s_all_orders) l11 c11 k11
  B_all_orders := (fun_mk (st := s_all_orders) l11 c11 k11).binds (ps := ["game"]) fun _ _ _ _ _ _ us hl => match us, hl with | [_], _ => rfl
  m_all_orders := PySem.W.mg_of X G a11
  a_best_for := f12
  d_best_for := PySem.W.fnOf "best_for" "best_for" (defArgs s_best_for) (defBody s_best_for) (defScope s_best_for) .none kV12 dc12 pm12 an12 cd12 ct12
  F_best_for := fun_mk (st := s_best_for) l12 c12 k12
  B_best_for := (fun_mk (st := s_best_for) l12 c12 k12).binds (ps := ["game", "side"]) fun _ _ _ _ _ _ us hl => match us, hl with | [_, _], _ => rfl
  m_best_for := PySem.W.mg_of X G a12
  a_fewest_changes := f13
  d_fewest_changes := PySem.W.fnOf "fewest_changes" "fewest_changes" (defArgs s_fewest_changes) (defBody s_fewest_changes) (defScope s_fewest_changes) .none kV13 dc13 pm13 an13 cd13 ct13
  F_fewest_changes := fun_mk (st := s_fewest_changes) l13 c13 k13
  B_fewest_changes := (fun_mk (st := s_fewest_changes) l13 c13 k13).binds (ps := ["game"]) fun _ _ _ _ _ _ us hl => match us, hl with | [_], _ => rfl
  m_fewest_changes := PySem.W.mg_of X G a13
  a__law_cell := f14
  d__law_cell := PySem.W.fnOf "_law_cell" "_law_cell" (defArgs s__law_cell) (defBody s__law_cell) (defScope s__law_cell) .none kV14 dc14 pm14 an14 cd14 ct14
  F__law_cell := fun_mk (st := s__law_cell) l14 c14 k14
  B__law_cell := (fun_mk (st := s__law_cell) l14 c14 k14).binds (ps := ["script", "k"]) fun _ _ _ _ _ _ us hl => match us, hl with | [_, _], _ => rfl
  m__law_cell := PySem.W.mg_of X G a14
  a__law_digits := f15
  d__law_digits := PySem.W.fnOf "_law_digits" "_law_digits" (defArgs s__law_digits) (defBody s__law_digits) (defScope s__law_digits) .none kV15 dc15 pm15 an15 cd15 ct15
  F__law_digits := fun_mk (st := s__law_digits) l15 c15 k15
  B__law_digits := (fun_mk (st := s__law_digits) l15 c15 k15).binds (ps := ["script", "first", "last"]) fun _ _ _ _ _ _ us hl => match us, hl with | [_, _, _], _ => rfl
  m__law_digits := PySem.W.mg_of X G a15
  a__law_draw := f16
  d__law_draw := PySem.W.fnOf "_law_draw" "_law_draw" (defArgs s__law_draw) (defBody s__law_draw) (defScope s__law_draw) .none kV16 dc16 pm16 an16 cd16 ct16
  F__law_draw := fun_mk (st := s__law_draw) l16 c16 k16
  B__law_draw := (fun_mk (st := s__law_draw) l16 c16 k16).binds (ps := ["box", "many"]) fun _ _ _ _ _ _ us hl => match us, hl with | [_, _], _ => rfl
  m__law_draw := PySem.W.mg_of X G a16
  a__law_pick := f17
  d__law_pick := PySem.W.fnOf "_law_pick" "_law_pick" (defArgs s__law_pick) (defBody s__law_pick) (defScope s__law_pick) .none kV17 dc17 pm17 an17 cd17 ct17
  F__law_pick := fun_mk (st := s__law_pick) l17 c17 k17
  B__law_pick := (fun_mk (st := s__law_pick) l17 c17 k17).binds (ps := ["box", "row"]) fun _ _ _ _ _ _ us hl => match us, hl with | [_, _], _ => rfl
  m__law_pick := PySem.W.mg_of X G a17
  a__law_mixed := f18
  d__law_mixed := PySem.W.fnOf "_law_mixed" "_law_mixed" (defArgs s__law_mixed) (defBody s__law_mixed) (defScope s__law_mixed) .none kV18 dc18 pm18 an18 cd18 ct18
  F__law_mixed := fun_mk (st := s__law_mixed) l18 c18 k18
  B__law_mixed := (fun_mk (st := s__law_mixed) l18 c18 k18).binds (ps := ["box", "row"]) fun _ _ _ _ _ _ us hl => match us, hl with | [_, _], _ => rfl
  m__law_mixed := PySem.W.mg_of X G a18
  a__law_same := f19
  d__law_same := PySem.W.fnOf "_law_same" "_law_same" (defArgs s__law_same) (defBody s__law_same) (defScope s__law_same) .none kV19 dc19 pm19 an19 cd19 ct19
  F__law_same := fun_mk (st := s__law_same) l19 c19 k19
  B__law_same := (fun_mk (st := s__law_same) l19 c19 k19).binds (ps := ["told", "due"]) fun _ _ _ _ _ _ us hl => match us, hl with | [_, _], _ => rfl
  m__law_same := PySem.W.mg_of X G a19
  a__law_turns := f20
  d__law_turns := PySem.W.fnOf "_law_turns" "_law_turns" (defArgs s__law_turns) (defBody s__law_turns) (defScope s__law_turns) .none kV20 dc20 pm20 an20 cd20 ct20
  F__law_turns := fun_mk (st := s__law_turns) l20 c20 k20
  B__law_turns := (fun_mk (st := s__law_turns) l20 c20 k20).binds (ps := ["box", "letters"]) fun _ _ _ _ _ _ us hl => match us, hl with | [_, _], _ => rfl
  m__law_turns := PySem.W.mg_of X G a20
  a__law_plain := f21
  d__law_plain := PySem.W.fnOf "_law_plain" "_law_plain" (defArgs s__law_plain) (defBody s__law_plain) (defScope s__law_plain) .none kV21 dc21 pm21 an21 cd21 ct21
  F__law_plain := fun_mk (st := s__law_plain) l21 c21 k21
  B__law_plain := (fun_mk (st := s__law_plain) l21 c21 k21).binds (ps := ["turns", "need"]) fun _ _ _ _ _ _ us hl => match us, hl with | [_, _], _ => rfl
  m__law_plain := PySem.W.mg_of X G a21
  a__law_formula := f22
  d__law_formula := PySem.W.fnOf "_law_formula" "_law_formula" (defArgs s__law_formula) (defBody s__law_formula) (defScope s__law_formula) .none kV22 dc22 pm22 an22 cd22 ct22
  F__law_formula := fun_mk (st := s__law_formula) l22 c22 k22
  B__law_formula := (fun_mk (st := s__law_formula) l22 c22 k22).binds (ps := ["box", "letters", "deep"]) fun _ _ _ _ _ _ us hl => match us, hl with | [_, _, _], _ => rfl
  m__law_formula := PySem.W.mg_of X G a22
  a__law_worth := f23
  d__law_worth := PySem.W.fnOf "_law_worth" "_law_worth" (defArgs s__law_worth) (defBody s__law_worth) (defScope s__law_worth) .none kV23 dc23 pm23 an23 cd23 ct23
  F__law_worth := fun_mk (st := s__law_worth) l23 c23 k23
  B__law_worth := (fun_mk (st := s__law_worth) l23 c23 k23).binds (ps := ["formula", "signs"]) fun _ _ _ _ _ _ us hl => match us, hl with | [_, _], _ => rfl
  m__law_worth := PySem.W.mg_of X G a23
  a__law_all_signs := f24
  d__law_all_signs := PySem.W.fnOf "_law_all_signs" "_law_all_signs" (defArgs s__law_all_signs) (defBody s__law_all_signs) (defScope s__law_all_signs) .none kV24 dc24 pm24 an24 cd24 ct24
  F__law_all_signs := fun_mk (st := s__law_all_signs) l24 c24 k24
  B__law_all_signs := (fun_mk (st := s__law_all_signs) l24 c24 k24).binds (ps := ["letters"]) fun _ _ _ _ _ _ us hl => match us, hl with | [_], _ => rfl
  m__law_all_signs := PySem.W.mg_of X G a24
  a__law_orders := f25
  d__law_orders := PySem.W.fnOf "_law_orders" "_law_orders" (defArgs s__law_orders) (defBody s__law_orders) (defScope s__law_orders) .none kV25 dc25 pm25 an25 cd25 ct25
  F__law_orders := fun_mk (st := s__law_orders) l25 c25 k25
  B__law_orders := (fun_mk (st := s__law_orders) l25 c25 k25).binds (ps := ["letters"]) fun _ _ _ _ _ _ us hl => match us, hl with | [_], _ => rfl
  m__law_orders := PySem.W.mg_of X G a25
  a__law_sides := f26
  d__law_sides := PySem.W.fnOf "_law_sides" "_law_sides" (defArgs s__law_sides) (defBody s__law_sides) (defScope s__law_sides) .none kV26 dc26 pm26 an26 cd26 ct26
  F__law_sides := fun_mk (st := s__law_sides) l26 c26 k26
  B__law_sides := (fun_mk (st := s__law_sides) l26 c26 k26).binds (ps := ["letters", "sides", "need"]) fun _ _ _ _ _ _ us hl => match us, hl with | [_, _, _], _ => rfl
  m__law_sides := PySem.W.mg_of X G a26
  a__law_chosen := f27
  d__law_chosen := PySem.W.fnOf "_law_chosen" "_law_chosen" (defArgs s__law_chosen) (defBody s__law_chosen) (defScope s__law_chosen) .none kV27 dc27 pm27 an27 cd27 ct27
  F__law_chosen := fun_mk (st := s__law_chosen) l27 c27 k27
  B__law_chosen := (fun_mk (st := s__law_chosen) l27 c27 k27).binds (ps := ["letters", "sides", "order", "tables"]) fun _ _ _ _ _ _ us hl => match us, hl with | [_, _, _, _], _ => rfl
  m__law_chosen := PySem.W.mg_of X G a27
  a__law_blocks := f28
  d__law_blocks := PySem.W.fnOf "_law_blocks" "_law_blocks" (defArgs s__law_blocks) (defBody s__law_blocks) (defScope s__law_blocks) .none kV28 dc28 pm28 an28 cd28 ct28
  F__law_blocks := fun_mk (st := s__law_blocks) l28 c28 k28
  B__law_blocks := (fun_mk (st := s__law_blocks) l28 c28 k28).binds (ps := ["turns"]) fun _ _ _ _ _ _ us hl => match us, hl with | [_], _ => rfl
  m__law_blocks := PySem.W.mg_of X G a28
  a_law := f29
  d_law := PySem.W.fnOf "law" "law" (defArgs s_law) (defBody s_law) (defScope s_law) .none kV29 dc29 pm29 an29 cd29 ct29
  F_law := fun_mk (st := s_law) l29 c29 k29
  B_law := (fun_mk (st := s_law) l29 c29 k29).binds (ps := ["script"]) fun _ _ _ _ _ _ us hl => match us, hl with | [_], _ => rfl
  m_law := PySem.W.mg_of X G a29
  v_SIDES := .ref t_SIDES_1
  u_SIDES := .ref t_SIDES_1
  m_SIDES := PySem.W.mg_of X G n_SIDES
  r_SIDES := rfl
  f_SIDES := (.tup (xs := [.str "all", .str "some"]) (.inr ⟨_, _, _, l_SIDES_1, rfl, rfl, by show 2 ≤ sizeLine; decide, (.cons ⟨_, rfl⟩ (.cons ⟨_, rfl⟩ .nil))⟩) (.cons (.str _) (.cons (.str _) .nil)) (by show 2 ≤ sizeLine; decide))
  z_all := PySem.W.mg_none_of X G z_all
  z_any := PySem.W.mg_none_of X G z_any
  z_bool := PySem.W.mg_none_of X G z_bool
  z_dict := PySem.W.mg_none_of X G z_dict
  z_int := PySem.W.mg_none_of X G z_int
  z_isinstance := PySem.W.mg_none_of X G z_isinstance
  z_len := PySem.W.mg_none_of X G z_len
  z_list := PySem.W.mg_none_of X G z_list
  z_max := PySem.W.mg_none_of X G z_max
  z_min := PySem.W.mg_none_of X G z_min
  z_range := PySem.W.mg_none_of X G z_range
  z_repr := PySem.W.mg_none_of X G z_repr
  z_sorted := PySem.W.mg_none_of X G z_sorted
  z_str := PySem.W.mg_none_of X G z_str
  z_tuple := PySem.W.mg_none_of X G z_tuple
set_option maxHeartbeats 0 in
theorem all_mk {l : PySem.W.OpenLaw} {w : World} {K : PySem.W.Frag} {h : Heap} {mg : Str → Option Value} {fa : Addr} (X : K.In h) (G : h.Ns mainGlobals mg) (hfa : mg "law" = some (.ref fa))
    {oc1 kV1 dc1 pm1 cd1 ct1 : Value} {od1 an1 : Option Addr} {sl1 : Array (Option Value)} {f1 : Addr} {oc2 kV2 dc2 pm2 cd2 ct2 : Value} {od2 an2 : Option Addr} {sl2 : Array (Option Value)} {f2 : Addr} {oc3 kV3 dc3 pm3 cd3 ct3 : Value} {od3 an3 : Option Addr} {sl3 : Array (Option Value)} {f3 : Addr} {oc4 kV4 dc4 pm4 cd4 ct4 : Value} {od4 an4 : Option Addr} {sl4 : Array (Option Value)} {f4 : Addr} {oc5 kV5 dc5 pm5 cd5 ct5 : Value} {od5 an5 : Option Addr} {sl5 : Array (Option Value)} {f5 : Addr} {oc6 kV6 dc6 pm6 cd6 ct6 : Value} {od6 an6 : Option Addr} {sl6 : Array (Option Value)} {f6 : Addr} {oc7 kV7 dc7 pm7 cd7 ct7 : Value} {od7 an7 : Option Addr} {sl7 : Array (Option Value)} {f7 : Addr} {oc8 kV8 dc8 pm8 cd8 ct8 : Value} {od8 an8 : Option Addr} {sl8 : Array (Option Value)} {f8 : Addr} {oc9 kV9 dc9 pm9 cd9 ct9 : Value} {od9 an9 : Option Addr} {sl9 : Array (Option Value)} {f9 : Addr} {oc10 kV10 dc10 pm10 cd10 ct10 : Value} {od10 an10 : Option Addr} {sl10 : Array (Option Value)} {f10 : Addr} {oc11 kV11 dc11 pm11 cd11 ct11 : Value} {od11 an11 : Option Addr} {sl11 : Array (Option Value)} {f11 : Addr} {oc12 kV12 dc12 pm12 cd12 ct12 : Value} {od12 an12 : Option Addr} {sl12 : Array (Option Value)} {f12 : Addr} {oc13 kV13 dc13 pm13 cd13 ct13 : Value} {od13 an13 : Option Addr} {sl13 : Array (Option Value)} {f13 : Addr} {oc14 kV14 dc14 pm14 cd14 ct14 : Value} {od14 an14 : Option Addr} {sl14 : Array (Option Value)} {f14 : Addr} {oc15 kV15 dc15 pm15 cd15 ct15 : Value} {od15 an15 : Option Addr} {sl15 : Array (Option Value)} {f15 : Addr} {oc16 kV16 dc16 pm16 cd16 ct16 : Value} {od16 an16 : Option Addr} {sl16 : Array (Option Value)} {f16 : Addr} {oc17 kV17 dc17 pm17 cd17 ct17 : Value} {od17 an17 : Option Addr} {sl17 : Array (Option Value)} {f17 : Addr} {oc18 kV18 dc18 pm18 cd18 ct18 : Value} {od18 an18 : Option Addr} {sl18 : Array (Option Value)} {f18 : Addr} {oc19 kV19 dc19 pm19 cd19 ct19 : Value} {od19 an19 : Option Addr} {sl19 : Array (Option Value)} {f19 : Addr} {oc20 kV20 dc20 pm20 cd20 ct20 : Value} {od20 an20 : Option Addr} {sl20 : Array (Option Value)} {f20 : Addr} {oc21 kV21 dc21 pm21 cd21 ct21 : Value} {od21 an21 : Option Addr} {sl21 : Array (Option Value)} {f21 : Addr} {oc22 kV22 dc22 pm22 cd22 ct22 : Value} {od22 an22 : Option Addr} {sl22 : Array (Option Value)} {f22 : Addr} {oc23 kV23 dc23 pm23 cd23 ct23 : Value} {od23 an23 : Option Addr} {sl23 : Array (Option Value)} {f23 : Addr} {oc24 kV24 dc24 pm24 cd24 ct24 : Value} {od24 an24 : Option Addr} {sl24 : Array (Option Value)} {f24 : Addr} {oc25 kV25 dc25 pm25 cd25 ct25 : Value} {od25 an25 : Option Addr} {sl25 : Array (Option Value)} {f25 : Addr} {oc26 kV26 dc26 pm26 cd26 ct26 : Value} {od26 an26 : Option Addr} {sl26 : Array (Option Value)} {f26 : Addr} {oc27 kV27 dc27 pm27 cd27 ct27 : Value} {od27 an27 : Option Addr} {sl27 : Array (Option Value)} {f27 : Addr} {oc28 kV28 dc28 pm28 cd28 ct28 : Value} {od28 an28 : Option Addr} {sl28 : Array (Option Value)} {f28 : Addr} {oc29 kV29 dc29 pm29 cd29 ct29 : Value} {od29 an29 : Option Addr} {sl29 : Array (Option Value)} {f29 : Addr} {tk1 : Tok} {tk2 : Tok} {t_SIDES_1 n_SIDES_1 : Nat} {o_SIDES_1 : Option Addr} {s_SIDES_1 : Array (Option Value)}
    (a1 : PySem.W.nsIn K mainGlobals "lot" = some (some (.ref f1))) (l1 : K.lookup f1 = some ⟨oc1, od1, .func (PySem.W.fnOf "lot" "lot" (defArgs s_lot) (defBody s_lot) (defScope s_lot) .none kV1 dc1 pm1 an1 cd1 ct1), sl1⟩) (c1 : PySem.W.codeIn K cd1 "lot" = true) (k1 : PySem.W.keepIn K (.ref f1) = true)
    (a2 : PySem.W.nsIn K mainGlobals "worth" = some (some (.ref f2))) (l2 : K.lookup f2 = some ⟨oc2, od2, .func (PySem.W.fnOf "worth" "worth" (defArgs s_worth) (defBody s_worth) (defScope s_worth) .none kV2 dc2 pm2 an2 cd2 ct2), sl2⟩) (c2 : PySem.W.codeIn K cd2 "worth" = true) (k2 : PySem.W.keepIn K (.ref f2) = true)
    (a3 : PySem.W.nsIn K mainGlobals "with_sign" = some (some (.ref f3))) (l3 : K.lookup f3 = some ⟨oc3, od3, .func (PySem.W.fnOf "with_sign" "with_sign" (defArgs s_with_sign) (defBody s_with_sign) (defScope s_with_sign) .none kV3 dc3 pm3 an3 cd3 ct3), sl3⟩) (c3 : PySem.W.codeIn K cd3 "with_sign" = true) (k3 : PySem.W.keepIn K (.ref f3) = true)
    (a4 : PySem.W.nsIn K mainGlobals "ahead_of" = some (some (.ref f4))) (l4 : K.lookup f4 = some ⟨oc4, od4, .func (PySem.W.fnOf "ahead_of" "ahead_of" (defArgs s_ahead_of) (defBody s_ahead_of) (defScope s_ahead_of) .none kV4 dc4 pm4 an4 cd4 ct4), sl4⟩) (c4 : PySem.W.codeIn K cd4 "ahead_of" = true) (k4 : PySem.W.keepIn K (.ref f4) = true)
    (a5 : PySem.W.nsIn K mainGlobals "plain_game" = some (some (.ref f5))) (l5 : K.lookup f5 = some ⟨oc5, od5, .func (PySem.W.fnOf "plain_game" "plain_game" (defArgs s_plain_game) (defBody s_plain_game) (defScope s_plain_game) .none kV5 dc5 pm5 an5 cd5 ct5), sl5⟩) (c5 : PySem.W.codeIn K cd5 "plain_game" = true) (k5 : PySem.W.keepIn K (.ref f5) = true)
    (a6 : PySem.W.nsIn K mainGlobals "blocks" = some (some (.ref f6))) (l6 : K.lookup f6 = some ⟨oc6, od6, .func (PySem.W.fnOf "blocks" "blocks" (defArgs s_blocks) (defBody s_blocks) (defScope s_blocks) .none kV6 dc6 pm6 an6 cd6 ct6), sl6⟩) (c6 : PySem.W.codeIn K cd6 "blocks" = true) (k6 : PySem.W.keepIn K (.ref f6) = true)
    (a7 : PySem.W.nsIn K mainGlobals "closed" = some (some (.ref f7))) (l7 : K.lookup f7 = some ⟨oc7, od7, .func (PySem.W.fnOf "closed" "closed" (defArgs s_closed) (defBody s_closed) (defScope s_closed) .none kV7 dc7 pm7 an7 cd7 ct7), sl7⟩) (c7 : PySem.W.codeIn K cd7 "closed" = true) (k7 : PySem.W.keepIn K (.ref f7) = true)
    (a8 : PySem.W.nsIn K mainGlobals "winner" = some (some (.ref f8))) (l8 : K.lookup f8 = some ⟨oc8, od8, .func (PySem.W.fnOf "winner" "winner" (defArgs s_winner) (defBody s_winner) (defScope s_winner) .none kV8 dc8 pm8 an8 cd8 ct8), sl8⟩) (c8 : PySem.W.codeIn K cd8 "winner" = true) (k8 : PySem.W.keepIn K (.ref f8) = true)
    (a9 : PySem.W.nsIn K mainGlobals "swapped" = some (some (.ref f9))) (l9 : K.lookup f9 = some ⟨oc9, od9, .func (PySem.W.fnOf "swapped" "swapped" (defArgs s_swapped) (defBody s_swapped) (defScope s_swapped) .none kV9 dc9 pm9 an9 cd9 ct9), sl9⟩) (c9 : PySem.W.codeIn K cd9 "swapped" = true) (k9 : PySem.W.keepIn K (.ref f9) = true)
    (a10 : PySem.W.nsIn K mainGlobals "in_letter_order" = some (some (.ref f10))) (l10 : K.lookup f10 = some ⟨oc10, od10, .func (PySem.W.fnOf "in_letter_order" "in_letter_order" (defArgs s_in_letter_order) (defBody s_in_letter_order) (defScope s_in_letter_order) .none kV10 dc10 pm10 an10 cd10 ct10), sl10⟩) (c10 : PySem.W.codeIn K cd10 "in_letter_order" = true) (k10 : PySem.W.keepIn K (.ref f10) = true)
    (a11 : PySem.W.nsIn K mainGlobals "all_orders" = some (some (.ref f11))) (l11 : K.lookup f11 = some ⟨oc11, od11, .func (PySem.W.fnOf "all_orders" "all_orders" (defArgs s_all_orders) (defBody s_all_orders) (defScope s_all_orders) .none kV11 dc11 pm11 an11 cd11 ct11), sl11⟩) (c11 : PySem.W.codeIn K cd11 "all_orders" = true) (k11 : PySem.W.keepIn K (.ref f11) = true)
    (a12 : PySem.W.nsIn K mainGlobals "best_for" = some (some (.ref f12))) (l12 : K.lookup f12 = some ⟨oc12, od12, .func (PySem.W.fnOf "best_for" "best_for" (defArgs s_best_for) (defBody s_best_for) (defScope s_best_for) .none kV12 dc12 pm12 an12 cd12 ct12), sl12⟩) (c12 : PySem.W.codeIn K cd12 "best_for" = true) (k12 : PySem.W.keepIn K (.ref f12) = true)
    (a13 : PySem.W.nsIn K mainGlobals "fewest_changes" = some (some (.ref f13))) (l13 : K.lookup f13 = some ⟨oc13, od13, .func (PySem.W.fnOf "fewest_changes" "fewest_changes" (defArgs s_fewest_changes) (defBody s_fewest_changes) (defScope s_fewest_changes) .none kV13 dc13 pm13 an13 cd13 ct13), sl13⟩) (c13 : PySem.W.codeIn K cd13 "fewest_changes" = true) (k13 : PySem.W.keepIn K (.ref f13) = true)
    (a14 : PySem.W.nsIn K mainGlobals "_law_cell" = some (some (.ref f14))) (l14 : K.lookup f14 = some ⟨oc14, od14, .func (PySem.W.fnOf "_law_cell" "_law_cell" (defArgs s__law_cell) (defBody s__law_cell) (defScope s__law_cell) .none kV14 dc14 pm14 an14 cd14 ct14), sl14⟩) (c14 : PySem.W.codeIn K cd14 "_law_cell" = true) (k14 : PySem.W.keepIn K (.ref f14) = true)
    (a15 : PySem.W.nsIn K mainGlobals "_law_digits" = some (some (.ref f15))) (l15 : K.lookup f15 = some ⟨oc15, od15, .func (PySem.W.fnOf "_law_digits" "_law_digits" (defArgs s__law_digits) (defBody s__law_digits) (defScope s__law_digits) .none kV15 dc15 pm15 an15 cd15 ct15), sl15⟩) (c15 : PySem.W.codeIn K cd15 "_law_digits" = true) (k15 : PySem.W.keepIn K (.ref f15) = true)
    (a16 : PySem.W.nsIn K mainGlobals "_law_draw" = some (some (.ref f16))) (l16 : K.lookup f16 = some ⟨oc16, od16, .func (PySem.W.fnOf "_law_draw" "_law_draw" (defArgs s__law_draw) (defBody s__law_draw) (defScope s__law_draw) .none kV16 dc16 pm16 an16 cd16 ct16), sl16⟩) (c16 : PySem.W.codeIn K cd16 "_law_draw" = true) (k16 : PySem.W.keepIn K (.ref f16) = true)
    (a17 : PySem.W.nsIn K mainGlobals "_law_pick" = some (some (.ref f17))) (l17 : K.lookup f17 = some ⟨oc17, od17, .func (PySem.W.fnOf "_law_pick" "_law_pick" (defArgs s__law_pick) (defBody s__law_pick) (defScope s__law_pick) .none kV17 dc17 pm17 an17 cd17 ct17), sl17⟩) (c17 : PySem.W.codeIn K cd17 "_law_pick" = true) (k17 : PySem.W.keepIn K (.ref f17) = true)
    (a18 : PySem.W.nsIn K mainGlobals "_law_mixed" = some (some (.ref f18))) (l18 : K.lookup f18 = some ⟨oc18, od18, .func (PySem.W.fnOf "_law_mixed" "_law_mixed" (defArgs s__law_mixed) (defBody s__law_mixed) (defScope s__law_mixed) .none kV18 dc18 pm18 an18 cd18 ct18), sl18⟩) (c18 : PySem.W.codeIn K cd18 "_law_mixed" = true) (k18 : PySem.W.keepIn K (.ref f18) = true)
    (a19 : PySem.W.nsIn K mainGlobals "_law_same" = some (some (.ref f19))) (l19 : K.lookup f19 = some ⟨oc19, od19, .func (PySem.W.fnOf "_law_same" "_law_same" (defArgs s__law_same) (defBody s__law_same) (defScope s__law_same) .none kV19 dc19 pm19 an19 cd19 ct19), sl19⟩) (c19 : PySem.W.codeIn K cd19 "_law_same" = true) (k19 : PySem.W.keepIn K (.ref f19) = true)
    (a20 : PySem.W.nsIn K mainGlobals "_law_turns" = some (some (.ref f20))) (l20 : K.lookup f20 = some ⟨oc20, od20, .func (PySem.W.fnOf "_law_turns" "_law_turns" (defArgs s__law_turns) (defBody s__law_turns) (defScope s__law_turns) .none kV20 dc20 pm20 an20 cd20 ct20), sl20⟩) (c20 : PySem.W.codeIn K cd20 "_law_turns" = true) (k20 : PySem.W.keepIn K (.ref f20) = true)
    (a21 : PySem.W.nsIn K mainGlobals "_law_plain" = some (some (.ref f21))) (l21 : K.lookup f21 = some ⟨oc21, od21, .func (PySem.W.fnOf "_law_plain" "_law_plain" (defArgs s__law_plain) (defBody s__law_plain) (defScope s__law_plain) .none kV21 dc21 pm21 an21 cd21 ct21), sl21⟩) (c21 : PySem.W.codeIn K cd21 "_law_plain" = true) (k21 : PySem.W.keepIn K (.ref f21) = true)
    (a22 : PySem.W.nsIn K mainGlobals "_law_formula" = some (some (.ref f22))) (l22 : K.lookup f22 = some ⟨oc22, od22, .func (PySem.W.fnOf "_law_formula" "_law_formula" (defArgs s__law_formula) (defBody s__law_formula) (defScope s__law_formula) .none kV22 dc22 pm22 an22 cd22 ct22), sl22⟩) (c22 : PySem.W.codeIn K cd22 "_law_formula" = true) (k22 : PySem.W.keepIn K (.ref f22) = true)
    (a23 : PySem.W.nsIn K mainGlobals "_law_worth" = some (some (.ref f23))) (l23 : K.lookup f23 = some ⟨oc23, od23, .func (PySem.W.fnOf "_law_worth" "_law_worth" (defArgs s__law_worth) (defBody s__law_worth) (defScope s__law_worth) .none kV23 dc23 pm23 an23 cd23 ct23), sl23⟩) (c23 : PySem.W.codeIn K cd23 "_law_worth" = true) (k23 : PySem.W.keepIn K (.ref f23) = true)
    (a24 : PySem.W.nsIn K mainGlobals "_law_all_signs" = some (some (.ref f24))) (l24 : K.lookup f24 = some ⟨oc24, od24, .func (PySem.W.fnOf "_law_all_signs" "_law_all_signs" (defArgs s__law_all_signs) (defBody s__law_all_signs) (defScope s__law_all_signs) .none kV24 dc24 pm24 an24 cd24 ct24), sl24⟩) (c24 : PySem.W.codeIn K cd24 "_law_all_signs" = true) (k24 : PySem.W.keepIn K (.ref f24) = true)
    (a25 : PySem.W.nsIn K mainGlobals "_law_orders" = some (some (.ref f25))) (l25 : K.lookup f25 = some ⟨oc25, od25, .func (PySem.W.fnOf "_law_orders" "_law_orders" (defArgs s__law_orders) (defBody s__law_orders) (defScope s__law_orders) .none kV25 dc25 pm25 an25 cd25 ct25), sl25⟩) (c25 : PySem.W.codeIn K cd25 "_law_orders" = true) (k25 : PySem.W.keepIn K (.ref f25) = true)
    (a26 : PySem.W.nsIn K mainGlobals "_law_sides" = some (some (.ref f26))) (l26 : K.lookup f26 = some ⟨oc26, od26, .func (PySem.W.fnOf "_law_sides" "_law_sides" (defArgs s__law_sides) (defBody s__law_sides) (defScope s__law_sides) .none kV26 dc26 pm26 an26 cd26 ct26), sl26⟩) (c26 : PySem.W.codeIn K cd26 "_law_sides" = true) (k26 : PySem.W.keepIn K (.ref f26) = true)
    (a27 : PySem.W.nsIn K mainGlobals "_law_chosen" = some (some (.ref f27))) (l27 : K.lookup f27 = some ⟨oc27, od27, .func (PySem.W.fnOf "_law_chosen" "_law_chosen" (defArgs s__law_chosen) (defBody s__law_chosen) (defScope s__law_chosen) .none kV27 dc27 pm27 an27 cd27 ct27), sl27⟩) (c27 : PySem.W.codeIn K cd27 "_law_chosen" = true) (k27 : PySem.W.keepIn K (.ref f27) = true)
    (a28 : PySem.W.nsIn K mainGlobals "_law_blocks" = some (some (.ref f28))) (l28 : K.lookup f28 = some ⟨oc28, od28, .func (PySem.W.fnOf "_law_blocks" "_law_blocks" (defArgs s__law_blocks) (defBody s__law_blocks) (defScope s__law_blocks) .none kV28 dc28 pm28 an28 cd28 ct28), sl28⟩) (c28 : PySem.W.codeIn K cd28 "_law_blocks" = true) (k28 : PySem.W.keepIn K (.ref f28) = true)
    (a29 : PySem.W.nsIn K mainGlobals "law" = some (some (.ref f29))) (l29 : K.lookup f29 = some ⟨oc29, od29, .func (PySem.W.fnOf "law" "law" (defArgs s_law) (defBody s_law) (defScope s_law) .none kV29 dc29 pm29 an29 cd29 ct29), sl29⟩) (c29 : PySem.W.codeIn K cd29 "law" = true) (k29 : PySem.W.keepIn K (.ref f29) = true)
    (n_SIDES : PySem.W.nsIn K mainGlobals "SIDES" = some (some (.ref t_SIDES_1)))
    (l_SIDES_1 : K.lookup t_SIDES_1 = some ⟨.type "tuple", o_SIDES_1, .seq ([.str "all" tk1, .str "some" tk2] : List Value).toArray n_SIDES_1, s_SIDES_1⟩)
    (z_all : PySem.W.nsIn K mainGlobals "all" = some none)
    (z_any : PySem.W.nsIn K mainGlobals "any" = some none)
    (z_bool : PySem.W.nsIn K mainGlobals "bool" = some none)
    (z_dict : PySem.W.nsIn K mainGlobals "dict" = some none)
    (z_int : PySem.W.nsIn K mainGlobals "int" = some none)
    (z_isinstance : PySem.W.nsIn K mainGlobals "isinstance" = some none)
    (z_len : PySem.W.nsIn K mainGlobals "len" = some none)
    (z_list : PySem.W.nsIn K mainGlobals "list" = some none)
    (z_max : PySem.W.nsIn K mainGlobals "max" = some none)
    (z_min : PySem.W.nsIn K mainGlobals "min" = some none)
    (z_range : PySem.W.nsIn K mainGlobals "range" = some none)
    (z_repr : PySem.W.nsIn K mainGlobals "repr" = some none)
    (z_sorted : PySem.W.nsIn K mainGlobals "sorted" = some none)
    (z_str : PySem.W.nsIn K mainGlobals "str" = some none)
    (z_tuple : PySem.W.nsIn K mainGlobals "tuple" = some none) :
    ∃ fd : FuncData, (∀ (s : Shared) (v : Value), BindsTo s fd ⟨[v], []⟩ [("script", v)]) ∧ ∀ base : Heap, K.In base → base.Ns mainGlobals mg → FnOk l.prog w K mg base CX0 201 fa fd ["script"] (spLaw K) := by
  have e := hfa.symm.trans (PySem.W.mg_of X G a29)
  cases e
  refine ⟨PySem.W.fnOf "law" "law" (defArgs s_law) (defBody s_law) (defScope s_law) .none kV29 dc29 pm29 an29 cd29 ct29, fun s v => .of_eq rfl, fun base _ _ => ?_⟩
  have O := (ok_all (P := l.prog) (w := w) (base := base) (glob_mk X G a1 l1 c1 k1 a2 l2 c2 k2 a3 l3 c3 k3 a4 l4 c4 k4 a5 l5 c5 k5 a6 l6 c6 k6 a7 l7 c7 k7 a8 l8 c8 k8 a9 l9 c9 k9 a10 l10 c10 k10 a11 l11 c11 k11 a12 l12 c12 k12 a13 l13 c13 k13 a14 l14 c14 k14 a15 l15 c15 k15 a16 l16 c16 k16 a17 l17 c17 k17 a18 l18 c18 k18 a19 l19 c19 k19 a20 l20 c20 k20 a21 l21 c21 k21 a22 l22 c22 k22 a23 l23 c23 k23 a24 l24 c24 k24 a25 l25 c25 k25 a26 l26 c26 k26 a27 l27 c27 k27 a28 l28 c28 k28 a29 l29 c29 k29 n_SIDES l_SIDES_1 z_all z_any z_bool z_dict z_int z_isinstance z_len z_list z_max z_min z_range z_repr z_sorted z_str z_tuple) 201).f_law
  exact O.imp fun vs H Q E ⟨a, ns, e1, e2, e3, e4⟩ => by
    subst e1
    have big : (1000 : Nat) ≤ sizeLine := by decide
    exact ⟨rfl, H, [.list (ns.map PyData.int)], .bool true, fun _ _ z => z, .cons (.lst e2 (frs_ints ns) (by rw [List.length_map]; omega)) .nil, law_true ns, fun v H' F' _ hv => by
      cases hv
      exact e4 H'⟩
theorem walk {l : PySem.W.OpenLaw} {q : Program} {loose : List Str} {XP : (Str → Option Value) → Heap → Prop} {YP : World → Heap → Prop} {d : DefRec} {K : Params → PySem.W.Frag} (hn : l.most = some 63) (hdf : d.params.defaults = [])
    (hY : ∀ (w : World) (h : Heap), YP w h → (K w.params).In h)
    (F : ∀ (w : World) (mg : Str → Option Value) (fa : Addr) (h : Heap), (K w.params).In h → h.Ns mainGlobals mg → mg d.name = some (.ref fa) →
      ∃ fd : FuncData, (∀ (s : Shared) (u : Value), BindsTo s fd ⟨[u], []⟩ [("script", u)]) ∧ ∀ base : Heap, (K w.params).In base → base.Ns mainGlobals mg → FnOk l.prog w (K w.params) mg base CX0 201 fa fd ["script"] (spLaw (K w.params))) :
    PySem.W.WalkO q loose XP YP l.row.toRowW d [] (fun f vs => PySem.call f vs) :=
  L2.walk_of (n := 63) (k := 201) (x := "script") (CX := fun _ => CX0) (sp := fun w => spLaw (K w.params)) hn (by decide) hdf ⟨rfl, by decide, by decide⟩ hY F (fun _ _ a ns hl _ hS => ⟨a, ns, rfl, hS, hl, fun _ => rfl⟩) fun _ _ _ _ _ z => z
end K11
open PySem PySem.W PyProof.Rows
set_option maxRecDepth 100000 in
set_option maxHeartbeats 0 in
theorem PySem.Challenge.cw_turnwise_k11_whole_five_letters_in_all_o_holds : PySem.Challenge.rw_turnwise_k11_whole_five_letters_in_all_o.Holds := by
  w_on; o_law; k_head; (case hw => w_witness2)
  k_fill
  refine K11.walk (l := PySem.Challenge.rw_turnwise_k11_whole_five_letters_in_all_o) rfl rfl (fun w h Y => PySem.W.kIn_of Y) ?F
  case F =>
    intro w mg fa h KX G hmg
    refine' K11.all_mk KX G hmg ?a1 ?l1 ?c1 ?k1 ?a2 ?l2 ?c2 ?k2 ?a3 ?l3 ?c3 ?k3 ?a4 ?l4 ?c4 ?k4 ?a5 ?l5 ?c5 ?k5 ?a6 ?l6 ?c6 ?k6 ?a7 ?l7 ?c7 ?k7 ?a8 ?l8 ?c8 ?k8 ?a9 ?l9 ?c9 ?k9 ?a10 ?l10 ?c10 ?k10 ?a11 ?l11 ?c11 ?k11 ?a12 ?l12 ?c12 ?k12 ?a13 ?l13 ?c13 ?k13 ?a14 ?l14 ?c14 ?k14 ?a15 ?l15 ?c15 ?k15 ?a16 ?l16 ?c16 ?k16 ?a17 ?l17 ?c17 ?k17 ?a18 ?l18 ?c18 ?k18 ?a19 ?l19 ?c19 ?k19 ?a20 ?l20 ?c20 ?k20 ?a21 ?l21 ?c21 ?k21 ?a22 ?l22 ?c22 ?k22 ?a23 ?l23 ?c23 ?k23 ?a24 ?l24 ?c24 ?k24 ?a25 ?l25 ?c25 ?k25 ?a26 ?l26 ?c26 ?k26 ?a27 ?l27 ?c27 ?k27 ?a28 ?l28 ?c28 ?k28 ?a29 ?l29 ?c29 ?k29 ?n_SIDES ?l_SIDES_1 ?z_all ?z_any ?z_bool ?z_dict ?z_int ?z_isinstance ?z_len ?z_list ?z_max ?z_min ?z_range ?z_repr ?z_sorted ?z_str ?z_tuple
    (case a1 => k_is)
    (case l1 => k_is)
    (case c1 => k_is)
    (case k1 => k_is)
    (case a2 => k_is)
    (case l2 => k_is)
    (case c2 => k_is)
    (case k2 => k_is)
    (case a3 => k_is)
    (case l3 => k_is)
    (case c3 => k_is)
    (case k3 => k_is)
    (case a4 => k_is)
    (case l4 => k_is)
    (case c4 => k_is)
    (case k4 => k_is)
    (case a5 => k_is)
    (case l5 => k_is)
    (case c5 => k_is)
    (case k5 => k_is)
    (case a6 => k_is)
    (case l6 => k_is)
    (case c6 => k_is)
    (case k6 => k_is)
    (case a7 => k_is)
    (case l7 => k_is)
    (case c7 => k_is)
    (case k7 => k_is)
    (case a8 => k_is)
    (case l8 => k_is)
    (case c8 => k_is)
    (case k8 => k_is)
    (case a9 => k_is)
    (case l9 => k_is)
    (case c9 => k_is)
    (case k9 => k_is)
    (case a10 => k_is)
    (case l10 => k_is)
    (case c10 => k_is)
    (case k10 => k_is)
    (case a11 => k_is)
    (case l11 => k_is)
    (case c11 => k_is)
    (case k11 => k_is)
    (case a12 => k_is)
    (case l12 => k_is)
    (case c12 => k_is)
    (case k12 => k_is)
    (case a13 => k_is)
    (case l13 => k_is)
    (case c13 => k_is)
    (case k13 => k_is)
    (case a14 => k_is)
    (case l14 => k_is)
    (case c14 => k_is)
    (case k14 => k_is)
    (case a15 => k_is)
    (case l15 => k_is)
    (case c15 => k_is)
    (case k15 => k_is)
    (case a16 => k_is)
    (case l16 => k_is)
    (case c16 => k_is)
    (case k16 => k_is)
    (case a17 => k_is)
    (case l17 => k_is)
    (case c17 => k_is)
    (case k17 => k_is)
    (case a18 => k_is)
    (case l18 => k_is)
    (case c18 => k_is)
    (case k18 => k_is)
    (case a19 => k_is)
    (case l19 => k_is)
    (case c19 => k_is)
    (case k19 => k_is)
    (case a20 => k_is)
    (case l20 => k_is)
    (case c20 => k_is)
    (case k20 => k_is)
    (case a21 => k_is)
    (case l21 => k_is)
    (case c21 => k_is)
    (case k21 => k_is)
    (case a22 => k_is)
    (case l22 => k_is)
    (case c22 => k_is)
    (case k22 => k_is)
    (case a23 => k_is)
    (case l23 => k_is)
    (case c23 => k_is)
    (case k23 => k_is)
    (case a24 => k_is)
    (case l24 => k_is)
    (case c24 => k_is)
    (case k24 => k_is)
    (case a25 => k_is)
    (case l25 => k_is)
    (case c25 => k_is)
    (case k25 => k_is)
    (case a26 => k_is)
    (case l26 => k_is)
    (case c26 => k_is)
    (case k26 => k_is)
    (case a27 => k_is)
    (case l27 => k_is)
    (case c27 => k_is)
    (case k27 => k_is)
    (case a28 => k_is)
    (case l28 => k_is)
    (case c28 => k_is)
    (case k28 => k_is)
    (case a29 => k_is)
    (case l29 => k_is)
    (case c29 => k_is)
    (case k29 => k_is)
    (case n_SIDES => k_is)
    (case l_SIDES_1 => k_is)
    (case z_all => k_is)
    (case z_any => k_is)
    (case z_bool => k_is)
    (case z_dict => k_is)
    (case z_int => k_is)
    (case z_isinstance => k_is)
    (case z_len => k_is)
    (case z_list => k_is)
    (case z_max => k_is)
    (case z_min => k_is)
    (case z_range => k_is)
    (case z_repr => k_is)
    (case z_sorted => k_is)
    (case z_str => k_is)
    (case z_tuple => k_is)
#print axioms PySem.Challenge.cw_turnwise_k11_whole_five_letters_in_all_o_holds
