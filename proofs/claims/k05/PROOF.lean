import PyProof.Rows.All
import Wide.All
import OpenK.AllK
import Wide.FinOn
import PyProof.EqAt
import PyProof.EqKinds
import PyProof.TupleCall
import HandS.Base
import HandS.Call
import HandS.List
import HandS.TupAny
import HandS.ForMost
import HandS.ForExc
import HandS.Lambda
import HandS.Flow
import HandS.Wide
import HandS.Walk
import HandS.IsInst
import HandS.Style
import HandS.SortInts
import KE.GoesZip
import KE.GoesEnum
import KE.GoesMore
import HandS.Iter
import HandS.More
import HandS.Zip
import HandS.Set
import HandS.SetFor
import HandS.SetKeys
import HandS.TupSets
import HandS.SetBool
import HandS.Comp
import KE.KStateDown
import Lean
import HandS.Ends
import HandS.Words
import HandS.WordsExc
import HandS.Defaults
import HandS.Head0
import HandS.Head1
import HandS.Head2
import HandS.HeadEnd
import HandS.HeadHook1
import HandS.HeadHook2
import HandS.ExcIs
import KE.KDictList
import HandS.Conv
import HandS.Dict
import KE.SortData
import HandS.Deep
import HandS.Nested
import KE.SortKeyHeap
import KE.KDictPairs
import PyProof.DictUpdate
import PyProof.CollectIter
import PyProof.WalksMore
import PyProof.MaxThree
import HandS.HeadHook4
import HandS.HeadWalk
import PySem.Challenge.RW_yearshare_k05_whole_amounts_dealt
set_option Elab.async false
set_option linter.all false
set_option maxRecDepth 100000
set_option maxHeartbeats 4000000
/-! SxTup: tuples that are known to have no dict of their own (so that dict(t) can be read). -/
namespace L2
open PySem PySem.Spec PyProof.Rows HT
/-- a tuple without a dict stands at a -/
def TupAt (H : Hp) (a : Addr) (xs : List V) : Prop := ∃ o : Obj, H a = some (.frz o (.tup xs)) ∧ o.dict = none
/-- a new one -/
def NewT (H : Hp) (xs : List V) (Q : VK) : Prop := ∀ (p : Addr) (o : Obj), o.dict = none → H p = none → Q (.ref p) (upd H p (.frz o (.tup xs)))
section
variable {H : Hp} {a : Addr} {xs : List V}
theorem TupAt.rd (h : TupAt H a xs) : Rd H a (.tup xs) := let ⟨o, e, _⟩ := h; .inr ⟨o, e⟩
theorem TupAt.sq {K : PySem.W.Frag} (h : TupAt H a xs) : SqT K H a xs := .inl h.rd
theorem TupAt.upd {o : Obj} (h : o.dict = none) : TupAt (upd H a (.frz o (.tup xs))) a xs := ⟨o, upd_same, h⟩
end
section
variable {X : Cx} {pins : List (Addr × Obj)} {σ : St} {H : Hp} {s : Shared} {es : List Expr} {t : TA} {pos : Pos}
theorem laidTn {xs : List V} {its : List Value} {Q : VK} {k : Nat} {h' : Heap} (I : Inv X pins σ H s) (hk : ∀ b u, s.heap.get? b = some u → h'.get? b = some u) (hz : xs.length ≤ sizeLine) (r : Vals xs its)
    (e : h'.get? s.heap.objs.size = some { cls := .type "tuple", data := .seq its.toArray }) (q : NewT H xs Q) : EP X pins σ Q (.ref s.heap.objs.size) { s with heap := h', toks := k } := by
  have o : ObjOk X.prog X.w (upd H s.heap.objs.size (.frz { cls := .type "tuple", data := .seq its.toArray } (.tup xs))) h' s.heap.objs.size (.frz { cls := .type "tuple", data := .seq its.toArray } (.tup xs)) := ⟨e, hz, its, r, _, e, rfl, _, rfl⟩
  exact ⟨.ref s.heap.objs.size, _, I.laid (t' := k) hk (Nat.le_refl _) o, rfl, q _ _ rfl (I.hok.fresh (Nat.le_refl _))⟩
/-- (a, b, ..) -/
def tTupTn (t : TA) : TE := fun σ H Q => t σ H fun xs H1 => xs.length ≤ sizeLine ∧ NewT H1 xs Q
theorem pe_tupTn {x1} (h : PA X es t) : PE X (.Tuple es x1 pos) (tTupTn t) := by
  refine ⟨fun pins s σ H Q I hq => ?_⟩
  refine wpAny_Tuple_spliced (thn (h.run pos pins s σ H _ I hq) fun us s1 ⟨xs, H1, I1, r, z, q⟩ => ⟨by rw [← r.length]; exact z, ?_⟩)
  exact laidTn I1 (fun b u e => Heap.get?_push_of_some _ e) z r (Heap.get?_push_size _ rfl) q
/-- tuple(x) -/
theorem call_tupleTn : CallR X (.type "tuple") (fun xs H Q => ∃ p ys, xs = [.ref p] ∧ ((SqL X.K H p ys ∧ NewT H ys Q) ∨ (SqT X.K H p ys ∧ Q (.ref p) H))) := by
  intro pins s σ H xs us Q I r h
  obtain ⟨p, ys, rfl, h⟩ := h
  obtain ⟨u, rfl, rx⟩ := vals1 r
  cases rx
  rcases h with ⟨hq, q⟩ | ⟨hq, q⟩
  · obtain ⟨its, r', pl, hz⟩ := I.list hq
    refine call_tuple_list pl.isList (fun h' kp => ?_) (by have hlen := r'.length; simp only [List.size_toArray] <;> omega)
    have I1 : Inv X pins σ H { s with heap := h' } := I.kept (t' := s.toks) kp
    exact laidTn I1 (fun b o e => Heap.get?_push_of_some _ e) hz r' (Heap.get?_push_size _ rfl) q
  · obtain ⟨its, r', pl, hz⟩ := I.tuple hq
    exact call_tuple_same pl ⟨.ref p, H, I, rfl, q⟩
/-- t + u -/
def rCatTn (K : PySem.W.Frag) : R2 := fun x y H Q => ∃ a b xs ys, x = .ref a ∧ y = .ref b ∧ SqT K H a xs ∧ SqT K H b ys ∧ xs.length + ys.length ≤ sizeLine ∧
  (xs = [] → Q (.ref b) H) ∧ (xs ≠ [] → ys = [] → Q (.ref a) H) ∧ (xs ≠ [] → ys ≠ [] → NewT H (xs ++ ys) Q)
theorem op_catTn : OpR X (binaryOp .Add) (rCatTn X.K) := by
  intro pins s σ H x y v u Q I rx ry h
  obtain ⟨a, b, xs, ys, rfl, rfl, ha, hb, hz, q0, q1, q2⟩ := h
  cases rx
  cases ry
  obtain ⟨its, r1, p1, _⟩ := I.tuple ha
  obtain ⟨its2, r2, p2, _⟩ := I.tuple hb
  by_cases hx : xs = []
  · subst hx
    cases r1
    exact cat_tup0 p1 p2 ⟨.ref b, H, I, rfl, q0 rfl⟩
  · refine HT.cat_tup p1 p2 (fun z => hx (r1.nil_iff.mp z)) (fun z => ⟨.ref a, H, I, rfl, q1 hx (r2.nil_iff.mp z)⟩) (fun z => ?_) (by rw [← r1.length, ← r2.length]; exact hz)
    exact laidTn I (fun b ob q => Heap.get?_push_of_some _ q) (by rw [List.length_append]; exact hz) (r1.append r2) (Heap.get?_push_size _ rfl) (q2 hx fun w => z (r2.nil_iff.mpr w))
/-- t[lo:hi] -/
def rSlTn (K : PySem.W.Frag) : V → Option Int → Option Int → Hp → VK → Prop := fun x lo hi H Q => ∃ a xs, x = .ref a ∧ SqT K H a xs ∧
  (HT.sIx xs.length 0 lo = 0 ∧ HT.sIx xs.length xs.length hi = xs.length → Q (.ref a) H) ∧ (¬ (HT.sIx xs.length 0 lo = 0 ∧ HT.sIx xs.length xs.length hi = xs.length) → NewT H (cutV xs lo hi) Q)
theorem sl_tupTn : SlR X (rSlTn X.K) := by
  intro pins s σ H x v vl vu lo hi sl Q I rx hs pl pu h
  obtain ⟨a, xs, rfl, hx, q1, q2⟩ := h
  cases rx
  obtain ⟨its, r, ht, hz⟩ := I.tuple hx
  have hlen : its.toArray.size = xs.length := by rw [List.size_toArray]; exact r.length.symm
  refine ⟨"tuple", _, PyProof.Rows.slot_tuple_getitem.lookup, ht.typeIs, ?_⟩
  by_cases hw : HT.sIx xs.length 0 lo = 0 ∧ HT.sIx xs.length xs.length hi = xs.length
  · exact getItem_tuple_whole ht hs pl pu (by rw [hlen]; exact hw) ⟨.ref a, H, I, rfl, q1 hw⟩
  · refine HT.getItem_tuple_cut ht hs pl pu (by rw [hlen]; exact hw) ?_ (by rw [hlen]; exact hz)
    rw [hlen]
    exact laidTn I (fun b ob q => Heap.get?_push_of_some _ q) (Nat.le_trans (cutV_length xs lo hi) hz) ((r.drop (HT.sIx xs.length 0 lo)).take (HT.sIx xs.length xs.length hi - HT.sIx xs.length 0 lo)) (Heap.get?_push_size _ rfl) (q2 hw)
end
end L2

/-! Sx: a layer of plain data over the hand layer. What a def does is a plain function of data (no heap, no addresses); the rules tie it to the hand layer's readings. -/
namespace Sx
open PySem L2 LamX

/-! ### data -/
inductive D where
  | non | bl (b : Bool) | int (i : Int) | str (x : Str)
  | tup (ds : List D) | lst (ds : List D)
  | dic (kvs : List (Key × D)) | dct (kvs : List (List Key × D))
  /-- a list of ints that is read alone (the script) -/
  | scr (ns : List Int)

/-- what a cell (an object that may still change) holds -/
inductive Cell where
  | lst (ds : List D) | dic (kvs : List (Key × D)) | dct (kvs : List (List Key × D))
def Cell.frz : Cell → D
  | .lst ds => .lst ds
  | .dic k => .dic k
  | .dct k => .dct k
abbrev Sto := List Cell
/-- what a name holds: data, or the k-th cell -/
inductive Val where
  | dat (d : D) | loc (k : Nat)
abbrev Env := List (Option Val)
/-- what an expression gives: data, a cell, a new object -/
inductive Res where
  | dat (d : D) | loc (k : Nat) | new (c : Cell)
/-- an exception: its class by name, its field -/
structure Exn where
  cls : Str
  fld : Option D
inductive Out (τ : Type) where
  | ok (a : τ) (μ : Sto) | exc (x : Exn) (μ : Sto) | stuck
/-- behind a statement -/
inductive SOut where
  | next (ρ : Env) (μ : Sto) | ret (r : Res) (μ : Sto) | brk (ρ : Env) (μ : Sto) | cnt (ρ : Env) (μ : Sto) | exc (x : Exn) (ρ : Env) (μ : Sto) | stuck
abbrev SE := Env → Sto → Out Res
abbrev SB := Env → Sto → Out Bool
abbrev SL := Env → Sto → Out (List Val)
abbrev SS := Env → Sto → SOut

/-! ### how data lies in the abstract heap; F: the addresses that no data may lie at -/
mutual
inductive Rp (H : Hp) (F : Addr → Prop) : V → D → Prop
  | non : Rp H F .non .non
  | bl (b : Bool) : Rp H F (.bl b) (.bl b)
  | int (i : Int) : Rp H F (.int i) (.int i)
  | str (x : Str) : Rp H F (.str x) (.str x)
  | tup {a : Addr} {xs : List V} {ds : List D} : TupAt H a xs → ¬ F a → RpL H F xs ds → Rp H F (.ref a) (.tup ds)
  | lst {a : Addr} {xs : List V} {ds : List D} : H a = some (.lst xs) → ¬ F a → RpL H F xs ds → Rp H F (.ref a) (.lst ds)
  | scr {a : Addr} {ns : List Int} : Rd H a (.lst (ns.map V.int)) → ¬ F a → Rp H F (.ref a) (.scr ns)
  | dic {a : Addr} {kvs : List (Key × V)} {kds : List (Key × D)} : Rd H a (.dK kvs) → ¬ F a → RpK H F kvs kds → Rp H F (.ref a) (.dic kds)
  | dct {a : Addr} {kvs : List (List Key × V)} {kds : List (List Key × D)} : Rd H a (.dT kvs) → ¬ F a → RpT H F kvs kds → Rp H F (.ref a) (.dct kds)
inductive RpL (H : Hp) (F : Addr → Prop) : List V → List D → Prop
  | nil : RpL H F [] []
  | cons {v : V} {d : D} {vs : List V} {ds : List D} : Rp H F v d → RpL H F vs ds → RpL H F (v :: vs) (d :: ds)
inductive RpK (H : Hp) (F : Addr → Prop) : List (Key × V) → List (Key × D) → Prop
  | nil : RpK H F [] []
  | cons {k : Key} {v : V} {d : D} {vs : List (Key × V)} {ds : List (Key × D)} : Rp H F v d → RpK H F vs ds → RpK H F ((k, v) :: vs) ((k, d) :: ds)
inductive RpT (H : Hp) (F : Addr → Prop) : List (List Key × V) → List (List Key × D) → Prop
  | nil : RpT H F [] []
  | cons {k : List Key} {v : V} {d : D} {vs : List (List Key × V)} {ds : List (List Key × D)} : Rp H F v d → RpT H F vs ds → RpT H F ((k, v) :: vs) ((k, d) :: ds)
end

/-- kept, up to the lock of a dict that is walked -/
def IsDic : HO → Prop
  | .dK _ => True
  | .dT _ => True
  | _ => False
def Kp (o o' : HO) : Prop := o' = o ∨ (∃ ob u, IsDic u ∧ ((o = u ∧ o' = .frz ob u) ∨ (o = .frz ob u ∧ o' = u))) ∨ ∃ ps ps', o = .tbl ps ∧ o' = .tbl ps'
theorem Kp.rfl {o : HO} : Kp o o := .inl (Eq.refl _)
theorem Kp.lst {xs : List V} {o : HO} (h : Kp (.lst xs) o) : o = .lst xs := by
  rcases h with h | ⟨ob, u, d, ⟨h, _⟩ | ⟨h, _⟩⟩ | ⟨ps, ps', h, _⟩
  · exact h
  · subst h; exact d.elim
  · cases h
  · cases h
theorem Kp.frzT {ob : Obj} {xs : List V} {o : HO} (h : Kp (.frz ob (.tup xs)) o) : o = .frz ob (.tup xs) := by
  rcases h with h | ⟨ob, u, d, ⟨h, _⟩ | ⟨h, _⟩⟩ | ⟨ps, ps', h, _⟩
  · exact h
  · subst h; exact d.elim
  · cases h; exact d.elim
  · cases h
theorem tupAt_kp {H H' : Hp} {a : Addr} {xs : List V} (h : TupAt H a xs) (k : ∀ o, H a = some o → ∃ o', H' a = some o' ∧ Kp o o') : TupAt H' a xs := by
  obtain ⟨ob, e, d⟩ := h
  obtain ⟨o', e', q⟩ := k _ e
  exact ⟨ob, by rw [e', q.frzT], d⟩
theorem Kp.rd {H H' : Hp} {a : Addr} {u : HO} (r : Rd H a u) (k : ∀ o, H a = some o → ∃ o', H' a = some o' ∧ Kp o o') (hu : IsDic u ∨ ∃ xs, u = .lst xs) : Rd H' a u := by
  rcases r with r | ⟨ob, r⟩
  · obtain ⟨o', e, h | ⟨ob, w, d, ⟨h1, h2⟩ | ⟨h1, h2⟩⟩ | ⟨ps, ps', h1, _⟩⟩ := k _ r
    · exact .inl (by rw [e, h])
    · exact .inr ⟨ob, by rw [e, h2, h1]⟩
    · subst h1
      rcases hu with z | ⟨xs, z⟩
      · exact z.elim
      · cases z
    · subst h1
      rcases hu with z | ⟨xs, z⟩
      · exact z.elim
      · cases z
  · obtain ⟨o', e, h | ⟨ob', w, d, ⟨h1, h2⟩ | ⟨h1, h2⟩⟩ | ⟨ps, ps', h1, _⟩⟩ := k _ r
    · exact .inr ⟨ob, by rw [e, h]⟩
    · subst h1; exact d.elim
    · cases h1; exact .inl (by rw [e, h2])
    · cases h1

section
variable {H H' : Hp} {F F' : Addr → Prop}
mutual
theorem Rp.mono (h1 : ∀ a o, ¬ F a → H a = some o → (∃ o', H' a = some o' ∧ Kp o o') ∧ ¬ F' a) : ∀ {v : V} {d : D}, Rp H F v d → Rp H' F' v d
  | _, _, .non => .non
  | _, _, .bl b => .bl b
  | _, _, .int i => .int i
  | _, _, .str x => .str x
  | _, _, .tup r n l => .tup (tupAt_kp r fun o e => (h1 _ o n e).1) (let ⟨_, e, _⟩ := r; (h1 _ _ n e).2) (RpL.mono h1 l)
  | _, _, .lst r n l => let ⟨⟨_, e, k⟩, f⟩ := h1 _ _ n r; .lst (by rw [e, k.lst]) f (RpL.mono h1 l)
  | _, _, .scr r n => .scr (Kp.rd r (fun o e => (h1 _ o n e).1) (.inr ⟨_, rfl⟩)) (r.elim (fun r => (h1 _ _ n r).2) fun ⟨_, r⟩ => (h1 _ _ n r).2)
  | _, _, .dic r n l => .dic (Kp.rd r (fun o e => (h1 _ o n e).1) (.inl trivial)) (r.elim (fun r => (h1 _ _ n r).2) fun ⟨_, r⟩ => (h1 _ _ n r).2) (RpK.mono h1 l)
  | _, _, .dct r n l => .dct (Kp.rd r (fun o e => (h1 _ o n e).1) (.inl trivial)) (r.elim (fun r => (h1 _ _ n r).2) fun ⟨_, r⟩ => (h1 _ _ n r).2) (RpT.mono h1 l)
theorem RpL.mono (h1 : ∀ a o, ¬ F a → H a = some o → (∃ o', H' a = some o' ∧ Kp o o') ∧ ¬ F' a) : ∀ {v : List V} {d : List D}, RpL H F v d → RpL H' F' v d
  | _, _, .nil => .nil
  | _, _, .cons a b => .cons (Rp.mono h1 a) (RpL.mono h1 b)
theorem RpK.mono (h1 : ∀ a o, ¬ F a → H a = some o → (∃ o', H' a = some o' ∧ Kp o o') ∧ ¬ F' a) : ∀ {v : List (Key × V)} {d : List (Key × D)}, RpK H F v d → RpK H' F' v d
  | _, _, .nil => .nil
  | _, _, .cons a b => .cons (Rp.mono h1 a) (RpK.mono h1 b)
theorem RpT.mono (h1 : ∀ a o, ¬ F a → H a = some o → (∃ o', H' a = some o' ∧ Kp o o') ∧ ¬ F' a) : ∀ {v : List (List Key × V)} {d : List (List Key × D)}, RpT H F v d → RpT H' F' v d
  | _, _, .nil => .nil
  | _, _, .cons a b => .cons (Rp.mono h1 a) (RpT.mono h1 b)
end
theorem RpL.length : ∀ {v : List V} {d : List D}, RpL H F v d → v.length = d.length
  | _, _, .nil => rfl
  | _, _, .cons _ b => congrArg (· + 1) (RpL.length b)
theorem RpL.get : ∀ {v : List V} {d : List D} {i : Nat} {x : D}, RpL H F v d → d[i]? = some x → ∃ u, v[i]? = some u ∧ Rp H F u x
  | _, _, _, _, .nil, e => by simp at e
  | _, _, 0, _, .cons r _, e => by simp at e; subst e; exact ⟨_, rfl, r⟩
  | _, _, i + 1, x, .cons _ t, e => by
    obtain ⟨u, h1, h2⟩ := RpL.get (i := i) (x := x) t (by simpa using e)
    exact ⟨u, by simpa using h1, h2⟩
theorem RpL.getV : ∀ {v : List V} {d : List D} {i : Nat} {u : V}, RpL H F v d → v[i]? = some u → ∃ x, d[i]? = some x ∧ Rp H F u x
  | _, _, _, _, .nil, e => by simp at e
  | _, _, 0, _, .cons r _, e => by simp at e; subst e; exact ⟨_, rfl, r⟩
  | _, _, i + 1, x, .cons _ t, e => by
    obtain ⟨u, h1, h2⟩ := RpL.getV (i := i) (u := x) t (by simpa using e)
    exact ⟨u, by simpa using h1, h2⟩
theorem RpL.append : ∀ {v w : List V} {d e : List D}, RpL H F v d → RpL H F w e → RpL H F (v ++ w) (d ++ e)
  | _, _, _, _, .nil, s => s
  | _, _, _, _, .cons r t, s => .cons r (RpL.append t s)
theorem RpL.take : ∀ {v : List V} {d : List D} (n : Nat), RpL H F v d → RpL H F (v.take n) (d.take n)
  | _, _, 0, _ => .nil
  | _, _, _ + 1, .nil => .nil
  | _, _, n + 1, .cons r t => .cons r (RpL.take n t)
theorem RpL.drop : ∀ {v : List V} {d : List D} (n : Nat), RpL H F v d → RpL H F (v.drop n) (d.drop n)
  | _, _, 0, r => r
  | _, _, _ + 1, .nil => .nil
  | _, _, n + 1, .cons _ t => RpL.drop n t
theorem RpL.set {x : V} {u : D} (r : Rp H F x u) : ∀ {xs : List V} {us : List D} (i : Nat), RpL H F xs us → RpL H F (xs.set i x) (us.set i u)
  | _, _, _, .nil => .nil
  | _, _, 0, .cons _ t => .cons r t
  | _, _, i + 1, .cons q t => .cons q (RpL.set r i t)
theorem RpL.one {x : V} {u : D} (r : Rp H F x u) : RpL H F [x] [u] := .cons r .nil
end

/-! ### cells, the store -/
/-- off limits for data: what others guard, and the cells -/
def off (G : Addr → Prop) (α : List Addr) : Addr → Prop := fun a => G a ∨ a ∈ α
/-- what the layer has to know of the text: the written part, own classes by name -/
structure Wd where
  K : PySem.W.Frag
  cls : Str → Addr
  /-- tables of code objects: where, the name of what they hold -/
  tabs : List (Addr × Str)
/-- what tables are made of -/
def IsT (o : HO) : Prop := (∃ ps, o = .tbl ps) ∨ ∃ c q, o = CodeO c q
theorem nt_lst {xs : List V} : ¬ IsT (.lst xs) := by rintro (⟨ps, h⟩ | ⟨c, q, h⟩) <;> first | cases h | (unfold CodeO at h; cases h)
theorem nt_dK {xs : List (Key × V)} : ¬ IsT (.dK xs) := by rintro (⟨ps, h⟩ | ⟨c, q, h⟩) <;> first | cases h | (unfold CodeO at h; cases h)
theorem nt_dT {xs : List (List Key × V)} : ¬ IsT (.dT xs) := by rintro (⟨ps, h⟩ | ⟨c, q, h⟩) <;> first | cases h | (unfold CodeO at h; cases h)
theorem nt_tup {xs : List V} : ¬ IsT (.tup xs) := by rintro (⟨ps, h⟩ | ⟨c, q, h⟩) <;> first | cases h | (unfold CodeO at h; cases h)
theorem nt_frz {ob : Obj} {u : HO} : ¬ IsT (.frz ob u) := by rintro (⟨ps, h⟩ | ⟨c, q, h⟩) <;> first | cases h | (unfold CodeO at h; cases h)
theorem nt_dic {u : HO} (h : IsDic u) : ¬ IsT u := by
  cases u <;> first | exact h.elim | exact nt_dK | exact nt_dT
theorem tabs_keep {T : List (Addr × Str)} {H H1 : Hp} (t : Tabs T H) (k : ∀ b o, IsT o → H b = some o → H1 b = some o) : Tabs T H1 := fun p hp => by
  obtain ⟨ps, h1, h2, h3⟩ := t p hp
  refine ⟨ps, k _ _ (.inl ⟨_, rfl⟩) h1, h2, fun pos cv e => ?_⟩
  obtain ⟨c, e1, e2⟩ := h3 pos cv e
  exact ⟨c, e1, k _ _ (.inr ⟨_, _, rfl⟩) e2⟩
/-- an object that is no table is put, or a new one -/
theorem tabs_upd {T : List (Addr × Str)} {H : Hp} {p : Addr} {o : HO} (t : Tabs T H) (h : ∀ u, H p = some u → ¬ IsT u) : Tabs T (upd H p o) := tabs_keep t fun b u i e => by
  rw [upd_ne]
  · exact e
  · intro z; subst z; exact h u e i
theorem tabs_new {T : List (Addr × Str)} {H : Hp} {p : Addr} {o : HO} (t : Tabs T H) (h : H p = none) : Tabs T (upd H p o) := tabs_upd t fun u e => by rw [h] at e; cases e

def CellAt (H : Hp) (F : Addr → Prop) (a : Addr) : Cell → Prop
  | .lst ds => ∃ xs, H a = some (.lst xs) ∧ RpL H F xs ds
  | .dic ds => ∃ xs, H a = some (.dK xs) ∧ RpK H F xs ds
  | .dct ds => ∃ xs, H a = some (.dT xs) ∧ RpT H F xs ds
structure RepS (Z : Wd) (G : Addr → Prop) (α : List Addr) (H : Hp) (μ : Sto) : Prop where
  len : α.length = μ.length
  nd : α.Nodup
  gd : ∀ b, G b → b ∉ α ∧ ∃ o, H b = some o
  cell : ∀ (k : Nat) (a : Addr) (c : Cell), α[k]? = some a → μ[k]? = some c → CellAt H (off G α) a c
  tb : Tabs Z.tabs H
/-- how a name's value lies -/
def RpV (G : Addr → Prop) (α : List Addr) (H : Hp) (v : V) : Val → Prop
  | .dat d => Rp H (off G α) v d
  | .loc k => ∃ a, α[k]? = some a ∧ v = .ref a
structure RepE (G : Addr → Prop) (α : List Addr) (H : Hp) (σ : St) (ρ : Env) : Prop where
  len : σ.length = ρ.length
  get : ∀ (i : Nat) (v : Val), ρ[i]? = some (some v) → ∃ x, σ[i]? = some (some x) ∧ RpV G α H x v
/-- what has happened since: new cells at new places, all else that was tracked stays but the cells -/
structure Post (α : List Addr) (H : Hp) (α' : List Addr) (H' : Hp) : Prop where
  ext : ∃ β, α' = α ++ β
  fresh : ∀ b, b ∈ α' → b ∉ α → H b = none
  keep0 : ∀ b o, H b = some o → b ∉ α → (∀ ps, o ≠ .tbl ps) → H' b = some o
  dom : ∀ b o, H b = some o → ∃ o', H' b = some o'
  tbl : ∀ b ps, H b = some (.tbl ps) → b ∉ α → ∃ ps', H' b = some (.tbl ps')
theorem Post.keep {α α' : List Addr} {H H' : Hp} (p : Post α H α' H') (b : Addr) (o : HO) (h : H b = some o) (n : b ∉ α) (t : ∀ ps, o ≠ .tbl ps := by intro _ z; cases z) : H' b = some o := p.keep0 b o h n t
theorem Post.kp {α α' : List Addr} {H H' : Hp} (p : Post α H α' H') (b : Addr) (o : HO) (h : H b = some o) (n : b ∉ α) : ∃ o', H' b = some o' ∧ Kp o o' := by
  by_cases t : ∃ ps, o = .tbl ps
  · obtain ⟨ps, rfl⟩ := t
    obtain ⟨ps', e⟩ := p.tbl b ps h n
    exact ⟨_, e, .inr (.inr ⟨ps, ps', rfl, rfl⟩)⟩
  · exact ⟨o, p.keep0 b o h n fun ps z => t ⟨ps, z⟩, .inl rfl⟩

section
variable {G : Addr → Prop} {α α1 α2 : List Addr} {H H1 H2 : Hp} {μ μ1 : Sto} {a : Addr} {c : Cell} {d : D} {v : V}
theorem Post.refl : Post α H α H := ⟨⟨[], by simp⟩, fun b h n => absurd h n, fun _ _ h _ _ => h, fun _ o h => ⟨o, h⟩, fun _ ps h _ => ⟨ps, h⟩⟩
theorem Post.trans (p : Post α H α1 H1) (q : Post α1 H1 α2 H2) : Post α H α2 H2 := by
  obtain ⟨β, e⟩ := p.ext
  obtain ⟨γ, f⟩ := q.ext
  have n1 : ∀ b o, H b = some o → b ∉ α → b ∉ α1 := fun b o h n h1 => by
    have z := p.fresh b h1 n
    rw [h] at z; cases z
  refine ⟨⟨β ++ γ, by rw [f, e, List.append_assoc]⟩, fun b hb n => ?_, fun b o h n t => q.keep0 b o (p.keep0 b o h n t) (n1 b o h n) t, fun b o h => ?_, fun b ps h n => ?_⟩
  · by_cases h1 : b ∈ α1
    · exact p.fresh b h1 n
    · have z := q.fresh b hb h1
      cases hh : H b with
      | none => rfl
      | some o =>
        obtain ⟨o', e'⟩ := p.dom b o hh
        rw [e'] at z; cases z
  · obtain ⟨o', h'⟩ := p.dom b o h
    exact q.dom b o' h'
  · obtain ⟨ps', h'⟩ := p.tbl b ps h n
    exact q.tbl b ps' h' (n1 b _ h n)
theorem Post.kept (p : Post α H α1 H1) : ∀ a o, ¬ off G α a → H a = some o → (∃ o', H1 a = some o' ∧ Kp o o') ∧ ¬ off G α1 a := fun a o n e => by
  have na : a ∉ α := fun h => n (.inr h)
  refine ⟨p.kp a o e na, fun h => ?_⟩
  rcases h with h | h
  · exact n (.inl h)
  · rw [p.fresh a h na] at e; cases e
theorem Rp.post (p : Post α H α1 H1) (r : Rp H (off G α) v d) : Rp H1 (off G α1) v d := Rp.mono p.kept r
theorem RpL.post (p : Post α H α1 H1) {v : List V} {d : List D} (r : RpL H (off G α) v d) : RpL H1 (off G α1) v d := RpL.mono p.kept r
theorem RpK.post (p : Post α H α1 H1) {v : List (Key × V)} {d : List (Key × D)} (r : RpK H (off G α) v d) : RpK H1 (off G α1) v d := RpK.mono p.kept r
theorem RpT.post (p : Post α H α1 H1) {v : List (List Key × V)} {d : List (List Key × D)} (r : RpT H (off G α) v d) : RpT H1 (off G α1) v d := RpT.mono p.kept r
theorem Post.at_ (p : Post α H α1 H1) {k : Nat} (h : α[k]? = some a) : α1[k]? = some a := by
  obtain ⟨β, e⟩ := p.ext
  rw [e, List.getElem?_append_left (List.getElem?_eq_some_iff.mp h).1]
  exact h
theorem RpV.post (p : Post α H α1 H1) {x : Val} (r : RpV G α H v x) : RpV G α1 H1 v x := by
  cases x with
  | dat d => exact Rp.post p r
  | loc k =>
    obtain ⟨a, h, e⟩ := r
    exact ⟨a, p.at_ h, e⟩
theorem RepE.post (p : Post α H α1 H1) {σ : St} {ρ : Env} (r : RepE G α H σ ρ) : RepE G α1 H1 σ ρ :=
  ⟨r.len, fun i v h => let ⟨x, h1, h2⟩ := r.get i v h; ⟨x, h1, h2.post p⟩⟩
/-- data, whatever is guarded less -/
theorem less_of {F F' : Addr → Prop} (h : ∀ a, F' a → F a) : ∀ a o, ¬ F a → H a = some o → (∃ o', H a = some o' ∧ Kp o o') ∧ ¬ F' a := fun _ o n e => ⟨⟨o, e, Kp.rfl⟩, fun z => n (h _ z)⟩
theorem Rp.less {F F' : Addr → Prop} (h : ∀ a, F' a → F a) (r : Rp H F v d) : Rp H F' v d := Rp.mono (less_of h) r
theorem RpL.less {F F' : Addr → Prop} {v : List V} {d : List D} (h : ∀ a, F' a → F a) (r : RpL H F v d) : RpL H F' v d := RpL.mono (less_of h) r
theorem RpK.less {F F' : Addr → Prop} {v : List (Key × V)} {d : List (Key × D)} (h : ∀ a, F' a → F a) (r : RpK H F v d) : RpK H F' v d := RpK.mono (less_of h) r
theorem RpT.less {F F' : Addr → Prop} {v : List (List Key × V)} {d : List (List Key × D)} (h : ∀ a, F' a → F a) (r : RpT H F v d) : RpT H F' v d := RpT.mono (less_of h) r
theorem CellAt.mono {F F' : Addr → Prop} (h1 : ∀ a o, ¬ F a → H a = some o → (∃ o', H1 a = some o' ∧ Kp o o') ∧ ¬ F' a) (ha : H1 a = H a) (r : CellAt H F a c) : CellAt H1 F' a c := by
  cases c with
  | lst ds => obtain ⟨xs, e, r⟩ := r; exact ⟨xs, by rw [ha]; exact e, r.mono h1⟩
  | dic ds => obtain ⟨xs, e, r⟩ := r; exact ⟨xs, by rw [ha]; exact e, r.mono h1⟩
  | dct ds => obtain ⟨xs, e, r⟩ := r; exact ⟨xs, by rw [ha]; exact e, r.mono h1⟩
theorem CellAt.less {F F' : Addr → Prop} (h : ∀ a, F' a → F a) (r : CellAt H F a c) : CellAt H F' a c := r.mono (less_of h) rfl
theorem CellAt.frz {F : Addr → Prop} (n : ¬ F a) (r : CellAt H F a c) : Rp H F (.ref a) c.frz := by
  cases c with
  | lst ds => obtain ⟨xs, e, r⟩ := r; exact .lst e n r
  | dic ds => obtain ⟨xs, e, r⟩ := r; exact .dic (.inl e) n r
  | dct ds => obtain ⟨xs, e, r⟩ := r; exact .dct (.inl e) n r
theorem RepS.at_ (S : RepS Z G α H μ) {k : Nat} (h : μ[k]? = some c) : ∃ a, α[k]? = some a ∧ CellAt H (off G α) a c := by
  have hk : k < α.length := by rw [S.len]; exact (List.getElem?_eq_some_iff.mp h).1
  exact ⟨α[k], by simp [hk], S.cell k _ c (by simp [hk]) h⟩
/-- a new object is data: the last cell is given up -/
theorem RepS.freeze {p : Addr} (S : RepS Z G (α ++ [p]) H (μ ++ [c])) : RepS Z G α H μ ∧ Rp H (off G α) (.ref p) c.frz := by
  have hl : α.length = μ.length := by have := S.len; simp at this; exact this
  have nd := S.nd
  rw [List.nodup_append] at nd
  have np : p ∉ α := fun h => nd.2.2 p h p (by simp) rfl
  have sub : ∀ a, off G α a → off G (α ++ [p]) a := fun a h => h.elim .inl fun h => .inr (List.mem_append_left _ h)
  refine ⟨⟨hl, nd.1, fun b h => ⟨fun hb => (S.gd b h).1 (List.mem_append_left _ hb), (S.gd b h).2⟩, fun k a c' h1 h2 => ?_, S.tb⟩, ?_⟩
  · have k1 := (List.getElem?_eq_some_iff.mp h1).1
    have k2 := (List.getElem?_eq_some_iff.mp h2).1
    exact (S.cell k a c' (by rw [List.getElem?_append_left k1]; exact h1) (by rw [List.getElem?_append_left k2]; exact h2)).less sub
  · have q := S.cell α.length p c (by simp) (by rw [hl]; simp)
    refine CellAt.frz (fun h => ?_) (q.less sub)
    rcases h with h | h
    · exact (S.gd p h).1 (by simp)
    · exact np h
theorem Post.new {p : Addr} (P : Post α H α1 H1) (hp : H p = none) : Post α H (α1 ++ [p]) H1 := by
  obtain ⟨β, e⟩ := P.ext
  refine ⟨⟨β ++ [p], by rw [e, List.append_assoc]⟩, fun b hb n => ?_, P.keep0, P.dom, P.tbl⟩
  rcases List.mem_append.mp hb with hb | hb
  · exact P.fresh b hb n
  · rw [List.mem_singleton.mp hb]; exact hp
end

/-! ### what is wanted -/
/-- an exception, as it lies -/
def RepX (Z : Wd) (F : Addr → Prop) (x : Exn) (cls : Value) (dd : Option Addr) (H : Hp) : Prop :=
  cls = .ref (Z.cls x.cls) ∧ match x.fld with
    | none => dd = none
    | some d => ∃ a v, dd = some a ∧ H a = some (.xd [("name", v)]) ∧ ¬ F a ∧ Rp H F v d
def wE (Z : Wd) (G : Addr → Prop) (α : List Addr) (H : Hp) (o : Out Res) (Q : VK) (E : XK) : Prop := match o with
  | .stuck => False
  | .ok (.dat d) μ' => ∀ v H' α', Post α H α' H' → RepS Z G α' H' μ' → Rp H' (off G α') v d → Q v H'
  | .ok (.loc k) μ' => ∀ a H' α', Post α H α' H' → RepS Z G α' H' μ' → α'[k]? = some a → Q (.ref a) H'
  | .ok (.new c) μ' => ∀ p H' α', Post α H α' H' → H p = none → RepS Z G (α' ++ [p]) H' (μ' ++ [c]) → Q (.ref p) H'
  | .exc x μ' => ∀ cls dd H' α', Post α H α' H' → RepS Z G α' H' μ' → RepX Z (off G α') x cls dd H' → E cls dd H'
def tD (Z : Wd) (W : WX) (f : SE) : TE := fun σ H Q => ∃ G α ρ μ, RepS Z G α H μ ∧ RepE G α H σ ρ ∧ wE Z G α H (f ρ μ) Q fun c d H' => W c d σ H'

section
variable {Z : Wd} {G : Addr → Prop} {α α1 : List Addr} {H H1 : Hp} {μ μ1 : Sto} {o : Out Res} {Q Q' : VK} {E : XK} {W : WX}
theorem wE.mono (h : wE Z G α H o Q E) (hq : ∀ v H', Q v H' → Q' v H') : wE Z G α H o Q' E := by
  cases o with
  | stuck => exact h
  | exc x μ' => exact h
  | ok r μ' =>
    cases r with
    | dat d => exact fun v H' α' p s r => hq _ _ (h v H' α' p s r)
    | loc k => exact fun a H' α' p s r => hq _ _ (h a H' α' p s r)
    | new c => exact fun q H' α' p s r => hq _ _ (h q H' α' p s r)
theorem wE.post (p : Post α H α1 H1) (h : wE Z G α H o Q E) : wE Z G α1 H1 o Q E := by
  have free : ∀ b, H1 b = none → H b = none := fun b e => by
    cases hb : H b with
    | none => rfl
    | some o => obtain ⟨o', e'⟩ := p.dom b o hb; rw [e] at e'; cases e'
  cases o with
  | stuck => exact h
  | exc x μ' => exact fun c d H' α' q s r => h c d H' α' (p.trans q) s r
  | ok r μ' =>
    cases r with
    | dat d => exact fun v H' α' q s r => h v H' α' (p.trans q) s r
    | loc k => exact fun a H' α' q s r => h a H' α' (p.trans q) s r
    | new c => exact fun b H' α' q n s => h b H' α' (p.trans q) (free b n) s
theorem tD.mono {f : SE} {σ : St} (h : tD Z W f σ H Q) (hq : ∀ v H', Q v H' → Q' v H') : tD Z W f σ H Q' := by
  obtain ⟨G, α, ρ, μ, S, E, w⟩ := h
  exact ⟨G, α, ρ, μ, S, E, w.mono hq⟩
end

/-! ### operands: a new object becomes data -/
def Res.val : Res → Val
  | .dat d => .dat d
  | .loc k => .loc k
  | .new c => .dat c.frz
def opd {τ : Type} (o : Out Res) (k : Val → Sto → Out τ) : Out τ := match o with
  | .ok r μ => k r.val μ
  | .exc x μ => .exc x μ
  | .stuck => .stuck
section
variable {Z : Wd} {G : Addr → Prop} {α α1 : List Addr} {H H1 : Hp} {μ μ1 : Sto} {o : Out Res} {Q Q' : VK} {E : XK} {W : WX}
/-- behind an operand -/
theorem wE.opd {k : Val → Sto → Out Res} {Q1 : VK} (h : wE Z G α H (opd o k) Q E) (hq : ∀ v H1 α1 μ1 val, Post α H α1 H1 → RepS Z G α1 H1 μ1 → RpV G α1 H1 v val → wE Z G α1 H1 (k val μ1) Q E → Q1 v H1) : wE Z G α H o Q1 E := by
  cases o with
  | stuck => exact h
  | exc x μ' => exact h
  | ok r μ' =>
    cases r with
    | dat d => exact fun v H' α' p s r => hq v H' α' μ' (.dat d) p s r (wE.post p h)
    | loc k => exact fun a H' α' p s r => hq _ H' α' μ' (.loc k) p s ⟨a, r, rfl⟩ (wE.post p h)
    | new c => exact fun q H' α' p n s => hq _ H' α' μ' (.dat c.frz) p s.freeze.1 s.freeze.2 (wE.post p h)
end
theorem PEimp {X : Cx} {e : Expr} {t t' : TE} (h : PE X e t) (i : ∀ σ H Q, t' σ H Q → t σ H Q) : PE X e t' := ⟨fun pins s σ H Q I hw => h.run pins s σ H Q I (i σ H Q hw)⟩
theorem PTimp {X : Cx} {e : Expr} {t t' : TT} (h : PT X e t) (i : ∀ σ H Q, t' σ H Q → t σ H Q) : PT X e t' := ⟨fun pins s σ H Q I hw => h.run pins s σ H Q I (i σ H Q hw)⟩
theorem PAimp {X : Cx} {e : List Expr} {t t' : TA} (h : PA X e t) (i : ∀ σ H Q, t' σ H Q → t σ H Q) : PA X e t' := ⟨fun pos pins s σ H Q I hw => h.run pos pins s σ H Q I (i σ H Q hw)⟩
theorem PSimp {X : Cx} {e : Stmt} {t t' : TS} (h : PS X e t) (i : ∀ D σ H, t' D σ H → t D σ H) : PS X e t' := ⟨fun pins s σ H D I hw => h.run pins s σ H D I (i D σ H hw)⟩
theorem PSsimp {X : Cx} {e : List Stmt} {t t' : TS} (h : PSs X e t) (i : ∀ D σ H, t' D σ H → t D σ H) : PSs X e t' := ⟨fun pins s σ H D I hw => h.run pins s σ H D I (i D σ H hw)⟩

/-! ### a two-place operation on values -/
def OpD (r : R2) (op : Sto → Val → Val → Option Res) : Prop := ∀ Z G α H μ x y a b res Q E, RepS Z G α H μ → RpV G α H x a → RpV G α H y b → op μ a b = some res → wE Z G α H (.ok res μ) Q E → r x y H Q
def outO : Option Res → Sto → Out Res
  | some r, μ => .ok r μ
  | none, _ => .stuck
def sBin (op : Sto → Val → Val → Option Res) (f g : SE) : SE := fun ρ μ => opd (f ρ μ) fun a μ1 => opd (g ρ μ1) fun b μ2 => outO (op μ2 a b) μ2
theorem OpD.out {r : R2} {op : Sto → Val → Val → Option Res} (ho : OpD r op) {Z : Wd} {G : Addr → Prop} {α : List Addr} {H : Hp} {μ : Sto} {x y : V} {a b : Val} {Q : VK} {E : XK} (S : RepS Z G α H μ) (ra : RpV G α H x a) (rb : RpV G α H y b)
    (w : wE Z G α H (outO (op μ a b) μ) Q E) : r x y H Q := by
  cases e : op μ a b with
  | none => rw [e] at w; exact w.elim
  | some res => rw [e] at w; exact ho Z G α H μ x y a b res Q E S ra rb e w
theorem tOp_of {Z : Wd} {W : WX} {r : R2} {op : Sto → Val → Val → Option Res} {f g : SE} (ho : OpD r op) : ∀ σ H Q, tD Z W (sBin op f g) σ H Q → tOp r (tD Z W f) (tD Z W g) σ H Q := by
  rintro σ H Q ⟨G, α, ρ, μ, S, E, w⟩
  refine ⟨G, α, ρ, μ, S, E, wE.opd w fun x H1 α1 μ1 a p1 S1 ra w1 => ?_⟩
  refine ⟨G, α1, ρ, μ1, S1, E.post p1, wE.opd w1 fun y H2 α2 μ2 b p2 S2 rb w2 => ?_⟩
  exact ho.out S2 (ra.post p2) rb w2
section
variable {X : Cx} {Z : Wd} {W : WX} {a b : Expr} {f g : SE} {pos : Pos}
theorem d_bin {op : Operator} {r : R2} {o : Sto → Val → Val → Option Res} (hr : OpR X (binaryOp op) r) (ho : OpD r o) (ha : PE X a (tD Z W f)) (hb : PE X b (tD Z W g)) : PE X (.BinOp a op b pos) (tD Z W (sBin o f g)) :=
  PEimp (pe_op hr ha hb) (tOp_of ho)
theorem d_cmp {op : CmpOp} {r : R2} {o : Sto → Val → Val → Option Res} (hr : OpR X (compareOp op) r) (ho : OpD r o) (ha : PE X a (tD Z W f)) (hb : PE X b (tD Z W g)) (hm : behindInMarks op b = false := by first | exact nomark _ | rfl) :
    PE X (.Compare a [op] [b] pos) (tD Z W (sBin o f g)) := PEimp (pe_cmpR hr ha hb hm) (tOp_of ho)
theorem OpD.or {r r' : R2} {o o' : Sto → Val → Val → Option Res} (h : OpD r o) (h' : OpD r' o') : OpD (fun x y H Q => r x y H Q ∨ r' x y H Q) (fun μ a b => (o μ a b).or (o' μ a b)) := by
  intro Z G α H μ x y a b res Q E S ra rb e w
  cases q : o μ a b with
  | some z =>
    have e' : z = res := by simpa [q] using e
    subst e'
    exact .inl (h Z G α H μ x y a b z Q E S ra rb q w)
  | none =>
    exact .inr (h' Z G α H μ x y a b res Q E S ra rb (by simpa [q] using e) w)
end
end Sx

/-! SxOps: names, constants, operators, comparisons, tests. -/
namespace Sx
open PySem L2

section
variable {G : Addr → Prop} {α α1 : List Addr} {H H1 : Hp} {μ μ1 : Sto} {a p : Addr} {c : Cell} {d : D} {v x y : V} {o : HO}
/-! ### new objects -/
theorem Post.alloc (hp : H p = none) : Post α H α (upd H p o) :=
  ⟨⟨[], (List.append_nil _).symm⟩, fun b h n => absurd h n, fun b ob h _ _ => by rw [upd_ne (ne_of_none h hp)]; exact h, fun b ob h => ⟨ob, by rw [upd_ne (ne_of_none h hp)]; exact h⟩, fun b ps h _ => ⟨ps, by rw [upd_ne (ne_of_none h hp)]; exact h⟩⟩
theorem RepS.tracked (S : RepS Z G α H μ) (h : a ∈ α) : ∃ ob, H a = some ob := by
  obtain ⟨k, hk, e⟩ := List.getElem_of_mem h
  have hm : k < μ.length := by rw [← S.len]; exact hk
  have q := S.cell k a μ[k] (by rw [List.getElem?_eq_getElem hk, e]) (List.getElem?_eq_getElem hm)
  cases hc : μ[k] with
  | lst ds => rw [hc] at q; obtain ⟨xs, e, _⟩ := q; exact ⟨_, e⟩
  | dic ds => rw [hc] at q; obtain ⟨xs, e, _⟩ := q; exact ⟨_, e⟩
  | dct ds => rw [hc] at q; obtain ⟨xs, e, _⟩ := q; exact ⟨_, e⟩
theorem RepS.tracked2 (S : RepS Z G α H μ) (h : a ∈ α) : ∃ ob, H a = some ob ∧ ¬ IsT ob := by
  obtain ⟨k, hk, e⟩ := List.getElem_of_mem h
  have hm : k < μ.length := by rw [← S.len]; exact hk
  have q := S.cell k a μ[k] (by rw [List.getElem?_eq_getElem hk, e]) (List.getElem?_eq_getElem hm)
  cases hc : μ[k] with
  | lst ds => rw [hc] at q; obtain ⟨xs, e, _⟩ := q; exact ⟨_, e, nt_lst⟩
  | dic ds => rw [hc] at q; obtain ⟨xs, e, _⟩ := q; exact ⟨_, e, nt_dK⟩
  | dct ds => rw [hc] at q; obtain ⟨xs, e, _⟩ := q; exact ⟨_, e, nt_dT⟩
theorem RepS.step (S : RepS Z G α H μ) (P : Post α H α H1) (ha : ∀ a ∈ α, H1 a = H a) (t : LamX.Tabs Z.tabs H1) : RepS Z G α H1 μ :=
  ⟨S.len, S.nd, fun b g => ⟨(S.gd b g).1, let ⟨_, e⟩ := (S.gd b g).2; P.dom _ _ e⟩, fun k a c h1 h2 => (S.cell k a c h1 h2).mono P.kept (ha a (List.mem_of_getElem? h1)), t⟩
theorem RepS.alloc (S : RepS Z G α H μ) (hp : H p = none) : RepS Z G α (upd H p o) μ :=
  S.step (Post.alloc hp) (fun a ha => by
    obtain ⟨ob, e⟩ := S.tracked ha
    rw [upd_ne (ne_of_none e hp)]) (tabs_new S.tb hp)
theorem RepS.snoc (S : RepS Z G α H μ) (hp : H p = none) (hc : CellAt (upd H p o) (off G (α ++ [p])) p c) : RepS Z G (α ++ [p]) (upd H p o) (μ ++ [c]) := by
  have np : p ∉ α := fun h => by
    obtain ⟨ob, e⟩ := S.tracked h
    rw [e] at hp; cases hp
  refine ⟨by simp [S.len], ?_, fun b g => ?_, fun k a c' h1 h2 => ?_, tabs_new S.tb hp⟩
  · rw [List.nodup_append]
    exact ⟨S.nd, by simp, fun a ha b hb => by rw [List.mem_singleton.mp hb]; rintro rfl; exact np ha⟩
  · obtain ⟨n, ob, e⟩ := S.gd b g
    refine ⟨fun h => ?_, ob, by rw [upd_ne (ne_of_none e hp)]; exact e⟩
    rcases List.mem_append.mp h with h | h
    · exact n h
    · rw [List.mem_singleton.mp h, hp] at e; cases e
  · by_cases hk : k < α.length
    · rw [List.getElem?_append_left hk] at h1
      rw [List.getElem?_append_left (by rw [← S.len]; exact hk)] at h2
      have hm := List.mem_of_getElem? h1
      obtain ⟨ob, e⟩ := S.tracked hm
      exact (S.cell k a c' h1 h2).mono ((Post.alloc (α := α) (o := o) hp).new hp).kept (by rw [upd_ne (ne_of_none e hp)])
    · have hl : k < (α ++ [p]).length := (List.getElem?_eq_some_iff.mp h1).1
      have e : k = α.length := by simp at hl; omega
      subst e
      rw [S.len] at h2
      simp at h1 h2
      subst h1 h2
      exact hc
theorem wE.pure {Z : Wd} {Q : VK} {E : XK} (w : wE Z G α H (.ok (.dat d) μ) Q E) (S : RepS Z G α H μ) (r : Rp H (off G α) v d) : Q v H := w v H α Post.refl S r
theorem wE.tup {Z : Wd} {Q : VK} {E : XK} {xs : List V} {ds : List D} (w : wE Z G α H (.ok (.dat (.tup ds)) μ) Q E) (S : RepS Z G α H μ) (r : RpL H (off G α) xs ds) : NewT H xs Q := by
  intro p o ho hp
  have P : Post α H α (upd H p (.frz o (.tup xs))) := Post.alloc hp
  refine w _ _ α P (S.alloc hp) (.tup (TupAt.upd ho) (fun h => ?_) (r.post P))
  rcases h with h | h
  · obtain ⟨_, ob, e⟩ := S.gd p h; rw [hp] at e; cases e
  · obtain ⟨ob, e⟩ := S.tracked h; rw [hp] at e; cases e
theorem RepS.noff (S : RepS Z G α H μ) (hp : H p = none) : ¬ off G α p := fun h => by
  rcases h with h | h
  · obtain ⟨_, ob, e⟩ := S.gd p h; rw [hp] at e; cases e
  · obtain ⟨ob, e⟩ := S.tracked h; rw [hp] at e; cases e
theorem wE.lst {Z : Wd} {Q : VK} {E : XK} {xs : List V} {ds : List D} (w : wE Z G α H (.ok (.new (.lst ds)) μ) Q E) (S : RepS Z G α H μ) (r : RpL H (off G α) xs ds) (hp : H p = none) : Q (.ref p) (upd H p (.lst xs)) := by
  have P : Post α H α (upd H p (.lst xs)) := Post.alloc hp
  exact w _ _ α P hp (S.snoc hp ⟨xs, upd_same, r.post (P.new hp)⟩)
theorem wE.dic {Z : Wd} {Q : VK} {E : XK} {xs : List (Key × V)} {ds : List (Key × D)} (w : wE Z G α H (.ok (.new (.dic ds)) μ) Q E) (S : RepS Z G α H μ) (r : RpK H (off G α) xs ds) (hp : H p = none) : Q (.ref p) (upd H p (.dK xs)) := by
  have P : Post α H α (upd H p (.dK xs)) := Post.alloc hp
  exact w _ _ α P hp (S.snoc hp ⟨xs, upd_same, r.post (P.new hp)⟩)
theorem wE.dct {Z : Wd} {Q : VK} {E : XK} {xs : List (List Key × V)} {ds : List (List Key × D)} (w : wE Z G α H (.ok (.new (.dct ds)) μ) Q E) (S : RepS Z G α H μ) (r : RpT H (off G α) xs ds) (hp : H p = none) : Q (.ref p) (upd H p (.dT xs)) := by
  have P : Post α H α (upd H p (.dT xs)) := Post.alloc hp
  exact w _ _ α P hp (S.snoc hp ⟨xs, upd_same, r.post (P.new hp)⟩)
end

/-! ### reading lists, tuples, dicts -/
def rdL (μ : Sto) : Val → Option (List D)
  | .dat (.lst ds) => some ds
  | .dat (.scr ns) => some (ns.map .int)
  | .loc k => match μ[k]? with
    | some (.lst ds) => some ds
    | _ => none
  | _ => none
/-- .. but not the script -/
def rdW (μ : Sto) : Val → Option (List D)
  | .dat (.lst ds) => some ds
  | .loc k => match μ[k]? with
    | some (.lst ds) => some ds
    | _ => none
  | _ => none
def rdT : Val → Option (List D)
  | .dat (.tup ds) => some ds
  | _ => none
def rdS (μ : Sto) (v : Val) : Option (List D) := (rdL μ v).or (rdT v)
def rdD (μ : Sto) : Val → Option (List (Key × D))
  | .dat (.dic ds) => some ds
  | .loc k => match μ[k]? with
    | some (.dic ds) => some ds
    | _ => none
  | _ => none
def rdX (μ : Sto) : Val → Option (List (List Key × D))
  | .dat (.dct ds) => some ds
  | .loc k => match μ[k]? with
    | some (.dct ds) => some ds
    | _ => none
  | _ => none
/-- as data, cells too -/
def toD (μ : Sto) : Val → Option D
  | .dat d => some d
  | .loc k => (μ[k]?).map Cell.frz
section
variable {G : Addr → Prop} {α : List Addr} {H : Hp} {μ : Sto} {x : V} {a : Val}
theorem rpL_ints {F : Addr → Prop} : ∀ ns : List Int, RpL H F (ns.map V.int) (ns.map D.int)
  | [] => .nil
  | n :: ns => .cons (.int n) (rpL_ints ns)
theorem loc_at (S : RepS Z G α H μ) {k : Nat} {c : Cell} (r : RpV G α H x (.loc k)) (e : μ[k]? = some c) : ∃ p, x = .ref p ∧ CellAt H (off G α) p c ∧ α[k]? = some p := by
  obtain ⟨p, h, rfl⟩ := r
  exact ⟨p, rfl, S.cell k p c h e, h⟩
theorem rdW_ok (S : RepS Z G α H μ) (r : RpV G α H x a) {ds : List D} (e : rdW μ a = some ds) : ∃ p xs, x = .ref p ∧ H p = some (.lst xs) ∧ RpL H (off G α) xs ds := by
  cases a with
  | dat d =>
    have r : Rp H (off G α) x d := r
    cases d <;> simp only [rdW, reduceCtorEq] at e
    cases e
    cases r with
    | lst h n l => exact ⟨_, _, rfl, h, l⟩
  | loc k =>
    simp only [rdW] at e
    split at e
    · rename_i ds' h
      cases e
      obtain ⟨p, rfl, ⟨xs, h1, h2⟩, _⟩ := loc_at S r h
      exact ⟨p, xs, rfl, h1, h2⟩
    · cases e
theorem rdL_ok (S : RepS Z G α H μ) (r : RpV G α H x a) {ds : List D} (e : rdL μ a = some ds) : ∃ p xs, x = .ref p ∧ Rd H p (.lst xs) ∧ RpL H (off G α) xs ds := by
  by_cases h : rdW μ a = some ds
  · obtain ⟨p, xs, e1, e2, e3⟩ := rdW_ok S r h
    exact ⟨p, xs, e1, .inl e2, e3⟩
  · cases a with
    | dat d =>
      have r : Rp H (off G α) x d := r
      cases d <;> simp only [rdL, rdW, reduceCtorEq] at e h
      · exact absurd e h
      · cases e
        cases r with
        | scr r n => exact ⟨_, _, rfl, r, rpL_ints _⟩
    | loc k => exact absurd e h
theorem rdT_ok (r : RpV G α H x a) {ds : List D} (e : rdT a = some ds) : ∃ p xs, x = .ref p ∧ TupAt H p xs ∧ RpL H (off G α) xs ds := by
  cases a with
  | dat d =>
    have r : Rp H (off G α) x d := r
    cases d <;> simp only [rdT, reduceCtorEq] at e
    cases e
    cases r with
    | tup h n l => exact ⟨_, _, rfl, h, l⟩
  | loc k => simp only [rdT, reduceCtorEq] at e
theorem rdS_ok (S : RepS Z G α H μ) (r : RpV G α H x a) {ds : List D} (e : rdS μ a = some ds) : ∃ p xs, x = .ref p ∧ (Rd H p (.lst xs) ∨ TupAt H p xs) ∧ RpL H (off G α) xs ds := by
  unfold rdS at e
  cases h : rdL μ a with
  | some z =>
    rw [h] at e
    have e' : z = ds := by simpa using e
    subst e'
    obtain ⟨p, xs, e1, e2, e3⟩ := rdL_ok S r h
    exact ⟨p, xs, e1, .inl e2, e3⟩
  | none =>
    rw [h] at e
    obtain ⟨p, xs, e1, e2, e3⟩ := rdT_ok r (by simpa using e)
    exact ⟨p, xs, e1, .inr e2, e3⟩
theorem rdS_sq {K : PySem.W.Frag} {p : Addr} {xs : List V} (h : Rd H p (.lst xs) ∨ TupAt H p xs) : SqL K H p xs ∨ SqT K H p xs := h.elim (fun h => .inl (.inl h)) fun h => .inr h.sq
theorem rdD_ok (S : RepS Z G α H μ) (r : RpV G α H x a) {ds : List (Key × D)} (e : rdD μ a = some ds) : ∃ p xs, x = .ref p ∧ Rd H p (.dK xs) ∧ RpK H (off G α) xs ds := by
  cases a with
  | dat d =>
    have r : Rp H (off G α) x d := r
    cases d <;> simp only [rdD, reduceCtorEq] at e
    cases e
    cases r with
    | dic h n l => exact ⟨_, _, rfl, h, l⟩
  | loc k =>
    simp only [rdD] at e
    split at e
    · rename_i ds' h
      cases e
      obtain ⟨p, rfl, ⟨xs, h1, h2⟩, _⟩ := loc_at S r h
      exact ⟨p, xs, rfl, .inl h1, h2⟩
    · cases e
theorem rdX_ok (S : RepS Z G α H μ) (r : RpV G α H x a) {ds : List (List Key × D)} (e : rdX μ a = some ds) : ∃ p xs, x = .ref p ∧ Rd H p (.dT xs) ∧ RpT H (off G α) xs ds := by
  cases a with
  | dat d =>
    have r : Rp H (off G α) x d := r
    cases d <;> simp only [rdX, reduceCtorEq] at e
    cases e
    cases r with
    | dct h n l => exact ⟨_, _, rfl, h, l⟩
  | loc k =>
    simp only [rdX] at e
    split at e
    · rename_i ds' h
      cases e
      obtain ⟨p, rfl, ⟨xs, h1, h2⟩, _⟩ := loc_at S r h
      exact ⟨p, xs, rfl, .inl h1, h2⟩
    · cases e
theorem toD_ok (S : RepS Z G α H μ) (r : RpV G α H x a) {d : D} (e : toD μ a = some d) : Rp H (fun _ => False) x d := by
  cases a with
  | dat d' => simp only [toD, Option.some.injEq] at e; subst e; exact Rp.less (fun _ h => h.elim) r
  | loc k =>
    simp only [toD] at e
    cases h : μ[k]? with
    | none => rw [h] at e; cases e
    | some c =>
      rw [h] at e
      have e' : c.frz = d := by simpa using e
      subst e'
      obtain ⟨p, rfl, q, _⟩ := loc_at S r h
      exact CellAt.frz (fun h => h) (q.less fun _ h => h.elim)
end

/-! ### names, constants -/
def gv : Env → Nat → Option Val
  | [], _ => none
  | a :: _, 0 => a
  | _ :: l, n + 1 => gv l n
theorem gv_some : ∀ {ρ : Env} {i : Nat} {v : Val}, gv ρ i = some v → ρ[i]? = some (some v)
  | [], _, _, h => by simp [gv] at h
  | a :: _, 0, _, h => by simp only [gv] at h; simp [h]
  | _ :: l, n + 1, _, h => by simp only [gv] at h; simpa using gv_some h
def Val.res : Val → Res
  | .dat d => .dat d
  | .loc k => .loc k
def sVar (i : Nat) : SE := fun ρ μ => match gv ρ i with
  | some v => .ok v.res μ
  | none => .stuck
def sC (d : D) : SE := fun _ μ => .ok (.dat d) μ
section
variable {X : Cx} {Z : Wd} {W : WX} {pos : Pos}
theorem d_var (i : Nat) {x : Str} (hN : X.N[i]? = some x := by rfl) (hv : Vis X.env.scope x := by first | exact Or.inl rfl | exact Or.inr (Or.inl rfl) | exact Or.inr (Or.inr rfl)) (hd : (x == ("__debug__" : Str)) = false := by decide)
    (hcd : (x == ("__classdict__" : Str)) = false := by decide) : PE X (.Name x pos) (tD Z W (sVar i)) := by
  refine PEimp (pe_var hN hv hd hcd) ?_
  rintro σ H Q ⟨G, α, ρ, μ, S, E, w⟩
  unfold sVar at w
  cases h : gv ρ i with
  | none => rw [h] at w; exact w.elim
  | some v =>
    rw [h] at w
    obtain ⟨y, e, r⟩ := E.get i v (gv_some h)
    refine ⟨y, e, ?_⟩
    cases v with
    | dat d => exact w y H α Post.refl S r
    | loc k =>
      obtain ⟨a, ha, rfl⟩ := r
      exact w a H α Post.refl S ha
theorem d_const {e : Expr} {v : V} {d : D} (h : PE X e (tC v)) (r : ∀ H F, Rp H F v d) : PE X e (tD Z W (sC d)) :=
  PEimp h fun σ H Q ⟨G, α, ρ, μ, S, E, w⟩ => w v H α Post.refl S (r _ _)
theorem d_int {i : Int} {j} : PE X (.Constant (.int i) j pos) (tD Z W (sC (.int i))) := d_const pe_int fun _ _ => .int i
theorem d_bl {b : Bool} {j} : PE X (.Constant (.bool b) j pos) (tD Z W (sC (.bl b))) := d_const pe_bl fun _ _ => .bl b
theorem d_non {j} : PE X (.Constant .none j pos) (tD Z W (sC .non)) := d_const pe_non fun _ _ => .non
theorem d_str {x : Str} {j} : PE X (.Constant (.str x) j pos) (tD Z W (sC (.str x))) := d_const pe_str fun _ _ => .str x
/-- a constant of a module -/
theorem d_globI {x : Str} {i : Int} {t : Tok} (hg : Gl X x) (hm : X.mg x = some (.int i t)) (hd : (x == ("__debug__" : Str)) = false := by decide) : PE X (.Name x pos) (tD Z W (sC (.int i))) := d_const (pe_glob (v := .int i) hg hm ⟨t, rfl⟩ hd) fun _ _ => .int i
theorem d_globS {x y : Str} {t : Tok} (hg : Gl X x) (hm : X.mg x = some (.str y t)) (hd : (x == ("__debug__" : Str)) = false := by decide) : PE X (.Name x pos) (tD Z W (sC (.str y))) := d_const (pe_glob (v := .str y) hg hm ⟨t, rfl⟩ hd) fun _ _ => .str y
end

/-! ### operators -/
abbrev BOp := Sto → Val → Val → Option Res
def orO (f g : BOp) : BOp := fun μ a b => (f μ a b).or (g μ a b)
def gd (c : Prop) [Decidable c] (r : Res) : Option Res := if c then some r else none
theorem gd_some {c : Prop} [Decidable c] {r q : Res} (h : gd c r = some q) : c ∧ r = q := by
  unfold gd at h
  split at h
  · exact ⟨by assumption, Option.some.inj h⟩
  · cases h
theorem gd_ok {c : Prop} [Decidable c] {r : Res} (h : c) : gd c r = some r := if_pos h
/-- an operation of two ints -/
def iiO (C : Int → Int → Prop) [∀ i j, Decidable (C i j)] (g : Int → Int → D) : BOp
  | _, .dat (.int i), .dat (.int j) => gd (C i j) (.dat (g i j))
  | _, _, _ => none
theorem inv_ii {G : Addr → Prop} {α : List Addr} {H : Hp} {x : V} {i : Int} (r : RpV G α H x (.dat (.int i))) : x = .int i := by
  have r : Rp H (off G α) x (.int i) := r
  cases r
  rfl
theorem inv_str {G : Addr → Prop} {α : List Addr} {H : Hp} {x : V} {i : Str} (r : RpV G α H x (.dat (.str i))) : x = .str i := by
  have r : Rp H (off G α) x (.str i) := r
  cases r
  rfl
theorem inv_bl {G : Addr → Prop} {α : List Addr} {H : Hp} {x : V} {i : Bool} (r : RpV G α H x (.dat (.bl i))) : x = .bl i := by
  have r : Rp H (off G α) x (.bl i) := r
  cases r
  rfl
theorem inv_non {G : Addr → Prop} {α : List Addr} {H : Hp} {x : V} (r : RpV G α H x (.dat .non)) : x = .non := by
  have r : Rp H (off G α) x .non := r
  cases r
  rfl
theorem inv_ii_some {C : Int → Int → Prop} [∀ i j, Decidable (C i j)] {g : Int → Int → D} {μ : Sto} {a b : Val} {res : Res} (e : iiO C g μ a b = some res) : ∃ i j, a = .dat (.int i) ∧ b = .dat (.int j) ∧ C i j ∧ res = .dat (g i j) := by
  unfold iiO at e
  split at e
  · obtain ⟨h, rfl⟩ := gd_some e
    exact ⟨_, _, rfl, rfl, h, rfl⟩
  · cases e
theorem opD_ii {C : Int → Int → Prop} [∀ i j, Decidable (C i j)] {g : Int → Int → D} {gv' : Int → Int → V} (hg : ∀ H F i j, Rp H F (gv' i j) (g i j)) : OpD (rI C gv') (iiO C g) := by
  intro Z G α H μ x y a b res Q E S ra rb e w
  obtain ⟨i, j, rfl, rfl, h, rfl⟩ := inv_ii_some e
  exact ⟨i, j, inv_ii ra, inv_ii rb, h, w.pure S (hg _ _ _ _)⟩
theorem opD_ii0 {g : Int → Int → D} {gv' : Int → Int → V} (hg : ∀ H F i j, Rp H F (gv' i j) (g i j)) : OpD (rI0 gv') (iiO (fun _ _ => True) g) := by
  intro Z G α H μ x y a b res Q E S ra rb e w
  obtain ⟨i, j, rfl, rfl, h, rfl⟩ := inv_ii_some e
  exact ⟨i, j, inv_ii ra, inv_ii rb, w.pure S (hg _ _ _ _)⟩
instance (i j : Int) : Decidable (CMul i j) := by unfold CMul; infer_instance
instance (i j : Int) : Decidable (CDiv i j) := by unfold CDiv; infer_instance
instance (i j : Int) : Decidable (CPow i j) := by unfold CPow; infer_instance

def addS : BOp
  | _, .dat (.str x), .dat (.str y) => gd (x.length + y.length ≤ sizeLine) (.dat (.str (x ++ y)))
  | _, _, _ => none
def addT : BOp
  | _, .dat (.tup x), .dat (.tup y) => gd (x.length + y.length ≤ sizeLine) (.dat (.tup (x ++ y)))
  | _, _, _ => none
def addL : BOp := fun μ a b => match rdW μ a, rdW μ b with
  | some x, some y => gd (x.length + y.length ≤ sizeLine) (.new (.lst (x ++ y)))
  | _, _ => none
def opAdd : BOp := orO (iiO (fun _ _ => True) fun i j => .int (i + j)) (orO addS (orO addT addL))
def opSub : BOp := iiO (fun _ _ => True) fun i j => .int (i - j)
/-- a list, a tuple times an int -/
def mulL : BOp := fun μ a b => match rdW μ a, b with
  | some x, .dat (.int k) => gd (-(2 ^ 63) ≤ k ∧ k < 2 ^ 63 ∧ x.length * k.toNat ≤ sizeLine) (.new (.lst (List.replicate k.toNat x).flatten))
  | _, _ => none
/-- great ints -/
def big : Int := 2 ^ 4096
def GMul (i j : Int) : Prop := (-big < i ∧ i < big) ∧ (-big < j ∧ j < big)
def GDiv (_ j : Int) : Prop := 0 < j ∧ j < big
instance (i j : Int) : Decidable (GMul i j) := by unfold GMul; infer_instance
instance (i j : Int) : Decidable (GDiv i j) := by unfold GDiv; infer_instance
theorem big_abs {i : Int} (h : -big < i ∧ i < big) : i.natAbs < 2 ^ 4096 := by
  have e : big = ((2 ^ 4096 : Nat) : Int) := by unfold big; rw [Int.natCast_pow]; rfl
  rw [e] at h
  omega
theorem GMul.w {i j : Int} (h : GMul i j) : CMulW i j := wide_mul (big_abs h.1) (big_abs h.2) (by decide) (by decide) (by decide)
theorem GDiv.w {i j : Int} (h : GDiv i j) : CDivW i j := wide_div h.1 (big_abs ⟨by have := h.1; unfold big; exact Int.lt_trans (by decide +kernel : -(2 : Int) ^ 4096 < 0) this, h.2⟩) (by decide) (by decide)
theorem op_divG {X : Cx} : OpR X (binaryOp .FloorDiv) (rI GDiv fun i j => .int (i / j)) := fun pins s σ H x y v u Q I rx ry ⟨i, j, e1, e2, h, q⟩ => op_fdivW pins s σ H x y v u Q I rx ry ⟨i, j, e1, e2, h.w, q⟩
theorem op_mulG {X : Cx} : OpR X (binaryOp .Mult) (rI GMul fun i j => .int (i * j)) := fun pins s σ H x y v u Q I rx ry ⟨i, j, e1, e2, h, q⟩ => op_mulW pins s σ H x y v u Q I rx ry ⟨i, j, e1, e2, h.w, q⟩
def opMul : BOp := orO (iiO GMul fun i j => .int (i * j)) mulL
def opDiv : BOp := iiO GDiv fun i j => .int (i / j)
def opMod : BOp := iiO (fun _ j => 0 < j) fun i j => .int (i % j)
def opPow : BOp := iiO CPow fun i j => .int (i ^ j.toNat)

section
variable {X : Cx}
theorem oD_addS : OpD (fun x y H Q => ∃ i j, x = .str i ∧ y = .str j ∧ i.length + j.length ≤ sizeLine ∧ Q (.str (i ++ j)) H) addS := by
  intro Z G α H μ x y a b res Q E S ra rb e w
  unfold addS at e
  split at e
  · obtain ⟨h, rfl⟩ := gd_some e
    exact ⟨_, _, inv_str ra, inv_str rb, h, w.pure S (.str _)⟩
  · cases e
theorem oD_addT : OpD (rCatTn X.K) addT := by
  intro Z G α H μ x y a b res Q E S ra rb e w
  unfold addT at e
  split at e
  · rename_i xs ys
    obtain ⟨h, rfl⟩ := gd_some e
    obtain ⟨p, us, rfl, hp, rp⟩ := rdT_ok ra rfl
    obtain ⟨q, vs, rfl, hq, rq⟩ := rdT_ok rb rfl
    have lp := rp.length
    have lq := rq.length
    refine ⟨p, q, us, vs, rfl, rfl, hp.sq, hq.sq, by omega, fun z => ?_, fun _ z => ?_, fun _ _ => w.tup S (rp.append rq)⟩
    · subst z
      have : xs = [] := List.eq_nil_of_length_eq_zero (by simpa using lp.symm)
      subst this
      exact w.pure S rb
    · subst z
      have : ys = [] := List.eq_nil_of_length_eq_zero (by simpa using lq.symm)
      subst this
      rw [List.append_nil] at w
      exact w.pure S ra
  · cases e
theorem oD_addL : OpD rCat addL := by
  intro Z G α H μ x y a b res Q E S ra rb e w
  unfold addL at e
  split at e
  · rename_i xs ys ha hb
    obtain ⟨h, rfl⟩ := gd_some e
    obtain ⟨p, us, rfl, hp, rp⟩ := rdW_ok S ra ha
    obtain ⟨q, vs, rfl, hq, rq⟩ := rdW_ok S rb hb
    have lp := rp.length
    have lq := rq.length
    exact ⟨p, q, us, vs, rfl, rfl, hp, hq, by omega, fun n hn => w.lst S (rp.append rq) hn⟩
  · cases e
theorem rpL_flat {H : Hp} {F : Addr → Prop} {xs : List V} {ds : List D} (r : RpL H F xs ds) : ∀ k : Nat, RpL H F (List.replicate k xs).flatten (List.replicate k ds).flatten
  | 0 => .nil
  | k + 1 => by
    rw [List.replicate_succ, List.replicate_succ, List.flatten_cons, List.flatten_cons]
    exact r.append (rpL_flat r k)
theorem oD_mulL : OpD rRep mulL := by
  intro Z G α H μ x y a b res Q E S ra rb e w
  unfold mulL at e
  split at e
  · rename_i xs k ha
    obtain ⟨⟨h1, h2, h3⟩, rfl⟩ := gd_some e
    obtain ⟨p, us, rfl, hp, rp⟩ := rdW_ok S ra ha
    have lp := rp.length
    exact ⟨p, k, us, rfl, inv_ii rb, hp, h1, h2, by rw [lp]; exact h3, fun n hn => w.lst S (rpL_flat rp _) hn⟩
  · cases e
theorem oR_add : OpR X (binaryOp .Add) (fun x y H Q => (rI0 (fun i j => .int (i + j)) x y H Q) ∨ ((∃ i j, x = .str i ∧ y = .str j ∧ i.length + j.length ≤ sizeLine ∧ Q (.str (i ++ j)) H) ∨ (rCatTn X.K x y H Q ∨ rCat x y H Q))) :=
  op_add.or (op_add_str.or (op_catTn.or op_cat))
theorem oD_add : OpD (fun x y H Q => (rI0 (fun i j => .int (i + j)) x y H Q) ∨ ((∃ i j, x = .str i ∧ y = .str j ∧ i.length + j.length ≤ sizeLine ∧ Q (.str (i ++ j)) H) ∨ (rCatTn X.K x y H Q ∨ rCat x y H Q))) opAdd :=
  (opD_ii0 fun _ _ _ _ => .int _).or (oD_addS.or (oD_addT.or oD_addL))
theorem oD_mul : OpD (fun x y H Q => rI GMul (fun i j => .int (i * j)) x y H Q ∨ rRep x y H Q) opMul := (opD_ii fun _ _ _ _ => .int _).or oD_mulL
variable {Z : Wd} {W : WX} {a b : Expr} {f g : SE} {pos : Pos}
theorem d_add (ha : PE X a (tD Z W f)) (hb : PE X b (tD Z W g)) : PE X (.BinOp a .Add b pos) (tD Z W (sBin opAdd f g)) := d_bin oR_add oD_add ha hb
theorem d_sub (ha : PE X a (tD Z W f)) (hb : PE X b (tD Z W g)) : PE X (.BinOp a .Sub b pos) (tD Z W (sBin opSub f g)) := d_bin op_sub (opD_ii0 fun _ _ _ _ => .int _) ha hb
theorem d_mul (ha : PE X a (tD Z W f)) (hb : PE X b (tD Z W g)) : PE X (.BinOp a .Mult b pos) (tD Z W (sBin opMul f g)) := d_bin (op_mulG.or op_rep) oD_mul ha hb
theorem d_div (ha : PE X a (tD Z W f)) (hb : PE X b (tD Z W g)) : PE X (.BinOp a .FloorDiv b pos) (tD Z W (sBin opDiv f g)) := d_bin op_divG (opD_ii fun _ _ _ _ => .int _) ha hb
theorem d_mod (ha : PE X a (tD Z W f)) (hb : PE X b (tD Z W g)) : PE X (.BinOp a .Mod b pos) (tD Z W (sBin opMod f g)) := d_bin op_mod (opD_ii fun _ _ _ _ => .int _) ha hb
theorem d_pow (ha : PE X a (tD Z W f)) (hb : PE X b (tD Z W g)) : PE X (.BinOp a .Pow b pos) (tD Z W (sBin opPow f g)) := d_bin op_pow (opD_ii fun _ _ _ _ => .int _) ha hb
end

/-! ### comparisons -/
def ssO (g : Str → Str → Bool) : BOp
  | _, .dat (.str x), .dat (.str y) => some (.dat (.bl (g x y)))
  | _, _, _ => none
theorem inv_ss {g : Str → Str → Bool} {μ : Sto} {a b : Val} {res : Res} (e : ssO g μ a b = some res) : ∃ i j, a = .dat (.str i) ∧ b = .dat (.str j) ∧ res = .dat (.bl (g i j)) := by
  unfold ssO at e
  split at e
  · cases e; exact ⟨_, _, rfl, rfl, rfl⟩
  · cases e
theorem oD_ss {g : Str → Str → Bool} : OpD (fun x y H Q => ∃ i j, x = .str i ∧ y = .str j ∧ Q (.bl (g i j)) H) (ssO g) := by
  intro Z G α H μ x y a b res Q E S ra rb e w
  obtain ⟨i, j, rfl, rfl, rfl⟩ := inv_ss e
  exact ⟨i, j, inv_str ra, inv_str rb, w.pure S (.bl _)⟩
def opLt : BOp := orO (iiO (fun _ _ => True) fun i j => .bl (decide (i < j))) (ssO fun i j => decide (i.cps.toList < j.cps.toList))
def opLe : BOp := iiO (fun _ _ => True) fun i j => .bl (decide (i ≤ j))
def opGt : BOp := iiO (fun _ _ => True) fun i j => .bl (decide (j < i))
def opGe : BOp := iiO (fun _ _ => True) fun i j => .bl (decide (j ≤ i))
/-- data as the library's data -/
def D.py : Nat → D → Option PyData
  | _, .non => some .none
  | _, .bl b => some (.bool b)
  | _, .int i => some (.int i)
  | _, .str x => if PyData.strOk x then some (.str x) else none
  | n + 1, .tup ds => (ds.mapM (D.py n)).map .tuple
  | n + 1, .lst ds => (ds.mapM (D.py n)).map .list
  | _, _ => none
def eqData (neg : Bool) : BOp := fun μ a b => match toD μ a, toD μ b with
  | some x, some y => match D.py 30 x, D.py 30 y with
    | some p, some q => some (.dat (.bl (if neg then !PyData.eqv p q else PyData.eqv p q)))
    | _, _ => none
  | _, _ => none
def opEq : BOp := orO (ssO fun i j => decide (i = j)) (eqData false)
def opNe : BOp := orO (ssO fun i j => !decide (i = j)) (eqData true)
section
variable {K : PySem.W.Frag} {H : Hp} {F : Addr → Prop}
theorem mapM_cons_some {n : Nat} {d : D} {ds : List D} {ps : List PyData} (h : (d :: ds).mapM (D.py n) = some ps) : ∃ p qs, ps = p :: qs ∧ D.py n d = some p ∧ ds.mapM (D.py n) = some qs := by
  rw [List.mapM_cons] at h
  cases h1 : D.py n d with
  | none => rw [h1] at h; simp at h
  | some p =>
    rw [h1] at h
    cases h2 : ds.mapM (D.py n) with
    | none => rw [h2] at h; simp at h
    | some qs => rw [h2] at h; simp at h; exact ⟨p, qs, h.symm, rfl, rfl⟩
theorem dpL {n : Nat} (ih : ∀ (v : V) (d : D) (p : PyData), Rp H F v d → D.py n d = some p → Dp K H v p ∧ p.canLay0 = true ∧ p.depth ≤ n) :
    ∀ (xs : List V) (ds : List D) (ps : List PyData), RpL H F xs ds → ds.mapM (D.py n) = some ps → DpAll K H xs ps ∧ PyData.canLayAll0 ps = true ∧ PyData.depthAll ps ≤ n
  | _, _, ps, .nil, h => by
    simp at h; subst h
    exact ⟨.nil, rfl, Nat.zero_le _⟩
  | _, _, ps, .cons r l, h => by
    obtain ⟨p, qs, rfl, h1, h2⟩ := mapM_cons_some h
    obtain ⟨a1, a2, a3⟩ := ih _ _ _ r h1
    obtain ⟨b1, b2, b3⟩ := dpL ih _ _ _ l h2
    exact ⟨.cons a1 b1, by simp [PyData.canLayAll0, a2, b2], by simp only [PyData.depthAll]; omega⟩
theorem dp_of : ∀ (n : Nat) (v : V) (d : D) (p : PyData), Rp H F v d → D.py n d = some p → Dp K H v p ∧ p.canLay0 = true ∧ p.depth ≤ n := by
  intro n
  induction n with
  | zero =>
    intro v d p r h
    cases r with
    | non => simp [D.py] at h; subst h; exact ⟨.non, rfl, Nat.zero_le _⟩
    | bl b => simp [D.py] at h; subst h; exact ⟨.bl b, rfl, Nat.zero_le _⟩
    | int i => simp [D.py] at h; subst h; exact ⟨.int i, rfl, Nat.zero_le _⟩
    | str x => simp only [D.py] at h; split at h <;> simp at h; subst h; exact ⟨.str x, by simp [PyData.canLay0]; assumption, Nat.zero_le _⟩
    | _ => simp [D.py] at h
  | succ n ih =>
    intro v d p r h
    cases r with
    | non => simp [D.py] at h; subst h; exact ⟨.non, rfl, Nat.zero_le _⟩
    | bl b => simp [D.py] at h; subst h; exact ⟨.bl b, rfl, Nat.zero_le _⟩
    | int i => simp [D.py] at h; subst h; exact ⟨.int i, rfl, Nat.zero_le _⟩
    | str x => simp only [D.py] at h; split at h <;> simp at h; subst h; exact ⟨.str x, by simp [PyData.canLay0]; assumption, Nat.zero_le _⟩
    | tup e f l =>
      simp only [D.py] at h
      obtain ⟨ps, h1, rfl⟩ := Option.map_eq_some_iff.mp h
      obtain ⟨b1, b2, b3⟩ := dpL ih _ _ _ l h1
      exact ⟨.tup e.sq b1, by simpa [PyData.canLay0] using b2, by simp only [PyData.depth]; omega⟩
    | lst e f l =>
      simp only [D.py] at h
      obtain ⟨ps, h1, rfl⟩ := Option.map_eq_some_iff.mp h
      obtain ⟨b1, b2, b3⟩ := dpL ih _ _ _ l h1
      exact ⟨.lst (.inl (.inl e)) b1, by simpa [PyData.canLay0] using b2, by simp only [PyData.depth]; omega⟩
    | _ => simp [D.py] at h
theorem shaped_of {n : Nat} {p : PyData} (h1 : p.canLay0 = true) (h2 : p.depth ≤ n) (hn : n ≤ 64) : SeqAt.shaped p = true := by
  unfold SeqAt.shaped
  rw [h1, Bool.true_and, decide_eq_true_eq]
  omega
end
section
variable {X : Cx}
theorem oD_eqData {neg : Bool} : OpD (fun x y H Q => ∃ d e, Dp X.K H x d ∧ Dp X.K H y e ∧ SeqAt.shaped d = true ∧ SeqAt.shaped e = true ∧ Q (.bl (if neg then !PyData.eqv d e else PyData.eqv d e)) H) (eqData neg) := by
  intro Z G α H μ x y a b res Q E S ra rb e w
  unfold eqData at e
  split at e
  · rename_i da db ha hb
    split at e
    · rename_i p q hp hq
      cases e
      obtain ⟨a1, a2, a3⟩ := dp_of (K := X.K) 30 _ _ _ (toD_ok S ra ha) hp
      obtain ⟨b1, b2, b3⟩ := dp_of (K := X.K) 30 _ _ _ (toD_ok S rb hb) hq
      exact ⟨p, q, a1, b1, shaped_of a2 a3 (by decide), shaped_of b2 b3 (by decide), w.pure S (.bl _)⟩
    · cases e
  · cases e
theorem oR_eqStr : OpR X (compareOp .Eq) (fun x y H Q => ∃ i j, x = .str i ∧ y = .str j ∧ Q (.bl (decide (i = j))) H) := by
  intro pins s σ H x y v u Q I rx ry ⟨i, j, h1, h2, q⟩
  subst h1 h2
  refine op_eq pins s σ H _ _ v u Q I rx ry ⟨rfl, ?_⟩
  rw [show decide (V.str i = V.str j) = decide (i = j) by simp]
  exact q
theorem oR_neStr : OpR X (compareOp .NotEq) (fun x y H Q => ∃ i j, x = .str i ∧ y = .str j ∧ Q (.bl (!decide (i = j))) H) := by
  intro pins s σ H x y v u Q I rx ry ⟨i, j, h1, h2, q⟩
  subst h1 h2
  refine op_ne pins s σ H _ _ v u Q I rx ry ⟨rfl, ?_⟩
  rw [show decide (V.str i = V.str j) = decide (i = j) by simp]
  exact q
theorem oR_eq (hu : X.A.units + 64 < cLine) : OpR X (compareOp .Eq) (fun x y H Q => (∃ i j, x = .str i ∧ y = .str j ∧ Q (.bl (decide (i = j))) H) ∨ (∃ d e, Dp X.K H x d ∧ Dp X.K H y e ∧ SeqAt.shaped d = true ∧ SeqAt.shaped e = true ∧ Q (.bl (if false = true then !PyData.eqv d e else PyData.eqv d e)) H)) :=
  oR_eqStr.or (op_eqD hu)
theorem oR_ne (hu : X.A.units + 64 < cLine) : OpR X (compareOp .NotEq) (fun x y H Q => (∃ i j, x = .str i ∧ y = .str j ∧ Q (.bl (!decide (i = j))) H) ∨ (∃ d e, Dp X.K H x d ∧ Dp X.K H y e ∧ SeqAt.shaped d = true ∧ SeqAt.shaped e = true ∧ Q (.bl (if true = true then !PyData.eqv d e else PyData.eqv d e)) H)) :=
  oR_neStr.or (op_neD hu)
theorem oD_eq : OpD (fun x y H Q => (∃ i j, x = .str i ∧ y = .str j ∧ Q (.bl (decide (i = j))) H) ∨ (∃ d e, Dp X.K H x d ∧ Dp X.K H y e ∧ SeqAt.shaped d = true ∧ SeqAt.shaped e = true ∧ Q (.bl (if false = true then !PyData.eqv d e else PyData.eqv d e)) H)) opEq := OpD.or oD_ss oD_eqData
theorem oD_ne : OpD (fun x y H Q => (∃ i j, x = .str i ∧ y = .str j ∧ Q (.bl (!decide (i = j))) H) ∨ (∃ d e, Dp X.K H x d ∧ Dp X.K H y e ∧ SeqAt.shaped d = true ∧ SeqAt.shaped e = true ∧ Q (.bl (if true = true then !PyData.eqv d e else PyData.eqv d e)) H)) opNe := OpD.or oD_ss oD_eqData
variable {Z : Wd} {W : WX} {a b : Expr} {f g : SE} {pos : Pos} {k : Nat}
theorem hu64 (hr : Room k X.A) : X.A.units + 64 < cLine := by have := hr.un; omega
/-- a comparison's operator: what the layer has for it -/
structure CmpR (X : Cx) (op : CmpOp) (o : BOp) : Prop where
  ex : ∃ r, OpR X (compareOp op) r ∧ OpD r o
theorem cLt : CmpR X .Lt opLt := ⟨_, op_lt.or op_lt_str, OpD.or (opD_ii0 fun _ _ _ _ => .bl _) oD_ss⟩
theorem cLe : CmpR X .LtE opLe := ⟨_, op_le, opD_ii0 fun _ _ _ _ => .bl _⟩
theorem cGt : CmpR X .Gt opGt := ⟨_, op_gt, opD_ii0 fun _ _ _ _ => .bl _⟩
theorem cGe : CmpR X .GtE opGe := ⟨_, op_ge, opD_ii0 fun _ _ _ _ => .bl _⟩
theorem cEq (hr : Room k X.A) : CmpR X .Eq opEq := ⟨_, oR_eq (hu64 hr), oD_eq⟩
theorem cNe (hr : Room k X.A) : CmpR X .NotEq opNe := ⟨_, oR_ne (hu64 hr), oD_ne⟩
def D.isNon : D → Bool
  | .non => true
  | _ => false
def isN (neg : Bool) : BOp
  | _, .dat d, .dat .non => some (.dat (.bl (if neg then !d.isNon else d.isNon)))
  | _, .loc _, .dat .non => some (.dat (.bl neg))
  | _, _, _ => none
theorem isN_eq {neg : Bool} {H : Hp} {F : Addr → Prop} {x : V} {d : D} (r : Rp H F x d) : (if neg = true then !decide (x = .non) else decide (x = .non)) = (if neg = true then !d.isNon else d.isNon) := by
  cases r <;> cases neg <;> rfl
theorem oD_isN {neg : Bool} : OpD (fun x y H Q => y = .non ∧ Q (.bl (if neg then !decide (x = .non) else decide (x = .non))) H) (isN neg) := by
  intro Z G α H μ x y a b res Q E S ra rb e w
  unfold isN at e
  split at e
  · cases e
    refine ⟨inv_non rb, ?_⟩
    rw [isN_eq ra]
    exact w.pure S (.bl _)
  · cases e
    obtain ⟨p, _, rfl⟩ := ra
    refine ⟨inv_non rb, ?_⟩
    have e : (if neg = true then !decide (V.ref p = V.non) else decide (V.ref p = V.non)) = neg := by cases neg <;> rfl
    rw [e]
    exact w.pure S (.bl _)
  · cases e
/-- is True, is False: of two bools -/
def isB (neg : Bool) : BOp
  | _, .dat (.bl b), .dat (.bl c) => some (.dat (.bl (if neg then b != c else b == c)))
  | _, _, _ => none
theorem d_cmp1 {op : CmpOp} {o : BOp} (c : CmpR X op o) (ha : PE X a (tD Z W f)) (hb : PE X b (tD Z W g)) (hm : behindInMarks op b = false := by first | exact nomark _ | rfl) : PE X (.Compare a [op] [b] pos) (tD Z W (sBin o f g)) := by
  obtain ⟨r, h1, h2⟩ := c.ex
  exact d_cmp h1 h2 ha hb hm
theorem cIs : CmpR X .Is (isN false) := ⟨_, op_isN, oD_isN⟩
theorem cIsNot : CmpR X .IsNot (isN true) := ⟨_, op_notN, oD_isN⟩
/-- a op b op' c -/
def sChain (o o' : BOp) (f g h : SE) : SE := fun ρ μ => opd (f ρ μ) fun a μ1 => opd (g ρ μ1) fun b μ2 => match o μ2 a b with
  | some (.dat (.bl true)) => opd (h ρ μ2) fun c μ3 => outO (o' μ3 b c) μ3
  | some (.dat (.bl false)) => .ok (.dat (.bl false)) μ2
  | _ => .stuck
theorem bl_of {Z : Wd} {G : Addr → Prop} {α α1 : List Addr} {H H1 : Hp} {μ1 : Sto} {z : V} {k : Bool} (r : Rp H1 (off G α1) z (.bl k)) : z = .bl k := by cases r; rfl
theorem t_chain {r r' : R2} {o o' : BOp} {h : SE} (h2 : OpD r o) (h2' : OpD r' o') : ∀ σ H Q, tD Z W (sChain o o' f g h) σ H Q → tChain r r' (tD Z W f) (tD Z W g) (tD Z W h) σ H Q := by
  rintro σ H Q ⟨G, α, ρ, μ, S, E, w⟩
  refine ⟨G, α, ρ, μ, S, E, wE.opd w fun x H1 α1 μ1 va p1 S1 ra w1 => ?_⟩
  refine ⟨G, α1, ρ, μ1, S1, E.post p1, wE.opd w1 fun y H2 α2 μ2 vb p2 S2 rb w2 => ?_⟩
  have ra2 := ra.post p2
  have E2 := (E.post p1).post p2
  cases e : o μ2 va vb with
  | none => simp only [e] at w2; exact w2.elim
  | some res =>
    cases res with
    | loc k => simp only [e] at w2; exact w2.elim
    | new k => simp only [e] at w2; exact w2.elim
    | dat d =>
      cases d with
      | bl k =>
        refine h2 Z G α2 H2 μ2 x y va vb (.dat (.bl k)) _ (fun _ _ _ => False) S2 ra2 rb e ?_
        intro z H3 α3 p3 S3 r3
        cases r3
        refine ⟨k, rfl, ?_⟩
        cases k with
        | true =>
          rw [if_pos rfl]
          simp only [e] at w2
          refine ⟨G, α3, ρ, μ2, S3, E2.post p3, wE.opd (wE.post p3 w2) fun u H4 α4 μ4 vc p4 S4 rc w4 => ?_⟩
          exact h2'.out S4 ((rb.post p3).post p4) rc w4
        | false =>
          rw [if_neg Bool.false_ne_true]
          simp only [e] at w2
          exact w2 _ H3 α3 p3 S3 (.bl false)
      | _ => simp only [e] at w2; exact w2.elim
theorem d_chain {op op' : CmpOp} {o o' : BOp} {c : Expr} {h : SE} (c1 : CmpR X op o) (c2 : CmpR X op' o') (ha : PE X a (tD Z W f)) (hb : PE X b (tD Z W g)) (hc : PE X c (tD Z W h)) (hm : lastMarks [op, op'] [b, c] = false := by with_unfolding_all rfl) :
    PE X (.Compare a [op, op'] [b, c] pos) (tD Z W (sChain o o' f g h)) := by
  obtain ⟨r, h1, h2⟩ := c1.ex
  obtain ⟨r', h1', h2'⟩ := c2.ex
  exact PEimp (pe_chain h1 h1' ha hb hc hm) (t_chain h2 h2')
end
end Sx

/-! SxExp: tests, and, or, not, displays, calls by values, subscripts. -/
namespace Sx
open PySem L2

/-! ### tests -/
section
variable {X : Cx} {Z : Wd} {W : WX} {a b c : Expr} {rest : List Expr} {f g h : SE} {pos : Pos}
/-- a test's reading -/
abbrev tB (Z : Wd) (W : WX) (f : SE) : TT := tTest (tD Z W f)
theorem b_cmp {op : CmpOp} {o : BOp} (c : CmpR X op o) (ha : PE X a (tD Z W f)) (hb : PE X b (tD Z W g)) (hm : behindInMarks op b = false := by first | exact nomark _ | rfl) : PT X (.Compare a [op] [b] pos) (tB Z W (sBin o f g)) := by
  obtain ⟨r, h1, h2⟩ := c.ex
  exact PTimp (pt_cmpR h1 ha hb hm) fun σ H Q q => tOp_of h2 σ H _ q
theorem b_chain {op op' : CmpOp} {o o' : BOp} (c1 : CmpR X op o) (c2 : CmpR X op' o') (ha : PE X a (tD Z W f)) (hb : PE X b (tD Z W g)) (hc : PE X c (tD Z W h)) (hm : lastMarks [op, op'] [b, c] = false := by with_unfolding_all rfl) :
    PT X (.Compare a [op, op'] [b, c] pos) (tB Z W (sChain o o' f g h)) := by
  obtain ⟨r, h1, h2⟩ := c1.ex
  obtain ⟨r', h1', h2'⟩ := c2.ex
  exact PTimp (pt_chain h1 h1' ha hb hc hm) fun σ H Q q => t_chain h2 h2' σ H _ q
/-- an expression that gives True or False -/
theorem b_val {e : Expr} (h : PE X e (tD Z W f)) (he : ∀ whole, isTrue e X.env whole = (do let v ← whole; standAt e.pos; holding [v] (truthy v)) := by intro _; rfl) : PT X e (tB Z W f) := pt_val h he
/-- truth of any value -/
def truD (μ : Sto) : Val → Option Bool
  | .dat .non => some false
  | .dat (.bl b) => some b
  | .dat (.int i) => some (i != 0)
  | .dat (.str y) => if y.length ≤ sizeLine then some ((y.length : Int) != 0) else none
  | .dat (.tup ds) => some (!ds.isEmpty)
  | .dat (.lst ds) => some (!ds.isEmpty)
  | .loc k => match μ[k]? with
    | some (.lst ds) => some (!ds.isEmpty)
    | some (.dic ds) => some (!ds.isEmpty)
    | _ => none
  | _ => none
theorem rpL_empty {H : Hp} {F : Addr → Prop} {xs : List V} {ds : List D} (r : RpL H F xs ds) : xs.isEmpty = ds.isEmpty := by cases r <;> rfl
theorem rpK_empty {H : Hp} {F : Addr → Prop} {xs : List (Key × V)} {ds : List (Key × D)} (r : RpK H F xs ds) : xs.isEmpty = ds.isEmpty := by cases r <;> rfl
theorem truD_ok {K : PySem.W.Frag} {G : Addr → Prop} {α : List Addr} {H : Hp} {μ : Sto} {x : V} {v : Val} {k : Bool} (S : RepS Z G α H μ) (r : RpV G α H x v) (e : truD μ v = some k) : TruV K x H k := by
  cases v with
  | dat d =>
    have r : Rp H (off G α) x d := r
    cases r <;> simp only [truD, Option.some.injEq, reduceCtorEq] at e
    · exact e.symm
    · exact e.symm
    · exact e.symm
    · split at e
      · exact ⟨by assumption, (Option.some.inj e).symm⟩
      · cases e
    · rename_i hh _ rl; exact .inr (.inl ⟨_, hh.sq, by rw [rpL_empty rl]; exact e.symm⟩)
    · rename_i hh _ rl; exact .inl ⟨_, .inl (.inl hh), by rw [rpL_empty rl]; exact e.symm⟩
  | loc n =>
    simp only [truD] at e
    split at e
    · rename_i ds hm
      obtain ⟨p, rfl, ⟨xs, h1, h2⟩, _⟩ := loc_at S r hm
      exact .inl ⟨_, .inl (.inl h1), by rw [rpL_empty h2]; exact (Option.some.inj e).symm⟩
    · rename_i ds hm
      obtain ⟨p, rfl, ⟨xs, h1, h2⟩, _⟩ := loc_at S r hm
      exact .inr (.inr ⟨_, h1, by rw [rpK_empty h2]; exact (Option.some.inj e).symm⟩)
    · cases e
def sTru (f : SE) : SE := fun ρ μ => opd (f ρ μ) fun v μ1 => match truD μ1 v with
  | some k => .ok (.dat (.bl k)) μ1
  | none => .stuck
theorem b_tru {e : Expr} (h : PE X e (tD Z W f)) (he : ∀ whole, isTrue e X.env whole = (do let v ← whole; standAt e.pos; holding [v] (truthy v)) := by intro _; rfl) : PT X e (tB Z W (sTru f)) := by
  refine PTimp (pt_truth h he) ?_
  rintro σ H Q ⟨G, α, ρ, μ, S, E, w⟩
  refine ⟨G, α, ρ, μ, S, E, wE.opd w fun x H1 α1 μ1 v p1 S1 r1 w1 => ?_⟩
  cases e1 : truD μ1 v with
  | none => simp only [e1] at w1; exact w1.elim
  | some k =>
    simp only [e1] at w1
    obtain ⟨k', e, q⟩ := w1.pure S1 (.bl k)
    cases e
    exact ⟨k, truD_ok S1 r1 e1, q⟩
/-! ### and, or, not, if -/
def onB {τ : Type} (v : Val) (t f : Out τ) : Out τ := match v with
  | .dat (.bl true) => t
  | .dat (.bl false) => f
  | _ => .stuck
def sAnd (f g : SE) : SE := fun ρ μ => opd (f ρ μ) fun v μ1 => onB v (g ρ μ1) (.ok (.dat (.bl false)) μ1)
def sOr (f g : SE) : SE := fun ρ μ => opd (f ρ μ) fun v μ1 => onB v (.ok (.dat (.bl true)) μ1) (g ρ μ1)
def sNot (f : SE) : SE := fun ρ μ => opd (f ρ μ) fun v μ1 => onB v (.ok (.dat (.bl false)) μ1) (.ok (.dat (.bl true)) μ1)
def sIf (c f g : SE) : SE := fun ρ μ => opd (c ρ μ) fun v μ1 => onB v (f ρ μ1) (g ρ μ1)
/-- a truth value has come -/
theorem want_bool {G : Addr → Prop} {α : List Addr} {H : Hp} {o : Out Res} {kt kf : Sto → Out Res} {Q Q1 : VK} {E : XK}
    (w : wE Z G α H (opd o fun v μ1 => onB v (kt μ1) (kf μ1)) Q E)
    (hq : ∀ b H1 α1 μ1, Post α H α1 H1 → RepS Z G α1 H1 μ1 → wE Z G α1 H1 (if b = true then kt μ1 else kf μ1) Q E → Q1 (.bl b) H1) : wE Z G α H o Q1 E := by
  refine wE.opd w fun x H1 α1 μ1 v p1 S1 r1 w1 => ?_
  cases v with
  | loc k => exact w1.elim
  | dat d =>
    cases d with
    | bl b =>
      rw [inv_bl r1]
      cases b with
      | true => exact hq true H1 α1 μ1 p1 S1 w1
      | false => exact hq false H1 α1 μ1 p1 S1 w1
    | _ => exact w1.elim
theorem t_and : ∀ σ H Q, tB Z W (sAnd f g) σ H Q → tAnd (tB Z W f) (tB Z W g) σ H Q := by
  rintro σ H Q ⟨G, α, ρ, μ, S, E, w⟩
  refine ⟨G, α, ρ, μ, S, E, want_bool w fun b H1 α1 μ1 p1 S1 w1 => ⟨b, rfl, ?_⟩⟩
  cases b with
  | true => exact ⟨G, α1, ρ, μ1, S1, E.post p1, w1⟩
  | false =>
    obtain ⟨k, e, q⟩ := w1.pure S1 (.bl false)
    cases e
    exact q
theorem t_or : ∀ σ H Q, tB Z W (sOr f g) σ H Q → tOr (tB Z W f) (tB Z W g) σ H Q := by
  rintro σ H Q ⟨G, α, ρ, μ, S, E, w⟩
  refine ⟨G, α, ρ, μ, S, E, want_bool w fun b H1 α1 μ1 p1 S1 w1 => ⟨b, rfl, ?_⟩⟩
  cases b with
  | false => exact ⟨G, α1, ρ, μ1, S1, E.post p1, w1⟩
  | true =>
    obtain ⟨k, e, q⟩ := w1.pure S1 (.bl true)
    cases e
    exact q
theorem b_and (ha : PT X a (tB Z W f)) (hb : PW X (.BoolOp .And (b :: rest) pos) (tB Z W g)) : PW X (.BoolOp .And (a :: b :: rest) pos) (tB Z W (sAnd f g)) :=
  ⟨fun wh pins s σ H Q I h => (pw_and ha hb).run wh pins s σ H Q I (t_and σ H Q h)⟩
theorem b_or (ha : PT X a (tB Z W f)) (hb : PW X (.BoolOp .Or (b :: rest) pos) (tB Z W g)) : PW X (.BoolOp .Or (a :: b :: rest) pos) (tB Z W (sOr f g)) :=
  ⟨fun wh pins s σ H Q I h => (pw_or ha hb).run wh pins s σ H Q I (t_or σ H Q h)⟩
theorem b_not (ha : PT X a (tB Z W f)) : PT X (.UnaryOp .Not a pos) (tB Z W (sNot f)) := by
  refine PTimp (pt_not ha) ?_
  rintro σ H Q ⟨G, α, ρ, μ, S, E, w⟩
  refine ⟨G, α, ρ, μ, S, E, want_bool w fun b H1 α1 μ1 p1 S1 w1 => ⟨b, rfl, ?_⟩⟩
  cases b with
  | true =>
    obtain ⟨k, e, q⟩ := w1.pure S1 (.bl false)
    cases e
    exact q
  | false =>
    obtain ⟨k, e, q⟩ := w1.pure S1 (.bl true)
    cases e
    exact q
/-- the same as values -/
theorem d_and (ha : PE X a (tD Z W f)) (hb : PE X (.BoolOp .And (b :: rest) pos) (tD Z W g)) : PE X (.BoolOp .And (a :: b :: rest) pos) (tD Z W (sAnd f g)) := by
  refine PEimp (pe_and ha hb) ?_
  rintro σ H Q ⟨G, α, ρ, μ, S, E, w⟩
  refine ⟨G, α, ρ, μ, S, E, want_bool w fun b H1 α1 μ1 p1 S1 w1 => ⟨b, rfl, ?_⟩⟩
  cases b with
  | true => exact ⟨G, α1, ρ, μ1, S1, E.post p1, w1⟩
  | false => exact w1.pure S1 (.bl false)
theorem d_or (ha : PE X a (tD Z W f)) (hb : PE X (.BoolOp .Or (b :: rest) pos) (tD Z W g)) : PE X (.BoolOp .Or (a :: b :: rest) pos) (tD Z W (sOr f g)) := by
  refine PEimp (pe_or ha hb) ?_
  rintro σ H Q ⟨G, α, ρ, μ, S, E, w⟩
  refine ⟨G, α, ρ, μ, S, E, want_bool w fun b H1 α1 μ1 p1 S1 w1 => ⟨b, rfl, ?_⟩⟩
  cases b with
  | false => exact ⟨G, α1, ρ, μ1, S1, E.post p1, w1⟩
  | true => exact w1.pure S1 (.bl true)
theorem d_not (ha : PE X a (tD Z W f)) : PE X (.UnaryOp .Not a pos) (tD Z W (sNot f)) := by
  refine PEimp (pe_not ha) ?_
  rintro σ H Q ⟨G, α, ρ, μ, S, E, w⟩
  refine ⟨G, α, ρ, μ, S, E, want_bool w fun b H1 α1 μ1 p1 S1 w1 => ⟨b, rfl, ?_⟩⟩
  cases b with
  | true => exact w1.pure S1 (.bl false)
  | false => exact w1.pure S1 (.bl true)
/-- x or y by truth -/
def sOrT (f g : SE) : SE := fun ρ μ => opd (f ρ μ) fun v μ1 => match truD μ1 v with
  | some true => .ok v.res μ1
  | some false => g ρ μ1
  | none => .stuck
theorem d_orT (ha : PE X a (tD Z W f)) (hb : PE X (.BoolOp .Or (b :: rest) pos) (tD Z W g)) : PE X (.BoolOp .Or (a :: b :: rest) pos) (tD Z W (sOrT f g)) := by
  refine PEimp (pe_orT ha hb) ?_
  rintro σ H Q ⟨G, α, ρ, μ, S, E, w⟩
  refine ⟨G, α, ρ, μ, S, E, wE.opd w fun x H1 α1 μ1 v p1 S1 r1 w1 => ?_⟩
  cases e1 : truD μ1 v with
  | none => simp only [e1] at w1; exact w1.elim
  | some k =>
    simp only [e1] at w1
    refine ⟨k, truD_ok S1 r1 e1, ?_⟩
    cases k with
    | false => exact ⟨G, α1, ρ, μ1, S1, E.post p1, w1⟩
    | true =>
      cases v with
      | dat d => exact w1.pure S1 r1
      | loc n =>
        obtain ⟨q, hq, rfl⟩ := r1
        exact w1 q H1 α1 Post.refl S1 hq
theorem d_one {op} (h : PE X a (tD Z W f)) : PE X (.BoolOp op [a] pos) (tD Z W f) := pe_one h
theorem d_if (hc : PT X c (tB Z W h)) (ha : PE X a (tD Z W f)) (hb : PE X b (tD Z W g)) : PE X (.IfExp c a b pos) (tD Z W (sIf h f g)) := by
  refine PEimp (pe_ifExp hc ha hb) ?_
  rintro σ H Q ⟨G, α, ρ, μ, S, E, w⟩
  refine ⟨G, α, ρ, μ, S, E, want_bool w fun b H1 α1 μ1 p1 S1 w1 => ⟨b, rfl, ?_⟩⟩
  cases b with
  | true => exact ⟨G, α1, ρ, μ1, S1, E.post p1, w1⟩
  | false => exact ⟨G, α1, ρ, μ1, S1, E.post p1, w1⟩
end
end Sx

/-! SxArg: argument lists, displays, built-ins by values, subscripts, slices. -/
namespace Sx
open PySem L2

/-! ### argument lists -/
abbrev RpVs (G : Addr → Prop) (α : List Addr) (H : Hp) : List V → List Val → Prop := Paired (RpV G α H)
theorem RpVs.post {G : Addr → Prop} {α α1 : List Addr} {H H1 : Hp} (p : Post α H α1 H1) : ∀ {vs : List V} {as : List Val}, RpVs G α H vs as → RpVs G α1 H1 vs as
  | _, _, .nil => .nil
  | _, _, .cons r t => .cons (r.post p) (RpVs.post p t)
def sArgs : List SE → SL
  | [] => fun _ μ => .ok [] μ
  | f :: fs => fun ρ μ => opd (f ρ μ) fun a μ1 => match sArgs fs ρ μ1 with
    | .ok as μ2 => .ok (a :: as) μ2
    | .exc x μ2 => .exc x μ2
    | .stuck => .stuck
def wA (Z : Wd) (G : Addr → Prop) (α : List Addr) (H : Hp) (o : Out (List Val)) (Q : List V → Hp → Prop) (E : XK) : Prop := match o with
  | .stuck => False
  | .ok as μ' => ∀ vs H' α', Post α H α' H' → RepS Z G α' H' μ' → RpVs G α' H' vs as → Q vs H'
  | .exc x μ' => ∀ cls dd H' α', Post α H α' H' → RepS Z G α' H' μ' → RepX Z (off G α') x cls dd H' → E cls dd H'
def tA (Z : Wd) (W : WX) (f : SL) : TA := fun σ H Q => ∃ G α ρ μ, RepS Z G α H μ ∧ RepE G α H σ ρ ∧ wA Z G α H (f ρ μ) Q fun c d H' => W c d σ H'
section
variable {Z : Wd} {G : Addr → Prop} {α α1 : List Addr} {H H1 : Hp} {μ μ1 : Sto} {E : XK} {W : WX}
theorem wA.post {o : Out (List Val)} {Q : List V → Hp → Prop} (p : Post α H α1 H1) (h : wA Z G α H o Q E) : wA Z G α1 H1 o Q E := by
  cases o with
  | stuck => exact h
  | exc x μ' => exact fun c d H' α' q s r => h c d H' α' (p.trans q) s r
  | ok r μ' => exact fun v H' α' q s r => h v H' α' (p.trans q) s r
theorem wA.opd {o : Out Res} {k : Val → Sto → Out (List Val)} {Q : List V → Hp → Prop} {Q1 : VK} (h : wA Z G α H (opd o k) Q E)
    (hq : ∀ v H1 α1 μ1 val, Post α H α1 H1 → RepS Z G α1 H1 μ1 → RpV G α1 H1 v val → wA Z G α1 H1 (k val μ1) Q E → Q1 v H1) : wE Z G α H o Q1 E := by
  cases o with
  | stuck => exact h
  | exc x μ' => exact h
  | ok r μ' =>
    cases r with
    | dat d => exact fun v H' α' p s r => hq v H' α' μ' (.dat d) p s r (wA.post p h)
    | loc k => exact fun a H' α' p s r => hq _ H' α' μ' (.loc k) p s ⟨a, r, rfl⟩ (wA.post p h)
    | new c => exact fun q H' α' p n s => hq _ H' α' μ' (.dat c.frz) p s.freeze.1 s.freeze.2 (wA.post p h)
variable {X : Cx} {e : Expr} {es : List Expr} {f : SE} {fs : List SE} {pos : Pos}
theorem a_nil : PA X [] (tA Z W (sArgs [])) := PAimp pa_nil fun σ H Q ⟨G, α, ρ, μ, S, E, w⟩ => w [] H α Post.refl S .nil
theorem a_cons (ha : PE X e (tD Z W f)) (hr : PA X es (tA Z W (sArgs fs))) (hs : starEach (e :: es) X.env = (false, eval e X.env) :: starEach es X.env := by rfl) : PA X (e :: es) (tA Z W (sArgs (f :: fs))) := by
  refine PAimp (pa_cons ha hr hs) ?_
  rintro σ H Q ⟨G, α, ρ, μ, S, E, w⟩
  simp only [sArgs] at w
  refine ⟨G, α, ρ, μ, S, E, wA.opd w fun x H1 α1 μ1 a p1 S1 r1 w1 => ?_⟩
  refine ⟨G, α1, ρ, μ1, S1, E.post p1, ?_⟩
  cases h : sArgs fs ρ μ1 with
  | stuck => simp only [h] at w1; exact w1.elim
  | exc x μ2 => simp only [h] at w1; exact w1
  | ok as μ2 =>
    simp only [h] at w1
    exact fun vs H2 α2 p2 S2 r2 => w1 _ H2 α2 p2 S2 (.cons (r1.post p2) r2)
end

/-! ### displays -/
/-- all data -/
def dats : List Val → Option (List D)
  | [] => some []
  | .dat d :: as => (dats as).map (d :: ·)
  | .loc _ :: _ => none
theorem dats_ok {G : Addr → Prop} {α : List Addr} {H : Hp} : ∀ {as : List Val} {ds : List D} {vs : List V}, dats as = some ds → RpVs G α H vs as → RpL H (off G α) vs ds
  | [], ds, _, e, .nil => by simp [dats] at e; subst e; exact .nil
  | .dat d :: as, ds, _, e, .cons r t => by
    simp only [dats] at e
    obtain ⟨zs, h, rfl⟩ := Option.map_eq_some_iff.mp e
    exact .cons r (dats_ok h t)
  | .loc _ :: _, _, _, e, _ => by simp [dats] at e
def sTup (fs : List SE) : SE := fun ρ μ => match sArgs fs ρ μ with
  | .ok as μ1 => match dats as with
    | some ds => .ok (.dat (.tup ds)) μ1
    | none => .stuck
  | .exc x μ1 => .exc x μ1
  | .stuck => .stuck
def sLst (fs : List SE) : SE := fun ρ μ => match sArgs fs ρ μ with
  | .ok as μ1 => match dats as with
    | some ds => .ok (.new (.lst ds)) μ1
    | none => .stuck
  | .exc x μ1 => .exc x μ1
  | .stuck => .stuck
theorem Paired.len {α β : Type} {F : α → β → Prop} : ∀ {l₁ : List α} {l₂ : List β}, Paired F l₁ l₂ → l₁.length = l₂.length
  | _, _, .nil => rfl
  | _, _, .cons _ t => congrArg (· + 1) (Paired.len t)
theorem sArgs_len : ∀ {fs : List SE} {ρ : Env} {μ μ1 : Sto} {as : List Val}, sArgs fs ρ μ = .ok as μ1 → as.length = fs.length
  | [], _, _, _, as, h => by simp [sArgs] at h; rw [h.1]; rfl
  | f :: fs, ρ, μ, μ1, as, h => by
    simp only [sArgs] at h
    unfold opd at h
    cases e : f ρ μ with
    | stuck => simp [e] at h
    | exc x μ' => simp [e] at h
    | ok r μ' =>
      simp only [e] at h
      cases e2 : sArgs fs ρ μ' with
      | stuck => simp [e2] at h
      | exc x μ' => simp [e2] at h
      | ok bs μ2 =>
        simp only [e2, Out.ok.injEq] at h
        rw [← h.1, List.length_cons, List.length_cons, sArgs_len e2]
section
variable {Z : Wd} {W : WX} {X : Cx} {es : List Expr} {fs : List SE} {pos : Pos}
theorem d_tup {k} (ha : PA X es (tA Z W (sArgs fs))) (hl : decide (fs.length ≤ 1000) = true := by rfl) : PE X (.Tuple es k pos) (tD Z W (sTup fs)) := by
  refine PEimp (pe_tupTn ha) ?_
  rintro σ H Q ⟨G, α, ρ, μ, S, E, w⟩
  refine ⟨G, α, ρ, μ, S, E, ?_⟩
  unfold sTup at w
  cases h : sArgs fs ρ μ with
  | stuck => simp only [h] at w; exact w.elim
  | exc x μ1 => simp only [h] at w; exact w
  | ok as μ1 =>
    simp only [h] at w
    intro vs H1 α1 p1 S1 r1
    cases e : dats as with
    | none => simp only [e] at w; exact w.elim
    | some ds =>
      simp only [e] at w
      have l1 := Paired.len r1
      have l2 := sArgs_len h
      exact ⟨by rw [l1, l2, sizeLine_eq]; have := of_decide_eq_true hl; omega, (wE.post p1 w).tup S1 (dats_ok e r1)⟩
theorem d_lst (ha : PA X es (tA Z W (sArgs fs))) (hl : decide (fs.length ≤ 1000) = true := by rfl) : PE X (.List es pos) (tD Z W (sLst fs)) := by
  refine PEimp (pe_lst ha) ?_
  rintro σ H Q ⟨G, α, ρ, μ, S, E, w⟩
  refine ⟨G, α, ρ, μ, S, E, ?_⟩
  unfold sLst at w
  cases h : sArgs fs ρ μ with
  | stuck => simp only [h] at w; exact w.elim
  | exc x μ1 => simp only [h] at w; exact w
  | ok as μ1 =>
    simp only [h] at w
    intro vs H1 α1 p1 S1 r1
    cases e : dats as with
    | none => simp only [e] at w; exact w.elim
    | some ds =>
      simp only [e] at w
      have l1 := Paired.len r1
      have l2 := sArgs_len h
      exact ⟨by rw [l1, l2, sizeLine_eq]; have := of_decide_eq_true hl; omega, fun p hp => (wE.post p1 w).lst S1 (dats_ok e r1) hp⟩
end

/-! ### built-ins, by values -/
def sCall (op : Sto → List Val → Option Res) (fs : List SE) : SE := fun ρ μ => match sArgs fs ρ μ with
  | .ok as μ1 => outO (op μ1 as) μ1
  | .exc x μ1 => .exc x μ1
  | .stuck => .stuck
def CalD (r : List V → Hp → VK → Prop) (op : Sto → List Val → Option Res) : Prop := ∀ Z G α H μ vs as res Q E, RepS Z G α H μ → RpVs G α H vs as → op μ as = some res → wE Z G α H (.ok res μ) Q E → r vs H Q
/-- what the layer has for a built-in f -/
structure CalR (X : Cx) (f : Value) (op : Sto → List Val → Option Res) : Prop where
  ex : ∃ r, CallR X f r ∧ CalD r op
theorem CalR.or {X : Cx} {f : Value} {o o' : Sto → List Val → Option Res} (h : CalR X f o) (h' : CalR X f o') : CalR X f (fun μ as => (o μ as).or (o' μ as)) := by
  obtain ⟨r, h1, h2⟩ := h.ex
  obtain ⟨r', h1', h2'⟩ := h'.ex
  refine ⟨_, h1.or h1', ?_⟩
  intro Z G α H μ vs as res Q E S rs e w
  cases q : o μ as with
  | some z =>
    have e' : z = res := by simpa [q] using e
    subst e'
    exact .inl (h2 Z G α H μ vs as z Q E S rs q w)
  | none => exact .inr (h2' Z G α H μ vs as res Q E S rs (by simpa [q] using e) w)
theorem t_call {Z : Wd} {W : WX} {r : List V → Hp → VK → Prop} {op : Sto → List Val → Option Res} {fs : List SE} (ho : CalD r op) : ∀ σ H Q, tD Z W (sCall op fs) σ H Q → tCB r (tA Z W (sArgs fs)) σ H Q := by
  rintro σ H Q ⟨G, α, ρ, μ, S, E, w⟩
  refine ⟨G, α, ρ, μ, S, E, ?_⟩
  unfold sCall at w
  cases h : sArgs fs ρ μ with
  | stuck => simp only [h] at w; exact w.elim
  | exc x μ1 => simp only [h] at w; exact w
  | ok as μ1 =>
    simp only [h] at w
    intro vs H1 α1 p1 S1 r1
    cases e : op μ1 as with
    | none => simp only [e] at w; exact w.elim
    | some res => simp only [e] at w; exact ho Z G α1 H1 μ1 vs as res Q _ S1 r1 e (wE.post p1 w)
section
variable {Z : Wd} {W : WX} {X : Cx} {e : Expr} {es : List Expr} {fs : List SE} {pos p : Pos} {x : Str} {id T : String} {op : Sto → List Val → Option Res}
theorem d_callB (c : CalR X (.builtin id) op) (hg : Gl X x) (hm : X.mg x = none) (ha : PA X (e :: es) (tA Z W (sArgs fs))) (hv : bootBuiltins x = some (.builtin id) := by decide +kernel) (hn : x ≠ "__name__" := by decide) (hdb : (x == ("__debug__" : Str)) = false := by decide)
    (he : starEach (e :: es) X.env = (false, eval e X.env) :: starEach es X.env := by rfl) (hpl : (backTo pos (starEach es X.env)).any (·.1) = false := by rfl) : PE X (.Call (.Name x p) (e :: es) [] pos) (tD Z W (sCall op fs)) := by
  obtain ⟨r, h1, h2⟩ := c.ex
  exact PEimp (pe_callB h1 hg hm hv ha hn hdb he hpl) (t_call h2)
theorem d_callTy (c : CalR X (.type T) op) (hg : Gl X x) (hm : X.mg x = none) (ha : PA X (e :: es) (tA Z W (sArgs fs))) (hv : bootBuiltins x = some (.type T) := by decide +kernel) (hn : x ≠ "__name__" := by decide) (hdb : (x == ("__debug__" : Str)) = false := by decide)
    (he : starEach (e :: es) X.env = (false, eval e X.env) :: starEach es X.env := by rfl) (hpl : (backTo pos (starEach es X.env)).any (·.1) = false := by rfl) : PE X (.Call (.Name x p) (e :: es) [] pos) (tD Z W (sCall op fs)) := by
  obtain ⟨r, h1, h2⟩ := c.ex
  exact PEimp (pe_callTy h1 hg hm hv ha hn hdb he hpl) (t_call h2)
end

/-! ### what the built-ins do -/
def intsD : List D → Option (List Int)
  | [] => some []
  | .int i :: ds => (intsD ds).map (i :: ·)
  | _ => none
def blsD : List D → Option (List Bool)
  | [] => some []
  | .bl i :: ds => (blsD ds).map (i :: ·)
  | _ => none
def strsD : List D → Option (List Str)
  | [] => some []
  | .str i :: ds => (strsD ds).map (i :: ·)
  | _ => none
theorem intsD_ok {H : Hp} {F : Addr → Prop} : ∀ {ds : List D} {ns : List Int} {xs : List V}, intsD ds = some ns → RpL H F xs ds → xs = ns.map V.int
  | [], ns, _, e, .nil => by simp [intsD] at e; subst e; rfl
  | d :: ds, ns, _, e, .cons r t => by
    cases d <;> simp only [intsD, reduceCtorEq] at e
    obtain ⟨zs, h, rfl⟩ := Option.map_eq_some_iff.mp e
    cases r
    rw [intsD_ok h t]; rfl
theorem blsD_ok {H : Hp} {F : Addr → Prop} : ∀ {ds : List D} {ns : List Bool} {xs : List V}, blsD ds = some ns → RpL H F xs ds → xs = ns.map V.bl
  | [], ns, _, e, .nil => by simp [blsD] at e; subst e; rfl
  | d :: ds, ns, _, e, .cons r t => by
    cases d <;> simp only [blsD, reduceCtorEq] at e
    obtain ⟨zs, h, rfl⟩ := Option.map_eq_some_iff.mp e
    cases r
    rw [blsD_ok h t]; rfl
theorem strsD_ok {H : Hp} {F : Addr → Prop} : ∀ {ds : List D} {ns : List Str} {xs : List V}, strsD ds = some ns → RpL H F xs ds → xs = ns.map V.str
  | [], ns, _, e, .nil => by simp [strsD] at e; subst e; rfl
  | d :: ds, ns, _, e, .cons r t => by
    cases d <;> simp only [strsD, reduceCtorEq] at e
    obtain ⟨zs, h, rfl⟩ := Option.map_eq_some_iff.mp e
    cases r
    rw [strsD_ok h t]; rfl
theorem vs1 {G : Addr → Prop} {α : List Addr} {H : Hp} {vs : List V} {a : Val} (r : RpVs G α H vs [a]) : ∃ x, vs = [x] ∧ RpV G α H x a := by
  cases r with
  | cons r t => cases t; exact ⟨_, rfl, r⟩
theorem vs2 {G : Addr → Prop} {α : List Addr} {H : Hp} {vs : List V} {a b : Val} (r : RpVs G α H vs [a, b]) : ∃ x y, vs = [x, y] ∧ RpV G α H x a ∧ RpV G α H y b := by
  cases r with
  | cons r t => obtain ⟨y, e, q⟩ := vs1 t; exact ⟨_, y, by rw [e], r, q⟩
theorem vs3 {G : Addr → Prop} {α : List Addr} {H : Hp} {vs : List V} {a b c : Val} (r : RpVs G α H vs [a, b, c]) : ∃ x y z, vs = [x, y, z] ∧ RpV G α H x a ∧ RpV G α H y b ∧ RpV G α H z c := by
  cases r with
  | cons r t => obtain ⟨y, z, e, q, u⟩ := vs2 t; exact ⟨_, y, z, by rw [e], r, q, u⟩
abbrev COp := Sto → List Val → Option Res
/-- one argument -/
def c1 (f : Sto → Val → Option Res) : COp
  | μ, [a] => f μ a
  | _, _ => none
theorem c1_some {f : Sto → Val → Option Res} {μ : Sto} {as : List Val} {res : Res} (e : c1 f μ as = some res) : ∃ a, as = [a] ∧ f μ a = some res := by
  unfold c1 at e
  split at e
  · exact ⟨_, rfl, e⟩
  · cases e
def c2 (f : Sto → Val → Val → Option Res) : COp
  | μ, [a, b] => f μ a b
  | _, _ => none
theorem c2_some {f : Sto → Val → Val → Option Res} {μ : Sto} {as : List Val} {res : Res} (e : c2 f μ as = some res) : ∃ a b, as = [a, b] ∧ f μ a b = some res := by
  unfold c2 at e
  split at e
  · exact ⟨_, _, rfl, e⟩
  · cases e
def c3 (f : Sto → Val → Val → Val → Option Res) : COp
  | μ, [a, b, c] => f μ a b c
  | _, _ => none
theorem c3_some {f : Sto → Val → Val → Val → Option Res} {μ : Sto} {as : List Val} {res : Res} (e : c3 f μ as = some res) : ∃ a b c, as = [a, b, c] ∧ f μ a b c = some res := by
  unfold c3 at e
  split at e
  · exact ⟨_, _, _, rfl, e⟩
  · cases e
def lenS : COp := c1 fun μ a => (rdS μ a).map fun ds => .dat (.int ds.length)
def lenStr : COp := c1 fun _ a => match a with
  | .dat (.str z) => gd (z.length ≤ sizeLine) (.dat (.int z.length))
  | _ => none
def lenD : COp := c1 fun μ a => (rdD μ a).map fun kvs => .dat (.int (kvs.length : Nat))
def opLen : COp := fun μ as => ((lenS μ as).or (lenStr μ as)).or (lenD μ as)
def opSum : COp := c1 fun μ a => match rdL μ a with
  | some ds => (intsD ds).map fun ns => .dat (.int ns.sum)
  | none => none
def opAll : COp := c1 fun μ a => match rdL μ a with
  | some ds => (blsD ds).map fun ns => .dat (.bl (ns.all id))
  | none => none
def opTuple : COp := c1 fun μ a => (rdS μ a).map fun ds => .dat (.tup ds)
def opList : COp := c1 fun μ a => (rdS μ a).map fun ds => .new (.lst ds)
def opInt : COp := c1 fun _ a => match a with
  | .dat (.int i) => some (.dat (.int i))
  | .dat (.bl b) => some (.dat (.int (if b then 1 else 0)))
  | _ => none
def opAbs : COp := c1 fun _ a => match a with
  | .dat (.int i) => some (.dat (.int (if i < 0 then -i else i)))
  | _ => none
def opMax2 : COp := c2 fun _ a b => match a, b with
  | .dat (.int i), .dat (.int j) => some (.dat (.int (if j > i then j else i)))
  | _, _ => none
def opMin2 : COp := c2 fun _ a b => match a, b with
  | .dat (.int i), .dat (.int j) => some (.dat (.int (if j < i then j else i)))
  | _, _ => none
def opStrI : COp := c1 fun _ a => match a with
  | .dat (.int i) => gd (i.natAbs.log2 < 1920) (.dat (.str (toString i)))
  | _ => none
/-- the greatest of a list of ints -/
def maxI : List Int → Int
  | [] => 0
  | [n] => n
  | n :: m :: r => max n (maxI (m :: r))
def minI : List Int → Int
  | [] => 0
  | [n] => n
  | n :: m :: r => min n (minI (m :: r))
theorem maxI_ge : ∀ (ns : List Int), ∀ n ∈ ns, n ≤ maxI ns
  | [], n, h => by cases h
  | [m], n, h => by simp at h; subst h; exact Int.le_refl _
  | a :: b :: r, n, h => by
    have ih := maxI_ge (b :: r)
    simp only [maxI]
    rcases List.mem_cons.mp h with rfl | h
    · omega
    · have := ih n h; omega
theorem maxI_mem : ∀ (ns : List Int), 0 < ns.length → maxI ns ∈ ns
  | [], h => by simp at h
  | [m], _ => by simp [maxI]
  | a :: b :: r, _ => by
    have ih := maxI_mem (b :: r) (by simp)
    simp only [maxI]
    by_cases h : a ≤ maxI (b :: r)
    · rw [Int.max_eq_right h]; exact List.mem_cons_of_mem _ ih
    · rw [Int.max_eq_left (by omega)]; exact List.mem_cons_self
theorem minI_le : ∀ (ns : List Int), ∀ n ∈ ns, minI ns ≤ n
  | [], n, h => by cases h
  | [m], n, h => by simp at h; subst h; exact Int.le_refl _
  | a :: b :: r, n, h => by
    have ih := minI_le (b :: r)
    simp only [minI]
    rcases List.mem_cons.mp h with rfl | h
    · omega
    · have := ih n h; omega
theorem minI_mem : ∀ (ns : List Int), 0 < ns.length → minI ns ∈ ns
  | [], h => by simp at h
  | [m], _ => by simp [minI]
  | a :: b :: r, _ => by
    have ih := minI_mem (b :: r) (by simp)
    simp only [minI]
    by_cases h : a ≤ minI (b :: r)
    · rw [Int.min_eq_left h]; exact List.mem_cons_self
    · rw [Int.min_eq_right (by omega)]; exact List.mem_cons_of_mem _ ih
def opMaxL : COp := c1 fun μ a => match rdL μ a with
  | some ds => match intsD ds with
    | some ns => gd (0 < ns.length) (.dat (.int (maxI ns)))
    | none => none
  | none => none
def opMinL : COp := c1 fun μ a => match rdL μ a with
  | some ds => match intsD ds with
    | some ns => gd (0 < ns.length) (.dat (.int (minI ns)))
    | none => none
  | none => none
section
variable {X : Cx}
theorem kLen : CalR X (.builtin "len") opLen := by
  have a : CalR X (.builtin "len") lenS := ⟨_, call_len_seq, fun Z G α H μ vs as res Q E S rs e w => by
    have e0 := c1_some e
    clear e
    obtain ⟨a, rfl, e⟩ := e0
    obtain ⟨ds, h, rfl⟩ := Option.map_eq_some_iff.mp e
    obtain ⟨x, rfl, r⟩ := vs1 rs
    obtain ⟨p, xs, rfl, e2, e3⟩ := rdS_ok S r h
    exact ⟨p, xs, rfl, rdS_sq e2, by rw [e3.length]; exact w.pure S (.int _)⟩⟩
  have b : CalR X (.builtin "len") lenStr := ⟨_, call_len_str, fun Z G α H μ vs as res Q E S rs e w => by
    have e0 := c1_some e
    clear e
    obtain ⟨a, rfl, e⟩ := e0
    obtain ⟨x, rfl, r⟩ := vs1 rs
    split at e
    · obtain ⟨h, rfl⟩ := gd_some e
      exact ⟨_, by rw [inv_str r], h, w.pure S (.int _)⟩
    · cases e⟩
  have c : CalR X (.builtin "len") lenD := ⟨fun xs H Q => ∃ p kvs, xs = [.ref p] ∧ Rd H p (.dK kvs) ∧ Q (.int (kvs.length : Nat)) H, (by
      intro pins s σ H xs us Q I r h
      obtain ⟨p, kvs, rfl, hp, q⟩ := h
      rw [Vals.ref1 r]
      exact d_len I hp fun t s' I' => ⟨.int _, H, I', ⟨_, rfl⟩, q⟩), fun Z G α H μ vs as res Q E S rs e w => by
    have e0 := c1_some e
    clear e
    obtain ⟨a, rfl, e⟩ := e0
    obtain ⟨ds, h, rfl⟩ := Option.map_eq_some_iff.mp e
    obtain ⟨x, rfl, r⟩ := vs1 rs
    obtain ⟨p, xs, rfl, e2, e3⟩ := rdD_ok S r h
    have hl : ∀ {xs : List (Key × V)} {ds : List (Key × D)}, RpK H (off G α) xs ds → xs.length = ds.length := by
      intro xs
      induction xs with
      | nil => intro ds r; cases r; rfl
      | cons x xs ih => intro ds r; cases r with | cons a b => rw [List.length_cons, List.length_cons, ih b]
    exact ⟨p, xs, rfl, e2, by rw [hl e3]; exact w.pure S (.int _)⟩⟩
  exact (a.or b).or c
theorem kSum (hc : X.calm = true) : CalR X (.builtin "sum") opSum := ⟨_, cr_sum hc, fun Z G α H μ vs as res Q E S rs e w => by
    have e0 := c1_some e
    clear e
    obtain ⟨a, rfl, e⟩ := e0
    obtain ⟨x, rfl, r⟩ := vs1 rs
    split at e
    · rename_i ds h
      obtain ⟨ns, h2, rfl⟩ := Option.map_eq_some_iff.mp e
      obtain ⟨p, xs, rfl, e2, e3⟩ := rdL_ok S r h
      rw [intsD_ok h2 e3] at e2
      exact ⟨p, ns, rfl, .inl e2, w.pure S (.int _)⟩
    · cases e⟩
theorem kAll (hc : X.calm = true) : CalR X (.builtin "all") opAll := ⟨_, cr_all hc, fun Z G α H μ vs as res Q E S rs e w => by
    have e0 := c1_some e
    clear e
    obtain ⟨a, rfl, e⟩ := e0
    obtain ⟨x, rfl, r⟩ := vs1 rs
    split at e
    · rename_i ds h
      obtain ⟨ns, h2, rfl⟩ := Option.map_eq_some_iff.mp e
      obtain ⟨p, xs, rfl, e2, e3⟩ := rdL_ok S r h
      rw [blsD_ok h2 e3] at e2
      exact ⟨p, ns, rfl, .inl e2, w.pure S (.bl _)⟩
    · cases e⟩
theorem kMaxL (hc : X.calm = true) : CalR X (.builtin "max") opMaxL := ⟨_, cr_max hc, fun Z G α H μ vs as res Q E S rs e w => by
    have e0 := c1_some e
    clear e
    obtain ⟨a, rfl, e⟩ := e0
    obtain ⟨x, rfl, r⟩ := vs1 rs
    split at e
    · rename_i ds h
      split at e
      · rename_i ns h2
        obtain ⟨h0, rfl⟩ := gd_some e
        obtain ⟨p, xs, rfl, e2, e3⟩ := rdL_ok S r h
        rw [intsD_ok h2 e3] at e2
        refine ⟨p, ns, rfl, .inl e2, h0, fun m h1 h2 => ?_⟩
        have e : m = maxI ns := by have := h2 _ (maxI_mem ns h0); have := maxI_ge ns m h1; omega
        rw [e]
        exact w.pure S (.int _)
      · cases e
    · cases e⟩
theorem kMinL (hc : X.calm = true) : CalR X (.builtin "min") opMinL := ⟨_, cr_min hc, fun Z G α H μ vs as res Q E S rs e w => by
    have e0 := c1_some e
    clear e
    obtain ⟨a, rfl, e⟩ := e0
    obtain ⟨x, rfl, r⟩ := vs1 rs
    split at e
    · rename_i ds h
      split at e
      · rename_i ns h2
        obtain ⟨h0, rfl⟩ := gd_some e
        obtain ⟨p, xs, rfl, e2, e3⟩ := rdL_ok S r h
        rw [intsD_ok h2 e3] at e2
        refine ⟨p, ns, rfl, .inl e2, h0, fun m h1 h2 => ?_⟩
        have e : m = minI ns := by have := h2 _ (minI_mem ns h0); have := minI_le ns m h1; omega
        rw [e]
        exact w.pure S (.int _)
      · cases e
    · cases e⟩
theorem kTuple : CalR X (.type "tuple") opTuple := ⟨_, call_tupleTn, fun Z G α H μ vs as res Q E S rs e w => by
    have e0 := c1_some e
    clear e
    obtain ⟨a, rfl, e⟩ := e0
    obtain ⟨ds, h, rfl⟩ := Option.map_eq_some_iff.mp e
    obtain ⟨x, rfl, r⟩ := vs1 rs
    unfold rdS at h
    cases h1 : rdL μ a with
    | some z =>
      have e' : z = ds := by simpa [h1] using h
      subst e'
      obtain ⟨p, xs, rfl, e2, e3⟩ := rdL_ok S r h1
      exact ⟨p, xs, rfl, .inl ⟨.inl e2, w.tup S e3⟩⟩
    | none =>
      have h2 : rdT a = some ds := by simpa [h1] using h
      obtain ⟨p, xs, rfl, e2, e3⟩ := rdT_ok r h2
      refine ⟨p, xs, rfl, .inr ⟨e2.sq, w.pure S ?_⟩⟩
      cases a with
      | dat d =>
        cases d <;> simp only [rdT, reduceCtorEq] at h2
        cases h2
        exact r
      | loc k => simp only [rdT, reduceCtorEq] at h2⟩
theorem kList : CalR X (.type "list") opList := ⟨_, call_list_of, fun Z G α H μ vs as res Q E S rs e w => by
    have e0 := c1_some e
    clear e
    obtain ⟨a, rfl, e⟩ := e0
    obtain ⟨ds, h, rfl⟩ := Option.map_eq_some_iff.mp e
    obtain ⟨x, rfl, r⟩ := vs1 rs
    obtain ⟨p, xs, rfl, e2, e3⟩ := rdS_ok S r h
    exact ⟨p, xs, rfl, rdS_sq e2, fun l hl => w.lst S e3 hl⟩⟩
theorem kInt : CalR X (.type "int") opInt := ⟨_, call_int1, fun Z G α H μ vs as res Q E S rs e w => by
    have e0 := c1_some e
    clear e
    obtain ⟨a, rfl, e⟩ := e0
    obtain ⟨x, rfl, r⟩ := vs1 rs
    split at e
    · cases e
      rw [inv_ii r]
      exact .inl ⟨_, rfl, w.pure S (.int _)⟩
    · cases e
      rw [inv_bl r]
      exact .inr ⟨_, rfl, w.pure S (.int _)⟩
    · cases e⟩
theorem kAbs : CalR X (.builtin "abs") opAbs := ⟨_, call_abs, fun Z G α H μ vs as res Q E S rs e w => by
    have e0 := c1_some e
    clear e
    obtain ⟨a, rfl, e⟩ := e0
    obtain ⟨x, rfl, r⟩ := vs1 rs
    split at e
    · cases e
      rw [inv_ii r]
      exact ⟨_, rfl, w.pure S (.int _)⟩
    · cases e⟩
theorem kMax2 (hc : X.calm = true) : CalR X (.builtin "max") opMax2 := ⟨_, call_max2 hc, fun Z G α H μ vs as res Q E S rs e w => by
    have e0 := c2_some e
    clear e
    obtain ⟨a, b, rfl, e⟩ := e0
    obtain ⟨x, y, rfl, r, q⟩ := vs2 rs
    split at e
    · cases e
      rw [inv_ii r, inv_ii q]
      exact ⟨_, _, rfl, w.pure S (.int _)⟩
    · cases e⟩
theorem kMin2 (hc : X.calm = true) : CalR X (.builtin "min") opMin2 := ⟨_, call_min2 hc, fun Z G α H μ vs as res Q E S rs e w => by
    have e0 := c2_some e
    clear e
    obtain ⟨a, b, rfl, e⟩ := e0
    obtain ⟨x, y, rfl, r, q⟩ := vs2 rs
    split at e
    · cases e
      rw [inv_ii r, inv_ii q]
      exact ⟨_, _, rfl, w.pure S (.int _)⟩
    · cases e⟩
theorem kStrI : CalR X (.type "str") opStrI := ⟨_, call_str_int, fun Z G α H μ vs as res Q E S rs e w => by
    have e0 := c1_some e
    clear e
    obtain ⟨a, rfl, e⟩ := e0
    obtain ⟨x, rfl, r⟩ := vs1 rs
    split at e
    · obtain ⟨h, rfl⟩ := gd_some e
      rw [inv_ii r]
      exact ⟨_, rfl, h, w.pure S (.str _)⟩
    · cases e⟩
end

/-! ### subscripts -/
def keyD : Val → Option Key
  | .dat (.int i) => some (.inl i)
  | .dat (.str x) => some (.inr x)
  | _ => none
def keyL (_ : List D) : Option (List Key) := none
/-- the value at a key -/
def dGet {κ τ : Type} [DecidableEq κ] (kvs : List (κ × τ)) (k : κ) : Option τ := (kvs.find? fun kv => decide (kv.1 = k)).map (·.2)
def ixL : BOp := fun μ a b => match b with
  | .dat (.int i) => match rdS μ a with
    | some ds => (atI ds i).map .dat
    | none => none
  | _ => none
def ixStr : BOp
  | _, .dat (.str z), .dat (.int i) => match atI z.cps.toList i with
    | some c => gd (z.length ≤ sizeLine) (.dat (.str ⟨#[c]⟩))
    | none => none
  | _, _, _ => none
def ixD : BOp := fun μ a b => match rdD μ a, keyD b with
  | some kvs, some k => (dGet kvs k).map .dat
  | _, _ => none
def ixX : BOp := fun μ a b => match rdX μ a, b with
  | some kvs, .dat (.tup ks) => match keyL ks with
    | some k => (dGet kvs k).map .dat
    | none => none
  | _, _ => none
def opIx : BOp := orO ixL (orO ixStr (orO ixD ixX))
theorem rpL_atI {H : Hp} {F : Addr → Prop} {xs : List V} {ds : List D} {i : Int} {d : D} (r : RpL H F xs ds) (e : atI ds i = some d) : ∃ v, atI xs i = some v ∧ Rp H F v d := by
  unfold atI at e ⊢
  rw [r.length]
  cases h : ixN ds.length i with
  | none => rw [h] at e; cases e
  | some j =>
    rw [h] at e
    exact r.get e
theorem rpK_get {H : Hp} {F : Addr → Prop} {k : Key} : ∀ {xs : List (Key × V)} {ds : List (Key × D)}, RpK H F xs ds → (∀ d, dGet ds k = some d → ∃ v, valV xs k = some v ∧ Rp H F v d) ∧ (dGet ds k = none → valV xs k = none)
  | _, _, .nil => ⟨fun d h => by simp [dGet] at h, fun _ => rfl⟩
  | _, _, .cons (k := k') r t => by
    have ih := rpK_get (k := k) t
    by_cases e : k' = k
    · refine ⟨fun d h => ?_, fun h => ?_⟩
      · simp [dGet, List.find?_cons, e] at h; subst h; exact ⟨_, valV_pos e, r⟩
      · simp [dGet, List.find?_cons, e] at h
    · refine ⟨fun d h => ?_, fun h => ?_⟩
      · rw [valV_neg e]; exact ih.1 d (by simpa [dGet, List.find?_cons, e] using h)
      · rw [valV_neg e]; exact ih.2 (by simpa [dGet, List.find?_cons, e] using h)
theorem rpT_get {H : Hp} {F : Addr → Prop} {k : List Key} : ∀ {xs : List (List Key × V)} {ds : List (List Key × D)}, RpT H F xs ds → (∀ d, dGet ds k = some d → ∃ v, valV xs k = some v ∧ Rp H F v d) ∧ (dGet ds k = none → valV xs k = none)
  | _, _, .nil => ⟨fun d h => by simp [dGet] at h, fun _ => rfl⟩
  | _, _, .cons (k := k') r t => by
    have ih := rpT_get (k := k) t
    by_cases e : k' = k
    · refine ⟨fun d h => ?_, fun h => ?_⟩
      · simp [dGet, List.find?_cons, e] at h; subst h; exact ⟨_, valV_pos e, r⟩
      · simp [dGet, List.find?_cons, e] at h
    · refine ⟨fun d h => ?_, fun h => ?_⟩
      · rw [valV_neg e]; exact ih.1 d (by simpa [dGet, List.find?_cons, e] using h)
      · rw [valV_neg e]; exact ih.2 (by simpa [dGet, List.find?_cons, e] using h)
theorem keyD_ok {G : Addr → Prop} {α : List Addr} {H : Hp} {x : V} {b : Val} {k : Key} (r : RpV G α H x b) (e : keyD b = some k) : x = kV k := by
  unfold keyD at e
  split at e
  · cases e; exact inv_ii r
  · cases e; exact inv_str r
  · cases e
theorem keyL_ok {H : Hp} {F : Addr → Prop} {ds : List D} {ks : List Key} {xs : List V} (h : keyL ds = some ks) (_ : RpL H F xs ds) : xs = ks.map kV := by simp [keyL] at h
/-- a key of a dict by values: how it is found -/
theorem dget_k {G : Addr → Prop} {α : List Addr} {H : Hp} {μ : Sto} {x y : V} {a b : Val} {kvs : List (Key × D)} {k : Key} (S : RepS Z G α H μ) (ra : RpV G α H x a) (rb : RpV G α H y b) (h1 : rdD μ a = some kvs) (h2 : keyD b = some k) :
    ∃ p o, x = .ref p ∧ DGet H p y o ∧ (∀ d, dGet kvs k = some d → ∃ v, o = some v ∧ Rp H (off G α) v d) ∧ (dGet kvs k = none → o = none) := by
  obtain ⟨p, xs, rfl, e2, e3⟩ := rdD_ok S ra h1
  rw [keyD_ok rb h2]
  exact ⟨p, valV xs k, rfl, .inl ⟨xs, k, e2, rfl, rfl⟩, (rpK_get e3).1, (rpK_get e3).2⟩
theorem dget_t {G : Addr → Prop} {α : List Addr} {H : Hp} {μ : Sto} {x y : V} {a : Val} {kvs : List (List Key × D)} {ks : List D} {k : List Key} (S : RepS Z G α H μ) (ra : RpV G α H x a) (rb : RpV G α H y (.dat (.tup ks))) (h1 : rdX μ a = some kvs) (h2 : keyL ks = some k) :
    ∃ p o, x = .ref p ∧ DGet H p y o ∧ (∀ d, dGet kvs k = some d → ∃ v, o = some v ∧ Rp H (off G α) v d) ∧ (dGet kvs k = none → o = none) := by
  simp [keyL] at h2
/-- d[y] by values -/
def rDGet : R2 := fun x y H Q => ∃ a v, x = .ref a ∧ DGet H a y (some v) ∧ Q v H
theorem ix_dict {X : Cx} (hu : X.A.units + 1 < cLine) : IxR X rDGet := by
  intro value slice pins s σ H x y v u Q I rx ry h hs
  obtain ⟨a, z, rfl, g, q⟩ := h
  obtain rfl : v = Value.ref a := rx
  exact PyProof.Rows.tail_any (ops := [.ref a, u]) (dict_typeIs I g) PySem.F.slot_dict_getitem.lookup (d_getItem hu I g ry fun w' s3 I3 rw' => ⟨z, H, I3, rw', q⟩) hs
end Sx

/-! SxIx: subscripts, slices, in. -/
namespace Sx
open PySem L2

section
variable {X : Cx} {Z : Wd} {W : WX} {a b : Expr} {f g : SE} {pos : Pos} {k : Nat}
theorem hu1 (hr : Room k X.A) : X.A.units + 1 < cLine := by have := hr.un; omega
theorem oD_ixL : OpD (fun x y H Q => rIxL X.K x y H Q ∨ rIxT X.K x y H Q) ixL := by
  intro Z G α H μ x y a b res Q E S ra rb e w
  unfold ixL at e
  split at e
  · split at e
    · rename_i ds h
      obtain ⟨d, h1, rfl⟩ := Option.map_eq_some_iff.mp e
      obtain ⟨p, xs, rfl, e2, e3⟩ := rdS_ok S ra h
      obtain ⟨v, h2, r⟩ := rpL_atI e3 h1
      rw [inv_ii rb]
      rcases e2 with e2 | e2
      · exact .inl ⟨p, xs, _, v, rfl, rfl, .inl e2, h2, w.pure S r⟩
      · exact .inr ⟨p, xs, _, v, rfl, rfl, e2.sq, h2, w.pure S r⟩
    · cases e
  · cases e
theorem oD_ixStr : OpD rIxS ixStr := by
  intro Z G α H μ x y a b res Q E S ra rb e w
  unfold ixStr at e
  split at e
  · split at e
    · rename_i c h
      obtain ⟨h1, rfl⟩ := gd_some e
      rw [inv_str ra, inv_ii rb]
      exact ⟨_, _, c, rfl, rfl, h1, h, w.pure S (.str _)⟩
    · cases e
  · cases e
theorem oD_ixD : OpD rDGet ixD := by
  intro Z G α H μ x y a b res Q E S ra rb e w
  unfold ixD at e
  split at e
  · rename_i kvs k h1 h2
    obtain ⟨d, h3, rfl⟩ := Option.map_eq_some_iff.mp e
    obtain ⟨p, o, rfl, g, q, _⟩ := dget_k S ra rb h1 h2
    obtain ⟨v, rfl, r⟩ := q d h3
    exact ⟨p, v, rfl, g, w.pure S r⟩
  · cases e
theorem oD_ixX : OpD rDGet ixX := by
  intro Z G α H μ x y a b res Q E S ra rb e w
  unfold ixX at e
  split at e
  · rename_i kvs ks h1
    split at e
    · rename_i k h2
      obtain ⟨d, h3, rfl⟩ := Option.map_eq_some_iff.mp e
      obtain ⟨p, o, rfl, g, q, _⟩ := dget_t S ra rb h1 h2
      obtain ⟨v, rfl, r⟩ := q d h3
      exact ⟨p, v, rfl, g, w.pure S r⟩
    · cases e
  · cases e
theorem d_ix (hr : Room k X.A) (ha : PE X a (tD Z W f)) (hb : PE X b (tD Z W g)) (hs : PlainIx b := by exact fun _ _ => rfl) : PE X (.Subscript a b pos) (tD Z W (sBin opIx f g)) :=
  PEimp (pe_ix ((ix_list.or ix_tup).or (ix_str.or ((ix_dict (hu1 hr)).or (ix_dict (hu1 hr))))) ha hb hs) (tOp_of (oD_ixL.or (oD_ixStr.or (oD_ixD.or oD_ixX))))

/-! ### slices -/
def cut {τ : Type} (xs : List τ) (lo hi : Option Int) : List τ := (xs.drop (HT.sIx xs.length 0 lo)).take (HT.sIx xs.length xs.length hi - HT.sIx xs.length 0 lo)
theorem rpL_cut {H : Hp} {F : Addr → Prop} {xs : List V} {ds : List D} {lo hi : Option Int} (r : RpL H F xs ds) : RpL H F (cutV xs lo hi) (cut ds lo hi) := by
  unfold cutV cut
  rw [r.length]
  exact (r.drop _).take _
abbrev SlOp := Sto → Val → Option Int → Option Int → Option Res
def slT : SlOp := fun _ a lo hi => (rdT a).map fun ds => .dat (.tup (cut ds lo hi))
def slL : SlOp := fun μ a lo hi => (rdL μ a).map fun ds => .new (.lst (cut ds lo hi))
def slS : SlOp := fun _ a lo hi => match a with
  | .dat (.str z) => gd (z.length ≤ sizeLine) (.dat (.str (cutS z lo hi)))
  | _ => none
def opSl : SlOp := fun μ a lo hi => (slT μ a lo hi).or ((slL μ a lo hi).or (slS μ a lo hi))
def SlD (r : V → Option Int → Option Int → Hp → VK → Prop) (op : SlOp) : Prop := ∀ Z G α H μ x a lo hi res Q E, RepS Z G α H μ → RpV G α H x a → op μ a lo hi = some res → wE Z G α H (.ok res μ) Q E → r x lo hi H Q
theorem SlD.or {r r' : V → Option Int → Option Int → Hp → VK → Prop} {o o' : SlOp} (h : SlD r o) (h' : SlD r' o') : SlD (fun x lo hi H Q => r x lo hi H Q ∨ r' x lo hi H Q) (fun μ a lo hi => (o μ a lo hi).or (o' μ a lo hi)) := by
  intro Z G α H μ x a lo hi res Q E S ra e w
  cases q : o μ a lo hi with
  | some z =>
    have e' : z = res := by simpa [q] using e
    subst e'
    exact .inl (h Z G α H μ x a lo hi z Q E S ra q w)
  | none => exact .inr (h' Z G α H μ x a lo hi res Q E S ra (by simpa [q] using e) w)
theorem sD_T : SlD (rSlTn X.K) slT := by
  intro Z G α H μ x a lo hi res Q E S ra e w
  obtain ⟨ds, h, rfl⟩ := Option.map_eq_some_iff.mp e
  obtain ⟨p, xs, rfl, e2, e3⟩ := rdT_ok ra h
  refine ⟨p, xs, rfl, e2.sq, fun hw => ?_, fun _ => w.tup S (rpL_cut e3)⟩
  have e4 : cut ds lo hi = ds := by
    unfold cut
    rw [← e3.length, hw.1, hw.2, List.drop_zero, Nat.sub_zero]
    exact List.take_of_length_le (by rw [e3.length]; exact Nat.le_refl _)
  rw [e4] at w
  refine w.pure S ?_
  cases a with
  | dat d =>
    cases d <;> simp only [rdT, reduceCtorEq] at h
    cases h
    exact ra
  | loc k => simp only [rdT, reduceCtorEq] at h
theorem sD_L : SlD (rSlL X.K) slL := by
  intro Z G α H μ x a lo hi res Q E S ra e w
  obtain ⟨ds, h, rfl⟩ := Option.map_eq_some_iff.mp e
  obtain ⟨p, xs, rfl, e2, e3⟩ := rdL_ok S ra h
  exact ⟨p, xs, rfl, .inl e2, fun q hq => w.lst S (rpL_cut e3) hq⟩
/-- an optional part of a slice -/
def sOpt (o : Option SE) (ρ : Env) (μ : Sto) (k : Option Int → Sto → Out Res) : Out Res := match o with
  | none => k none μ
  | some g => opd (g ρ μ) fun v μ1 => match v with
    | .dat (.int i) => k (some i) μ1
    | _ => .stuck
def sSl (f : SE) (lo hi : Option SE) : SE := fun ρ μ => opd (f ρ μ) fun a μ1 => sOpt lo ρ μ1 fun l μ2 => sOpt hi ρ μ2 fun h μ3 => outO (opSl μ3 a l h) μ3
def tO (Z : Wd) (W : WX) (o : Option SE) : TO := match o with
  | none => tNoPart
  | some g => tPart (tD Z W g)
theorem o_none : PO X none (tO Z W none) := po_none
theorem o_some (h : PE X a (tD Z W f)) : PO X (some a) (tO Z W (some f)) := po_some h
theorem want_opt {G : Addr → Prop} {α : List Addr} {H : Hp} {μ : Sto} {σ : St} {ρ : Env} {o : Option SE} {kk : Option Int → Sto → Out Res} {Q : VK} {Q1 : Option Int → Hp → Prop}
    (S : RepS Z G α H μ) (E : RepE G α H σ ρ) (w : wE Z G α H (sOpt o ρ μ kk) Q fun c d H' => W c d σ H') (hq : ∀ i H1 α1 μ1, Post α H α1 H1 → RepS Z G α1 H1 μ1 → wE Z G α1 H1 (kk i μ1) Q (fun c d H' => W c d σ H') → Q1 i H1) : tO Z W o σ H Q1 := by
  cases o with
  | none => exact hq none H α μ Post.refl S w
  | some g =>
    simp only [sOpt] at w
    refine ⟨G, α, ρ, μ, S, E, wE.opd w fun x H1 α1 μ1 v p1 S1 r1 w1 => ?_⟩
    cases v with
    | loc k => exact w1.elim
    | dat d =>
      cases d with
      | int i => exact ⟨i, inv_ii r1, hq (some i) H1 α1 μ1 p1 S1 w1⟩
      | _ => exact w1.elim
theorem d_sl {lo hi : Option Expr} {l h : Option SE} {p2 : Pos} (he : PE X a (tD Z W f)) (hl : PO X lo (tO Z W l)) (hh : PO X hi (tO Z W h)) :
    PE X (.Subscript a (.Slice lo hi none p2) pos) (tD Z W (sSl f l h)) := by
  refine PEimp (pe_slice (sl_tupTn.or (sl_list.or sl_str)) he hl hh) ?_
  have sS : SlD rSlS slS := by
    intro Z G α H μ x a lo hi res Q E S ra e w
    unfold slS at e
    split at e
    · obtain ⟨h1, rfl⟩ := gd_some e
      exact ⟨_, inv_str ra, h1, w.pure S (.str _)⟩
    · cases e
  have sAll := sD_T (X := X).or (sD_L (X := X).or sS)
  rintro σ H Q ⟨G, α, ρ, μ, S, E, w⟩
  refine ⟨G, α, ρ, μ, S, E, wE.opd w fun x H1 α1 μ1 v p1 S1 r1 w1 => ?_⟩
  refine want_opt S1 (E.post p1) w1 fun i H2 α2 μ2 p2 S2 w2 => ?_
  refine want_opt S2 ((E.post p1).post p2) w2 fun j H3 α3 μ3 p3 S3 w3 => ?_
  cases e : opSl μ3 v i j with
  | none => rw [e] at w3; exact w3.elim
  | some res => rw [e] at w3; exact sAll Z G α3 H3 μ3 x v i j res Q _ S3 ((r1.post p2).post p3) e w3
end

/-! ### in -/
def flatD : D → Bool
  | .non => true
  | .bl _ => true
  | .int _ => true
  | .str _ => true
  | _ => false
def eqF : D → D → Bool
  | .non, .non => true
  | .bl a, .bl b => a == b
  | .bl a, .int b => (if a then 1 else 0) == b
  | .int a, .bl b => a == (if b then 1 else 0)
  | .int a, .int b => a == b
  | .str a, .str b => a == b
  | _, _ => false
def inL (neg : Bool) : BOp := fun μ a b => match a, rdS μ b with
  | .dat d, some ds => gd (flatD d = true ∧ ds.all flatD = true) (.dat (.bl (if neg then !(ds.any fun y => eqF y d) else ds.any fun y => eqF y d)))
  | _, _ => none
def inDk (neg : Bool) : BOp := fun μ a b => match keyD a, rdD μ b with
  | some k, some kvs => some (.dat (.bl (if neg then !(dGet kvs k).isSome else (dGet kvs k).isSome)))
  | _, _ => none
def inSg (neg : Bool) : BOp
  | _, .dat (.str x), .dat (.str y) => match x.cps.toList with
    | [c] => some (.dat (.bl (if neg then !decide (c ∈ y.cps.toList) else decide (c ∈ y.cps.toList))))
    | _ => none
  | _, _, _ => none
def opIn (neg : Bool) : BOp := orO (inL neg) (orO (inDk neg) (inSg neg))
section
variable {X : Cx}
theorem flat_ok {H : Hp} {F : Addr → Prop} {v : V} {d : D} (r : Rp H F v d) (h : flatD d = true) : flatV v = true := by cases r <;> simp_all [flatD, flatV]
theorem flats_ok {H : Hp} {F : Addr → Prop} : ∀ {xs : List V} {ds : List D}, RpL H F xs ds → ds.all flatD = true → xs.all flatV = true
  | _, _, .nil, _ => rfl
  | _, _, .cons r t, h => by
    simp only [List.all_cons, Bool.and_eq_true] at h ⊢
    exact ⟨flat_ok r h.1, flats_ok t h.2⟩
theorem eqF_ok {H : Hp} {F : Addr → Prop} {v u : V} {d e : D} (r : Rp H F v d) (q : Rp H F u e) : eqV v u = eqF d e := by cases r <;> cases q <;> rfl
theorem any_ok {H : Hp} {F : Addr → Prop} {v : V} {d : D} (r : Rp H F v d) : ∀ {xs : List V} {ds : List D}, RpL H F xs ds → inV v xs = ds.any fun y => eqF y d
  | _, _, .nil => rfl
  | _, _, .cons q t => by
    have ih := any_ok r t
    unfold inV at ih ⊢
    rw [List.any_cons, List.any_cons, ih, eqF_ok q r]
theorem oD_inL {neg : Bool} : OpD (rIn X.K neg) (inL neg) := by
  intro Z G α H μ x y a b res Q E S ra rb e w
  unfold inL at e
  split at e
  · rename_i d ds h
    obtain ⟨⟨h1, h2⟩, rfl⟩ := gd_some e
    obtain ⟨p, xs, rfl, e2, e3⟩ := rdS_ok S rb h
    refine ⟨p, xs, rfl, rdS_sq e2, flat_ok ra h1, flats_ok e3 h2, ?_⟩
    rw [any_ok ra e3]
    exact w.pure S (.bl _)
  · cases e
def rDIn (neg : Bool) : R2 := fun x y H Q => ∃ a o, y = .ref a ∧ DGet H a x o ∧ Q (.bl (if neg then !o.isSome else o.isSome)) H
theorem oR_inD (hu : X.A.units + 1 < cLine) : OpR X (compareOp .In) (rDIn false) := by
  intro pins s σ H x y v u Q I rx ry h
  obtain ⟨a, o, rfl, g, q⟩ := h
  obtain rfl : u = Value.ref a := ry
  exact d_in hu I g rx fun s3 I3 => ⟨.bl o.isSome, H, I3, rfl, q⟩
theorem oR_niD (hu : X.A.units + 1 < cLine) : OpR X (compareOp .NotIn) (rDIn true) := by
  intro pins s σ H x y v u Q I rx ry h
  obtain ⟨a, o, rfl, g, q⟩ := h
  obtain rfl : u = Value.ref a := ry
  exact d_notIn hu I g rx fun s3 I3 => ⟨.bl (!o.isSome), H, I3, rfl, q⟩
theorem oD_inDk {neg : Bool} : OpD (rDIn neg) (inDk neg) := by
  intro Z G α H μ x y a b res Q E S ra rb e w
  unfold inDk at e
  split at e
  · rename_i k kvs h1 h2
    cases e
    obtain ⟨p, o, rfl, g, q1, q2⟩ := dget_k S rb ra h2 h1
    refine ⟨p, o, rfl, g, ?_⟩
    have e : o.isSome = (dGet kvs k).isSome := by
      cases z : dGet kvs k with
      | none => rw [q2 z]; rfl
      | some d => obtain ⟨v, rfl, _⟩ := q1 d z; rfl
    rw [e]
    exact w.pure S (.bl _)
  · cases e
def rSg (neg : Bool) : R2 := fun x y H Q => ∃ (c : Nat) (z : Str), x = .str ⟨#[c]⟩ ∧ y = .str z ∧ Q (.bl (if neg then !decide (c ∈ z.cps.toList) else decide (c ∈ z.cps.toList))) H
theorem oD_inSg {neg : Bool} : OpD (rSg neg) (inSg neg) := by
  intro Z G α H μ x y a b res Q E S ra rb e w
  unfold inSg at e
  split at e
  · rename_i x1 y1
    split at e
    · rename_i c h
      cases e
      refine ⟨c, _, ?_, inv_str rb, w.pure S (.bl _)⟩
      rw [inv_str ra]
      congr 1
      obtain ⟨⟨l⟩⟩ := x1
      simp at h
      subst h
      rfl
    · cases e
  · cases e
theorem cIn {k : Nat} (hr : Room k X.A) : CmpR X .In (opIn false) := ⟨_, op_in_seq.or ((oR_inD (hu1 hr)).or (op_in_sign : OpR X (compareOp .In) (rSg false))), oD_inL.or (oD_inDk.or oD_inSg)⟩
theorem cNotIn {k : Nat} (hr : Room k X.A) : CmpR X .NotIn (opIn true) := ⟨_, op_notIn_seq.or ((oR_niD (hu1 hr)).or (op_notIn_sign : OpR X (compareOp .NotIn) (rSg true))), oD_inL.or (oD_inDk.or oD_inSg)⟩
end
end Sx

/-! SxStm: statements, targets, loops, comprehensions. -/
namespace Sx
open PySem L2

def wS (Z : Wd) (W : WX) (G : Addr → Prop) (α : List Addr) (H : Hp) (o : SOut) (D : Ends) : Prop := match o with
  | .stuck => False
  | .next ρ' μ' => ∀ σ' H' α', Post α H α' H' → RepS Z G α' H' μ' → RepE G α' H' σ' ρ' → D.nx σ' H'
  | .brk ρ' μ' => ∀ σ' H' α', Post α H α' H' → RepS Z G α' H' μ' → RepE G α' H' σ' ρ' → D.bk σ' H'
  | .cnt ρ' μ' => ∀ σ' H' α', Post α H α' H' → RepS Z G α' H' μ' → RepE G α' H' σ' ρ' → D.ct σ' H'
  | .ret r μ' => wE Z G α H (.ok r μ') D.rt fun _ _ _ => False
  | .exc x ρ' μ' => ∀ cls dd σ' H' α', Post α H α' H' → RepS Z G α' H' μ' → RepE G α' H' σ' ρ' → RepX Z (off G α') x cls dd H' → W cls dd σ' H'
def tS (Z : Wd) (W : WX) (g : SS) : TS := fun D σ H => ∃ G α ρ μ, RepS Z G α H μ ∧ RepE G α H σ ρ ∧ wS Z W G α H (g ρ μ) D
section
variable {Z : Wd} {W : WX} {G : Addr → Prop} {α α1 : List Addr} {H H1 : Hp} {μ μ1 : Sto} {D D' : Ends}
theorem wS.post {o : SOut} (p : Post α H α1 H1) (h : wS Z W G α H o D) : wS Z W G α1 H1 o D := by
  cases o with
  | stuck => exact h
  | next ρ' μ' => exact fun σ' H' α' q s r => h σ' H' α' (p.trans q) s r
  | brk ρ' μ' => exact fun σ' H' α' q s r => h σ' H' α' (p.trans q) s r
  | cnt ρ' μ' => exact fun σ' H' α' q s r => h σ' H' α' (p.trans q) s r
  | ret r μ' => exact wE.post p h
  | exc x ρ' μ' => exact fun c d σ' H' α' q s r => h c d σ' H' α' (p.trans q) s r
/-- behind an expression of a statement -/
def eS (o : Out Res) (ρ : Env) (k : Val → Sto → SOut) : SOut := match o with
  | .ok r μ => k r.val μ
  | .exc x μ => .exc x ρ μ
  | .stuck => .stuck
theorem wS.eS {o : Out Res} {ρ : Env} {σ : St} {k : Val → Sto → SOut} {Q1 : VK} (E : RepE G α H σ ρ) (h : wS Z W G α H (eS o ρ k) D)
    (hq : ∀ v H1 α1 μ1 val, Post α H α1 H1 → RepS Z G α1 H1 μ1 → RpV G α1 H1 v val → wS Z W G α1 H1 (k val μ1) D → Q1 v H1) : wE Z G α H o Q1 fun c d H' => W c d σ H' := by
  cases o with
  | stuck => exact h
  | exc x μ' => exact fun c d H' α' p s r => h c d σ H' α' p s (E.post p) r
  | ok r μ' =>
    cases r with
    | dat d => exact fun v H' α' p s r => hq v H' α' μ' (.dat d) p s r (wS.post p h)
    | loc k => exact fun a H' α' p s r => hq _ H' α' μ' (.loc k) p s ⟨a, r, rfl⟩ (wS.post p h)
    | new c => exact fun q H' α' p n s => hq _ H' α' μ' (.dat c.frz) p s.freeze.1 s.freeze.2 (wS.post p h)
/-- the same where a new object is kept as a cell -/
def eC (o : Out Res) (ρ : Env) (k : Val → Sto → SOut) : SOut := match o with
  | .ok (.dat d) μ => k (.dat d) μ
  | .ok (.loc n) μ => k (.loc n) μ
  | .ok (.new c) μ => k (.loc μ.length) (μ ++ [c])
  | .exc x μ => .exc x ρ μ
  | .stuck => .stuck
theorem wS.eC {o : Out Res} {ρ : Env} {σ : St} {k : Val → Sto → SOut} {Q1 : VK} (E : RepE G α H σ ρ) (h : wS Z W G α H (eC o ρ k) D)
    (hq : ∀ v H1 α1 μ1 val, Post α H α1 H1 → RepS Z G α1 H1 μ1 → RpV G α1 H1 v val → wS Z W G α1 H1 (k val μ1) D → Q1 v H1) : wE Z G α H o Q1 fun c d H' => W c d σ H' := by
  cases o with
  | stuck => exact h
  | exc x μ' => exact fun c d H' α' p s r => h c d σ H' α' p s (E.post p) r
  | ok r μ' =>
    cases r with
    | dat d => exact fun v H' α' p s r => hq v H' α' μ' (.dat d) p s r (wS.post p h)
    | loc k => exact fun a H' α' p s r => hq _ H' α' μ' (.loc k) p s ⟨a, r, rfl⟩ (wS.post p h)
    | new c =>
      refine fun q H' α' p n s => hq _ H' (α' ++ [q]) (μ' ++ [c]) (.loc μ'.length) (p.new n) s ⟨q, ?_, rfl⟩ (wS.post (p.new n) h)
      have hl : α'.length = μ'.length := by have := s.len; simp at this; exact this
      rw [← hl]
      simp
end

/-! ### blocks, small statements -/
def sNext : SS := fun ρ μ => .next ρ μ
def sSeq (g h : SS) : SS := fun ρ μ => match g ρ μ with
  | .next ρ1 μ1 => h ρ1 μ1
  | r => r
def sBrk : SS := fun ρ μ => .brk ρ μ
def sCnt : SS := fun ρ μ => .cnt ρ μ
def sDrop (f : SE) : SS := fun ρ μ => eS (f ρ μ) ρ fun _ μ1 => .next ρ μ1
def sRet (f : SE) : SS := fun ρ μ => match f ρ μ with
  | .ok r μ1 => .ret r μ1
  | .exc x μ1 => .exc x ρ μ1
  | .stuck => .stuck
def sRetN : SS := fun _ μ => .ret (.dat .non) μ
def onS (v : Val) (t f : SOut) : SOut := match v with
  | .dat (.bl true) => t
  | .dat (.bl false) => f
  | _ => .stuck
def sIfS (c : SE) (g h : SS) : SS := fun ρ μ => eS (c ρ μ) ρ fun v μ1 => onS v (g ρ μ1) (h ρ μ1)
def sSet (i : Nat) (f : SE) : SS := fun ρ μ => eS (f ρ μ) ρ fun v μ1 => .next (ρ.set i (some v)) μ1
/-- the name holds a cell from now on -/
def sSetC (i : Nat) (f : SE) : SS := fun ρ μ => eC (f ρ μ) ρ fun v μ1 => .next (ρ.set i (some v)) μ1
theorem RepE.set {G : Addr → Prop} {α : List Addr} {H : Hp} {σ : St} {ρ : Env} {i : Nat} {x : V} {v : Val} (E : RepE G α H σ ρ) (r : RpV G α H x v) : RepE G α H (σ.set i (some x)) (ρ.set i (some v)) := by
  refine ⟨by simp [E.len], fun j u h => ?_⟩
  by_cases e : i = j
  · subst e
    have hl : i < ρ.length := by have := (List.getElem?_eq_some_iff.mp h).1; simpa using this
    rw [List.getElem?_set_self hl] at h
    cases h
    exact ⟨x, List.getElem?_set_self (by rw [E.len]; exact hl), r⟩
  · rw [List.getElem?_set_ne e] at h
    rw [List.getElem?_set_ne e]
    exact E.get j u h
section
variable {X : Cx} {Z : Wd} {W : WX} {st : Stmt} {rest : List Stmt} {g h : SS} {f : SE} {e : Expr} {pos : Pos}
theorem s_nil : PSs X [] (tS Z W sNext) := PSsimp pss_nil fun D σ H ⟨G, α, ρ, μ, S, E, w⟩ => w σ H α Post.refl S E
theorem s_cons (h1 : PS X st (tS Z W g)) (h2 : PSs X rest (tS Z W h)) : PSs X (st :: rest) (tS Z W (sSeq g h)) := by
  refine PSsimp (pss_cons h1 h2) ?_
  rintro D σ H ⟨G, α, ρ, μ, S, E, w⟩
  refine ⟨G, α, ρ, μ, S, E, ?_⟩
  unfold sSeq at w
  cases q : g ρ μ with
  | next ρ1 μ1 =>
    simp only [q] at w
    exact fun σ' H' α' p s r => ⟨G, α', ρ1, μ1, s, r, wS.post p w⟩
  | stuck => simp only [q] at w; exact w
  | brk ρ' μ' => simp only [q] at w; exact w
  | cnt ρ' μ' => simp only [q] at w; exact w
  | ret r μ' => simp only [q] at w; exact w
  | exc x ρ' μ' => simp only [q] at w; exact w
theorem s_one (h1 : PS X st (tS Z W g)) : PSs X [st] (tS Z W g) := pss_one h1
theorem s_pass : PS X (.Pass pos) (tS Z W sNext) := PSimp ps_pass fun D σ H ⟨G, α, ρ, μ, S, E, w⟩ => w σ H α Post.refl S E
theorem s_break : PS X (.Break pos) (tS Z W sBrk) := PSimp ps_break fun D σ H ⟨G, α, ρ, μ, S, E, w⟩ => w σ H α Post.refl S E
theorem s_continue : PS X (.Continue pos) (tS Z W sCnt) := PSimp ps_continue fun D σ H ⟨G, α, ρ, μ, S, E, w⟩ => w σ H α Post.refl S E
theorem s_expr (he : PE X e (tD Z W f)) (hs : swapsWith e none pos.line X.env = pure false := by rfl) : PS X (.Expr e pos) (tS Z W (sDrop f)) := by
  refine PSimp (ps_expr he hs) ?_
  rintro D σ H ⟨G, α, ρ, μ, S, E, w⟩
  exact ⟨G, α, ρ, μ, S, E, wS.eS E w fun v H1 α1 μ1 val p s r w1 => w1 σ H1 α1 Post.refl s (E.post p)⟩
theorem s_ret (he : PE X e (tD Z W f)) : PS X (.Return (some e) pos) (tS Z W (sRet f)) := by
  refine PSimp (ps_ret he) ?_
  rintro D σ H ⟨G, α, ρ, μ, S, E, w⟩
  refine ⟨G, α, ρ, μ, S, E, ?_⟩
  unfold sRet at w
  cases q : f ρ μ with
  | stuck => simp only [q] at w; exact w
  | exc x μ1 => simp only [q] at w; exact fun c d H' α' p s r => w c d σ H' α' p s (E.post p) r
  | ok r μ1 =>
    simp only [q] at w
    cases r with
    | dat d => exact w
    | loc k => exact w
    | new c => exact w
theorem s_retN : PS X (.Return none pos) (tS Z W sRetN) := PSimp ps_retN fun D σ H ⟨G, α, ρ, μ, S, E, w⟩ => w .non H α Post.refl S .non
theorem s_if {c : Expr} {a b : List Stmt} (hc : PT X c (tB Z W f)) (ha : PSs X a (tS Z W g)) (hb : PSs X b (tS Z W h)) : PS X (.If c a b pos) (tS Z W (sIfS f g h)) := by
  refine PSimp (ps_if hc ha hb) ?_
  rintro D σ H ⟨G, α, ρ, μ, S, E, w⟩
  refine ⟨G, α, ρ, μ, S, E, wS.eS E w fun v H1 α1 μ1 val p s r w1 => ?_⟩
  cases val with
  | loc k => exact w1.elim
  | dat d =>
    cases d with
    | bl b =>
      rw [inv_bl r]
      refine ⟨b, rfl, ?_⟩
      cases b with
      | true => exact ⟨G, α1, ρ, μ1, s, E.post p, w1⟩
      | false => exact ⟨G, α1, ρ, μ1, s, E.post p, w1⟩
    | _ => exact w1.elim
theorem s_set {i : Nat} {x : Str} {pos' : Pos} (hN : X.N.Nodup) (he : PE X e (tD Z W f)) (hi : X.N[i]? = some x := by rfl) (hx : Loc X.env.scope x := by first | exact Or.inl rfl | exact Or.inr rfl) (hs : swapsWith e (some (.Name x pos')) pos.line X.env = pure false := by rfl)
    (hf : X.fn x = true ∨ X.env.scope.names.lookup x = some .local := by first | exact .inl rfl | exact .inr rfl | assumption) : PS X (.Assign [.Name x pos'] e pos) (tS Z W (sSet i f)) := by
  refine PSimp (ps_set hN hi hx he hs hf) ?_
  rintro D σ H ⟨G, α, ρ, μ, S, E, w⟩
  exact ⟨G, α, ρ, μ, S, E, wS.eS E w fun v H1 α1 μ1 val p s r w1 => w1 _ H1 α1 Post.refl s ((E.post p).set r)⟩
theorem s_setC {i : Nat} {x : Str} {pos' : Pos} (hN : X.N.Nodup) (he : PE X e (tD Z W f)) (hi : X.N[i]? = some x := by rfl) (hx : Loc X.env.scope x := by first | exact Or.inl rfl | exact Or.inr rfl) (hs : swapsWith e (some (.Name x pos')) pos.line X.env = pure false := by rfl)
    (hf : X.fn x = true ∨ X.env.scope.names.lookup x = some .local := by first | exact .inl rfl | exact .inr rfl | assumption) : PS X (.Assign [.Name x pos'] e pos) (tS Z W (sSetC i f)) := by
  refine PSimp (ps_set hN hi hx he hs hf) ?_
  rintro D σ H ⟨G, α, ρ, μ, S, E, w⟩
  exact ⟨G, α, ρ, μ, S, E, wS.eC E w fun v H1 α1 μ1 val p s r w1 => w1 _ H1 α1 Post.refl s ((E.post p).set r)⟩
end

/-! ### targets -/
abbrev SG := Val → Env → Option Env
def GOk (t : TG) (g : SG) (vs : List Nat) : Prop := ∀ Z G α H μ σ ρ v a ρ' Q, RepS Z G α H μ → RepE G α H σ ρ → RpV G α H v a → g a ρ = some ρ' → (∀ σ', RepE G α H σ' ρ' → wipe σ' vs = wipe σ vs → Q σ' H) → t v σ H Q
def GsOk (t : TGs) (g : List D → Env → Option Env) (vs : List Nat) : Prop := ∀ Z G α H μ σ ρ xs ds ρ' Q, RepS Z G α H μ → RepE G α H σ ρ → RpL H (off G α) xs ds → g ds ρ = some ρ' → (∀ σ', RepE G α H σ' ρ' → wipe σ' vs = wipe σ vs → Q σ' H) → t xs σ H Q
def gN (i : Nat) : SG := fun v ρ => some (ρ.set i (some v))
def gsNil : List D → Env → Option Env
  | [], ρ => some ρ
  | _, _ => none
def gsCons (g : SG) (gs : List D → Env → Option Env) : List D → Env → Option Env
  | d :: ds, ρ => match g (.dat d) ρ with
    | some ρ1 => gs ds ρ1
    | none => none
  | [], _ => none
def gT (n : Nat) (gs : List D → Env → Option Env) : SG := fun v ρ => match rdT v with
  | some ds => if ds.length = n then gs ds ρ else none
  | none => none
theorem wipe_set {σ : St} {i : Nat} {x : Option V} : ∀ {vs : List Nat}, i ∈ vs → wipe (σ.set i x) vs = wipe σ vs
  | v :: vs, h => by
    show (wipe (σ.set i x) vs).set v none = (wipe σ vs).set v none
    by_cases e : i ∈ vs
    · rw [wipe_set e]
    · have hv : i = v := by
        rcases List.mem_cons.mp h with h | h
        · exact h
        · exact absurd h e
      subst hv
      have z : ∀ (vs : List Nat), i ∉ vs → wipe (σ.set i x) vs = (wipe σ vs).set i x := by
        intro vs
        induction vs with
        | nil => intro _; rfl
        | cons w ws ih =>
          intro hn
          simp only [List.mem_cons, not_or] at hn
          show (wipe (σ.set i x) ws).set w none = ((wipe σ ws).set w none).set i x
          rw [ih hn.2, List.set_comm _ _ hn.1]
      rw [z vs e, List.set_set]
theorem gk_name {i : Nat} {vs : List Nat} (h : i ∈ vs := by simp) : GOk (gName i) (gN i) vs := by
  intro Z G α H μ σ ρ v a ρ' Q S E r e q
  simp only [gN, Option.some.injEq] at e
  subst e
  exact q _ (E.set r) (wipe_set h)
theorem gks_nil {vs : List Nat} : GsOk gNil gsNil vs := by
  intro Z G α H μ σ ρ xs ds ρ' Q S E r e q
  cases r with
  | nil => simp only [gsNil, Option.some.injEq] at e; subst e; exact ⟨rfl, q _ E rfl⟩
  | cons r t => simp [gsNil] at e
theorem gks_cons {t : TG} {u : TGs} {g : SG} {gs : List D → Env → Option Env} {vs : List Nat} (h1 : GOk t g vs) (h2 : GsOk u gs vs) : GsOk (gCons t u) (gsCons g gs) vs := by
  intro Z G α H μ σ ρ xs ds ρ' Q S E r e q
  cases r with
  | nil => simp [gsCons] at e
  | cons r tl =>
    simp only [gsCons] at e
    split at e
    · rename_i ρ1 h
      refine ⟨_, _, rfl, h1 Z G α H μ σ ρ _ (.dat _) ρ1 _ S E r h fun σ1 E1 w1 => ?_⟩
      exact h2 Z G α H μ σ1 ρ1 _ _ ρ' _ S E1 tl e fun σ2 E2 w2 => q σ2 E2 (w2.trans w1)
    · cases e
theorem gk_tup {K : PySem.W.Frag} {n : Nat} {u : TGs} {gs : List D → Env → Option Env} {vs : List Nat} (h : GsOk u gs vs) : GOk (gTup K n u) (gT n gs) vs := by
  intro Z G α H μ σ ρ v a ρ' Q S E r e q
  simp only [gT] at e
  split at e
  · rename_i ds hd
    split at e
    · rename_i hl
      obtain ⟨p, xs, rfl, e2, e3⟩ := rdT_ok r hd
      exact ⟨p, xs, rfl, e2.sq, by rw [e3.length]; exact hl, h Z G α H μ σ ρ xs ds ρ' Q S E e3 e q⟩
    · cases e
  · cases e
/-- a target = e -/
def sAsg (g : SG) (f : SE) : SS := fun ρ μ => eS (f ρ μ) ρ fun v μ1 => match g v ρ with
  | some ρ1 => .next ρ1 μ1
  | none => .stuck
theorem s_asg {X : Cx} {Z : Wd} {W : WX} {tg e : Expr} {pos : Pos} {f : SE} {t : TG} {g : SG} {vs : List Nat} (he : PE X e (tD Z W f)) (hg : PG X tg t) (hG : GOk t g vs) (hs : swapsWithSole [tg] e pos.line X.env = pure false := by rfl)
    (hw : swappedStores [tg] e X.env = pure none := by rfl) (h1 : (assignEach [tg] X.env).map (·.2) = [assign tg X.env] := by rfl) : PS X (.Assign [tg] e pos) (tS Z W (sAsg g f)) := by
  refine PSimp (ps_asg he hg hs hw h1) ?_
  rintro D σ H ⟨G, α, ρ, μ, S, E, w⟩
  refine ⟨G, α, ρ, μ, S, E, wS.eS E w fun v H1 α1 μ1 val p s r w1 => ?_⟩
  cases q : g val ρ with
  | none => simp only [q] at w1; exact w1.elim
  | some ρ1 =>
    simp only [q] at w1
    exact hG _ G α1 H1 μ1 σ ρ v val ρ1 _ s (E.post p) r q fun σ' E' _ => w1 σ' H1 α1 Post.refl s E'
end Sx

/-! SxLoop: what is walked, for, while, comprehensions. -/
namespace Sx
open PySem L2

/-! ### what is walked -/
/-- what has happened since, but to what is guarded -/
structure PostG (G : Addr → Prop) (α : List Addr) (H : Hp) (α' : List Addr) (H' : Hp) : Prop where
  ext : ∃ β, α' = α ++ β
  fresh : ∀ b, b ∈ α' → b ∉ α → H b = none
  keep0 : ∀ b o, H b = some o → b ∉ α → ¬ G b → (∀ ps, o ≠ .tbl ps) → H' b = some o
  dom : ∀ b o, H b = some o → ∃ o', H' b = some o'
  tbl : ∀ b ps, H b = some (.tbl ps) → b ∉ α → ¬ G b → ∃ ps', H' b = some (.tbl ps')
theorem PostG.keep {G : Addr → Prop} {α α' : List Addr} {H H' : Hp} (p : PostG G α H α' H') (b : Addr) (o : HO) (h : H b = some o) (n : b ∉ α) (g : ¬ G b) (t : ∀ ps, o ≠ .tbl ps := by intro _ z; cases z) : H' b = some o := p.keep0 b o h n g t
theorem PostG.kp {G : Addr → Prop} {α α' : List Addr} {H H' : Hp} (p : PostG G α H α' H') (b : Addr) (o : HO) (h : H b = some o) (n : b ∉ α) (g : ¬ G b) : ∃ o', H' b = some o' ∧ Kp o o' := by
  by_cases t : ∃ ps, o = .tbl ps
  · obtain ⟨ps, rfl⟩ := t
    obtain ⟨ps', e⟩ := p.tbl b ps h n g
    exact ⟨_, e, .inr (.inr ⟨ps, ps', rfl, rfl⟩)⟩
  · exact ⟨o, p.keep0 b o h n g fun ps z => t ⟨ps, z⟩, .inl rfl⟩
theorem Post.g {G : Addr → Prop} {α α' : List Addr} {H H' : Hp} (p : Post α H α' H') : PostG G α H α' H' := ⟨p.ext, p.fresh, fun b o h n _ t => p.keep0 b o h n t, p.dom, fun b ps h n _ => p.tbl b ps h n⟩
theorem PostG.keepN {G : Addr → Prop} {α α' : List Addr} {H H' : Hp} {a : Addr} {o : HO} (p : PostG G α H α' H') (h : H a = some o) (n : ¬ off G α a) (t : ∀ ps, o ≠ .tbl ps := by intro _ z; cases z) : H' a = some o := p.keep a o h (fun z => n (.inr z)) (fun z => n (.inl z)) t
theorem PostG.keptG {G G2 : Addr → Prop} {α α1 : List Addr} {H H1 : Hp} (p : PostG G α H α1 H1) (hG : ∀ b, G2 b → G b ∨ H b = none) : ∀ a o, ¬ off G α a → H a = some o → (∃ o', H1 a = some o' ∧ Kp o o') ∧ ¬ off G2 α1 a := fun a o n e => by
  refine ⟨p.kp a o e (fun z => n (.inr z)) fun z => n (.inl z), fun h => ?_⟩
  rcases h with h | h
  · rcases hG a h with h | h
    · exact n (.inl h)
    · rw [h] at e; cases e
  · rw [p.fresh a h fun z => n (.inr z)] at e; cases e
structure Walks (G : Addr → Prop) (α : List Addr) (H : Hp) (J : It) (ds : List D) : Prop where
  len : ds.length ≤ sizeLine
  go : ∀ (i : Nat) α1 H1, PostG G α H α1 H1 → i < ds.length → J.go i H1
  yld : ∀ (G2 : Addr → Prop) (i : Nat) α1 H1 μ1 x H2 d, (∀ b, G2 b → G b ∨ H b = none) → PostG G α H α1 H1 → RepS Z G2 α1 H1 μ1 → J.yld i H1 x H2 → ds[i]? = some d → Post α1 H1 α1 H2 ∧ RepS Z G2 α1 H2 μ1 ∧ Rp H2 (off G2 α1) x d
  stop : ∀ (i : Nat) α1 H1, PostG G α H α1 H1 → i = ds.length → J.stop i H1
abbrev SI := Env → Sto → Out (List D)
def wI (Z : Wd) (G : Addr → Prop) (α : List Addr) (H : Hp) (o : Out (List D)) (R : It → Hp → Prop) (E : XK) : Prop := match o with
  | .stuck => False
  | .ok ds μ' => ∀ J H' α', Post α H α' H' → RepS Z G α' H' μ' → Walks G α' H' J ds → R J H'
  | .exc x μ' => ∀ cls dd H' α', Post α H α' H' → RepS Z G α' H' μ' → RepX Z (off G α') x cls dd H' → E cls dd H'
def tI (Z : Wd) (W : WX) (f : SI) : TI := fun σ H R => ∃ G α ρ μ, RepS Z G α H μ ∧ RepE G α H σ ρ ∧ wI Z G α H (f ρ μ) R fun c d H' => W c d σ H'
theorem Post.keptG {G G2 : Addr → Prop} {α α1 : List Addr} {H H1 : Hp} (p : Post α H α1 H1) (hG : ∀ b, G2 b → G b ∨ H b = none) : ∀ a o, ¬ off G α a → H a = some o → (∃ o', H1 a = some o' ∧ Kp o o') ∧ ¬ off G2 α1 a := fun a o n e => by
  refine ⟨(p.kept a o n e).1, fun h => ?_⟩
  rcases h with h | h
  · rcases hG a h with h | h
    · exact n (.inl h)
    · rw [h] at e; cases e
  · exact (p.kept a o n e).2 (.inr h)
/-- lists and tuples that stand in the heap are not too long -/
def LenOk (H : Hp) : Prop := ∀ a xs, (Rd H a (.lst xs) ∨ TupAt H a xs) → xs.length ≤ sizeLine
theorem lenOk_of {P : Program} {w : World} {H : Hp} {h : Heap} (x : HOk P w H h) : LenOk H := fun a xs r => by
  rcases r with (r | ⟨o, r⟩) | ⟨o, r, _⟩
  · exact (x a _ r).1
  · exact (show ObjOk P w H h a (.lst xs) from (x a _ r).2).1
  · exact (show ObjOk P w H h a (.tup xs) from (x a _ r).2).1
theorem PIimp {X : Cx} {tg e : Expr} {t t' : TI} (h : PI X tg e t) (i : ∀ σ H R, t' σ H R → t σ H fun J H1 => LenOk H1 → R J H1) : PI X tg e t' := ⟨fun pins s σ H R I hw => by
  refine thn (h.run pins s σ H (fun J H1 => LenOk H1 → R J H1) I (i σ H R hw)) fun v s1 h1 => thn h1 fun itv s2 h2 => ?_
  obtain ⟨it, fp, tn, J, H', e, I', T, st, f, r⟩ := h2
  exact ⟨it, fp, tn, J, H', e, I', T, st, f, r (lenOk_of I'.hok)⟩⟩
/-- an operand that is walked -/
def opdI (o : Out Res) (k : Val → Sto → Option (List D)) : Out (List D) := match o with
  | .ok r μ => match k r.val μ with
    | some ds => .ok ds μ
    | none => .stuck
  | .exc x μ => .exc x μ
  | .stuck => .stuck
theorem want_opdI {Z : Wd} {G : Addr → Prop} {α : List Addr} {H : Hp} {o : Out Res} {k : Val → Sto → Option (List D)} {R : It → Hp → Prop} {E : XK} {Q1 : VK} (h : wI Z G α H (opdI o k) R E)
    (hq : ∀ v H1 α1 μ1 val ds, Post α H α1 H1 → RepS Z G α1 H1 μ1 → RpV G α1 H1 v val → k val μ1 = some ds → (∀ J H2, Post α1 H1 α1 H2 → RepS Z G α1 H2 μ1 → Walks G α1 H2 J ds → R J H2) → Q1 v H1) : wE Z G α H o Q1 E := by
  cases o with
  | stuck => exact h
  | exc x μ' => exact h
  | ok r μ' =>
    cases q : k r.val μ' with
    | none => simp only [opdI, q] at h; exact h.elim
    | some ds =>
      simp only [opdI, q] at h
      have fin : ∀ {H1 : Hp} {α1 : List Addr}, Post α H α1 H1 → ∀ J H2, Post α1 H1 α1 H2 → RepS Z G α1 H2 μ' → Walks G α1 H2 J ds → R J H2 := fun p J H2 p2 s2 wk => h J H2 _ (p.trans p2) s2 wk
      cases r with
      | dat d => exact fun v H' α' p s r => hq v H' α' μ' (.dat d) ds p s r q (fin p)
      | loc n => exact fun a H' α' p s r => hq _ H' α' μ' (.loc n) ds p s ⟨a, r, rfl⟩ q (fin p)
      | new c => exact fun z H' α' p n s => hq _ H' α' μ' (.dat c.frz) ds p s.freeze.1 s.freeze.2 q (fin p)
section
variable {X : Cx} {Z : Wd} {W : WX} {tg e : Expr} {f : SE} {pos p : Pos}
/-- a list that is data -/
def itL : Val → Sto → Option (List D)
  | .dat (.lst ds), _ => some ds
  | _, _ => none
def itT : Val → Sto → Option (List D)
  | .dat (.tup ds), _ => some ds
  | _, _ => none
theorem inv_lst {H : Hp} {F : Addr → Prop} {v : V} {ds : List D} (r : Rp H F v (.lst ds)) : ∃ a xs, v = .ref a ∧ H a = some (.lst xs) ∧ ¬ F a ∧ RpL H F xs ds := by
  cases r with
  | lst h n l => exact ⟨_, _, rfl, h, n, l⟩
theorem inv_tup {H : Hp} {F : Addr → Prop} {v : V} {ds : List D} (r : Rp H F v (.tup ds)) : ∃ a xs, v = .ref a ∧ TupAt H a xs ∧ ¬ F a ∧ RpL H F xs ds := by
  cases r with
  | tup h n l => exact ⟨_, _, rfl, h, n, l⟩
/-- range(n), range(a, b) -/
def rngD (lo : Int) (n : Nat) : List D := (List.range n).map fun (i : Nat) => .int (lo + i)
def rng1 : Val → Option (List D)
  | .dat (.int j) => if -(2 ^ 62) ≤ j ∧ j < 2 ^ 62 ∧ j.toNat ≤ sizeLine then some (rngD 0 j.toNat) else none
  | _ => none
def rng2 : Val → Val → Option (List D)
  | .dat (.int i), .dat (.int j) => if -(2 ^ 62) ≤ i ∧ i < 2 ^ 62 ∧ -(2 ^ 62) ≤ j ∧ j < 2 ^ 62 ∧ (j - i).toNat ≤ sizeLine then some (rngD i (j - i).toNat) else none
  | _, _ => none
def argI (k : List Val → Option (List D)) (fs : List SE) : SI := fun ρ μ => match sArgs fs ρ μ with
  | .ok as μ1 => match k as with
    | some ds => .ok ds μ1
    | none => .stuck
  | .exc x μ1 => .exc x μ1
  | .stuck => .stuck
def k1I (k : Val → Option (List D)) : List Val → Option (List D)
  | [a] => k a
  | _ => none
def k2I (k : Val → Val → Option (List D)) : List Val → Option (List D)
  | [a, b] => k a b
  | _ => none
theorem want_argI {Z : Wd} {G : Addr → Prop} {α : List Addr} {H : Hp} {μ : Sto} {k : List Val → Option (List D)} {fs : List SE} {ρ : Env} {R : It → Hp → Prop} {E : XK} {Q : List V → Hp → Prop} (w : wI Z G α H (argI k fs ρ μ) R E)
    (hq : ∀ vs H1 α1 μ1 as ds, Post α H α1 H1 → RepS Z G α1 H1 μ1 → RpVs G α1 H1 vs as → as.length = fs.length → k as = some ds → (∀ J H2, Post α1 H1 α1 H2 → RepS Z G α1 H2 μ1 → Walks G α1 H2 J ds → R J H2) → Q vs H1) : wA Z G α H (sArgs fs ρ μ) Q E := by
  unfold argI at w
  cases h : sArgs fs ρ μ with
  | stuck => simp only [h] at w; exact w.elim
  | exc x μ1 => simp only [h] at w; exact w
  | ok as μ1 =>
    simp only [h] at w
    intro vs H1 α1 p1 S1 r1
    cases q : k as with
    | none => simp only [q] at w; exact w.elim
    | some ds =>
      simp only [q] at w
      exact hq vs H1 α1 μ1 as ds p1 S1 r1 (sArgs_len h) q fun J H2 p2 s2 wk => w J H2 α1 (p1.trans p2) s2 wk
theorem walks_rng {G : Addr → Prop} {α : List Addr} {H : Hp} {lo : Int} {n : Nat} (hn : n ≤ sizeLine) : Walks G α H (Itr lo n) (rngD lo n) := by
  have hl : (rngD lo n).length = n := by simp [rngD]
  refine ⟨by rw [hl]; exact hn, fun i α2 H2 p2 hi => ?_, fun G2 i α2 H2 μ2 x H3 d hG p2 S2 y e => ?_, fun i α2 H2 p2 hi => ?_⟩
  · show i < n
    rw [hl] at hi; exact hi
  · obtain ⟨rfl, rfl⟩ := y
    have hi : i < n := by have := (List.getElem?_eq_some_iff.mp e).1; rw [hl] at this; exact this
    rw [rngD, List.getElem?_map, List.getElem?_range hi] at e
    cases e
    exact ⟨Post.refl, S2, .int _⟩
  · show n ≤ i
    rw [hl] at hi; exact Nat.le_of_eq hi.symm
theorem i_range1 {a : Expr} (hg : Gl X "range") (hm : X.mg "range" = none) (ha : PA X [a] (tA Z W (sArgs [f]))) (hs : starEach [a] X.env = [(false, eval a X.env)] := by rfl) : PI X tg (.Call (.Name "range" p) [a] [] pos) (tI Z W (argI (k1I rng1) [f])) := by
  refine PIimp (pi_range1 hg hm ha hs) ?_
  rintro σ H R ⟨G, α, ρ, μ, S, E, w⟩
  refine ⟨G, α, ρ, μ, S, E, want_argI w fun vs H1 α1 μ1 as ds p1 S1 r1 hl q k => ?_⟩
  match as, hl with
  | [a], _ =>
    obtain ⟨x, rfl, rx⟩ := vs1 r1
    simp only [k1I] at q
    unfold rng1 at q
    split at q
    · rename_i j _
      split at q
      · rename_i hj
        cases q
        exact ⟨j, by rw [inv_ii rx], hj.1, hj.2.1, fun _ => k _ H1 Post.refl S1 (walks_rng hj.2.2)⟩
      · cases q
    · cases q
theorem i_range2 {a b : Expr} {g : SE} (hg : Gl X "range") (hm : X.mg "range" = none) (ha : PA X [a, b] (tA Z W (sArgs [f, g]))) (hs : starEach [a, b] X.env = [(false, eval a X.env), (false, eval b X.env)] := by rfl) (hs2 : starEach [b] X.env = [(false, eval b X.env)] := by rfl) :
    PI X tg (.Call (.Name "range" p) [a, b] [] pos) (tI Z W (argI (k2I rng2) [f, g])) := by
  refine PIimp (pi_range2 hg hm ha hs hs2) ?_
  rintro σ H R ⟨G, α, ρ, μ, S, E, w⟩
  refine ⟨G, α, ρ, μ, S, E, want_argI w fun vs H1 α1 μ1 as ds p1 S1 r1 hl q k => ?_⟩
  match as, hl with
  | [a, b], _ =>
    obtain ⟨x, y, rfl, rx, ry⟩ := vs2 r1
    simp only [k2I] at q
    unfold rng2 at q
    split at q
    · rename_i i j _
      split at q
      · rename_i hj
        cases q
        exact ⟨i, j, by rw [inv_ii rx, inv_ii ry], ⟨hj.1, hj.2.1, hj.2.2.1, hj.2.2.2.1⟩, fun _ => k _ H1 Post.refl S1 (walks_rng hj.2.2.2.2)⟩
      · cases q
    · cases q
/-- zip(xs, ys) of two lists, enumerate(xs) of a list: a new pair each turn -/
def zipD (xs ys : List D) : List D := (xs.zip ys).map fun p => .tup [p.1, p.2]
def zipL : Val → Val → Option (List D)
  | .dat (.lst xs), .dat (.lst ys) => some (zipD xs ys)
  | .dat (.tup xs), .dat (.tup ys) => some (zipD xs ys)
  | .dat (.lst xs), .dat (.tup ys) => some (zipD xs ys)
  | .dat (.tup xs), .dat (.lst ys) => some (zipD xs ys)
  | _, _ => none
/-- enumerate(xs) of a list or a tuple -/
def enumD (xs : List D) : List D := xs.zipIdx.map fun p => .tup [.int (p.2 : Nat), p.1]
def enumL : Val → Option (List D)
  | .dat (.lst xs) => some (enumD xs)
  | .dat (.tup xs) => some (enumD xs)
  | _ => none
theorem pair_step {G : Addr → Prop} {α : List Addr} {H : Hp} {μ : Sto} {p : Addr} {o : Obj} {x y : V} {d e : D} (S : RepS Z G α H μ) (hp : H p = none) (ho : o.dict = none) (rx : Rp H (off G α) x d) (ry : Rp H (off G α) y e) :
    Post α H α (upd H p (.frz o (.tup [x, y]))) ∧ RepS Z G α (upd H p (.frz o (.tup [x, y]))) μ ∧ Rp (upd H p (.frz o (.tup [x, y]))) (off G α) (.ref p) (.tup [d, e]) := by
  have P : Post α H α (upd H p (.frz o (.tup [x, y]))) := Post.alloc hp
  exact ⟨P, S.alloc hp, .tup (TupAt.upd ho) (S.noff hp) (.cons (rx.post P) (.cons (ry.post P) .nil))⟩
end

/-! ### for -/
def forL (g : SG) (b : SS) : List D → Env → Sto → SOut
  | [], ρ, μ => .next ρ μ
  | d :: ds, ρ, μ => match g (.dat d) ρ with
    | none => .stuck
    | some ρ1 => match b ρ1 μ with
      | .next ρ2 μ2 => forL g b ds ρ2 μ2
      | .cnt ρ2 μ2 => forL g b ds ρ2 μ2
      | .brk ρ2 μ2 => .next ρ2 μ2
      | r => r
def sFor (f : SI) (g : SG) (b : SS) : SS := fun ρ μ => match f ρ μ with
  | .ok ds μ1 => forL g b ds ρ μ1
  | .exc x μ1 => .exc x ρ μ1
  | .stuck => .stuck
section
variable {X : Cx} {Z : Wd} {W : WX} {tg iter : Expr} {f : SI} {b : SS} {body : List Stmt} {pos : Pos} {t : TG} {g : SG} {vs : List Nat}
theorem t_for (hG : GOk t g vs) : ∀ D σ H, tS Z W (sFor f g b) D σ H → tFor (tI Z W f) t (tS Z W b) D σ H := by
  rintro D σ H ⟨G, α, ρ, μ, S, E, w⟩
  refine ⟨G, α, ρ, μ, S, E, ?_⟩
  unfold sFor at w
  cases q : f ρ μ with
  | stuck => simp only [q] at w; exact w.elim
  | exc x μ1 => simp only [q] at w; exact fun c d H' α' p s r => w c d σ H' α' p s (E.post p) r
  | ok ds μ1 =>
    simp only [q] at w
    intro J H1 α1 p1 S1 wk
    refine ⟨fun i m σ' H' => m = ds.length - i ∧ i ≤ ds.length ∧ ∃ α' ρ' μ', Post α1 H1 α' H' ∧ RepS Z G α' H' μ' ∧ RepE G α' H' σ' ρ' ∧ wS Z W G α' H' (forL g b (ds.drop i) ρ' μ') D,
      ⟨ds.length, by simp, Nat.zero_le _, α1, ρ, μ1, Post.refl, S1, E.post p1, by simpa using wS.post p1 w⟩, ?_⟩
    rintro i m σ' H' ⟨rfl, hi, α', ρ', μ', p', S', E', w'⟩
    by_cases hlt : i < ds.length
    · refine .inr ⟨wk.go i α' H' p'.g hlt, fun σ2 H2 => i + 1 ≤ ds.length ∧ ∃ α2 ρ2 μ2, Post α1 H1 α2 H2 ∧ RepS Z G α2 H2 μ2 ∧ RepE G α2 H2 σ2 ρ2 ∧ wS Z W G α2 H2 (forL g b (ds.drop (i + 1)) ρ2 μ2) D,
        fun σ2 H2 h => ⟨ds.length - (i + 1), by omega, rfl, h⟩, fun x H2 y => ?_⟩
      have hd : ds[i]? = some ds[i] := List.getElem?_eq_getElem hlt
      obtain ⟨p2, S2, r2⟩ := wk.yld G i α' H' μ' x H2 ds[i] (fun _ h => .inl h) p'.g S' y hd
      rw [List.drop_eq_getElem_cons hlt] at w'
      simp only [forL] at w'
      cases e1 : g (.dat ds[i]) ρ' with
      | none => simp only [e1] at w'; exact w'.elim
      | some ρ1 =>
        simp only [e1] at w'
        refine hG _ G α' H2 μ' σ' ρ' x (.dat ds[i]) ρ1 _ S2 (E'.post p2) r2 e1 fun σ3 E3 _ => ?_
        refine ⟨G, α', ρ1, μ', S2, E3, ?_⟩
        have w2 := wS.post p2 w'
        cases e2 : b ρ1 μ' with
        | stuck => simp only [e2] at w2; exact w2.elim
        | next ρ4 μ4 => simp only [e2] at w2; exact fun σ4 H4 α4 p4 s4 r4 => ⟨hlt, α4, ρ4, μ4, (p'.trans p2).trans p4, s4, r4, wS.post p4 w2⟩
        | cnt ρ4 μ4 => simp only [e2] at w2; exact fun σ4 H4 α4 p4 s4 r4 => ⟨hlt, α4, ρ4, μ4, (p'.trans p2).trans p4, s4, r4, wS.post p4 w2⟩
        | brk ρ4 μ4 => simp only [e2] at w2; exact w2
        | ret r μ4 => simp only [e2] at w2; exact w2
        | exc x ρ4 μ4 => simp only [e2] at w2; exact w2
    · have e : i = ds.length := by omega
      subst e
      rw [List.drop_length] at w'
      exact .inl ⟨wk.stop _ α' H' p'.g rfl, w' σ' H' α' Post.refl S' E'⟩
theorem s_for (hp : PassesOwn (model X.prog X.w) X.A X.env X.xe) (hc : X.calm = true) (hi : PI X tg iter (tI Z W f)) (hg : PG X tg t) (hG : GOk t g vs) (hb : PSs X body (tS Z W b)) (hs : ∀ x, foldedSetIterable iter X.env x = pure x := by intro _; rfl) :
    PS X (.For tg iter body [] pos) (tS Z W (sFor f g b)) := PSimp (ps_for hp hc hi hg hb hs) (t_for hG)
end

/-! ### while: with fuel; what it gives where it ends -/
def whL (c : SE) (b : SS) : Nat → Env → Sto → SOut
  | 0, _, _ => .stuck
  | n + 1, ρ, μ => eS (c ρ μ) ρ fun v μ1 => onS v (match b ρ μ1 with
      | .next ρ2 μ2 => whL c b n ρ2 μ2
      | .cnt ρ2 μ2 => whL c b n ρ2 μ2
      | .brk ρ2 μ2 => .next ρ2 μ2
      | r => r) (.next ρ μ1)
/-- the fuel is told by the state ahead -/
def sWhile (fuel : Env → Sto → Nat) (c : SE) (b : SS) : SS := fun ρ μ => whL c b (fuel ρ μ) ρ μ
section
variable {X : Cx} {Z : Wd} {W : WX} {c : Expr} {f : SE} {b : SS} {body : List Stmt} {pos : Pos}
theorem s_while (fuel : Env → Sto → Nat) (hp : PassesOwn (model X.prog X.w) X.A X.env X.xe) (hc : PT X c (tB Z W f)) (hb : PSs X body (tS Z W b)) : PS X (.While c body [] pos) (tS Z W (sWhile fuel f b)) := by
  refine PSimp (ps_while hp hc hb) ?_
  rintro D σ H ⟨G, α, ρ, μ, S, E, w⟩
  refine ⟨fun m σ' H' => ∃ α' ρ' μ', RepS Z G α' H' μ' ∧ RepE G α' H' σ' ρ' ∧ wS Z W G α' H' (whL f b m ρ' μ') D, ⟨fuel ρ μ, α, ρ, μ, S, E, w⟩, ?_⟩
  rintro m σ' H' ⟨α', ρ', μ', S', E', w'⟩
  cases m with
  | zero => exact w'.elim
  | succ m =>
    simp only [whL] at w'
    refine ⟨G, α', ρ', μ', S', E', wS.eS E' w' fun v H1 α1 μ1 val p1 s1 r1 w1 => ?_⟩
    cases val with
    | loc k => exact w1.elim
    | dat d =>
      cases d with
      | bl k =>
        rw [inv_bl r1]
        refine ⟨k, rfl, ?_⟩
        cases k with
        | false => exact w1 σ' H1 α1 Post.refl s1 (E'.post p1)
        | true =>
          rw [if_pos rfl]
          refine ⟨fun σ2 H2 => ∃ α2 ρ2 μ2, RepS Z G α2 H2 μ2 ∧ RepE G α2 H2 σ2 ρ2 ∧ wS Z W G α2 H2 (whL f b m ρ2 μ2) D, fun σ2 H2 h => ⟨m, Nat.lt_succ_self _, h⟩, G, α1, ρ', μ1, s1, E'.post p1, ?_⟩
          have w2 : wS Z W G α1 H1 (match b ρ' μ1 with
            | .next ρ2 μ2 => whL f b m ρ2 μ2
            | .cnt ρ2 μ2 => whL f b m ρ2 μ2
            | .brk ρ2 μ2 => .next ρ2 μ2
            | r => r) D := w1
          cases e2 : b ρ' μ1 with
          | stuck => simp only [e2] at w2; exact w2.elim
          | next ρ4 μ4 => simp only [e2] at w2; exact fun σ4 H4 α4 p4 s4 r4 => ⟨α4, ρ4, μ4, s4, r4, wS.post p4 w2⟩
          | cnt ρ4 μ4 => simp only [e2] at w2; exact fun σ4 H4 α4 p4 s4 r4 => ⟨α4, ρ4, μ4, s4, r4, wS.post p4 w2⟩
          | brk ρ4 μ4 => simp only [e2] at w2; exact w2
          | ret r μ4 => simp only [e2] at w2; exact w2
          | exc x ρ4 μ4 => simp only [e2] at w2; exact w2
      | _ => exact w1.elim
end

/-! ### comprehensions -/
def wipeE (ρ : Env) : List Nat → Env
  | [] => ρ
  | v :: vs => (wipeE ρ vs).set v none
theorem wipeE_len (ρ : Env) : ∀ vs : List Nat, (wipeE ρ vs).length = ρ.length
  | [] => rfl
  | v :: vs => by unfold wipeE; rw [List.length_set, wipeE_len ρ vs]
theorem RepE.wipe {G : Addr → Prop} {α : List Addr} {H : Hp} {σ : St} {ρ : Env} (E : RepE G α H σ ρ) : ∀ vs : List Nat, RepE G α H (wipe σ vs) (wipeE ρ vs)
  | [] => E
  | v :: vs => by
    have ih := RepE.wipe E vs
    refine ⟨by show ((L2.wipe σ vs).set v none).length = ((wipeE ρ vs).set v none).length; simp [ih.len], fun i u h => ?_⟩
    have h : ((wipeE ρ vs).set v none)[i]? = some (some u) := h
    show ∃ x, ((L2.wipe σ vs).set v none)[i]? = some (some x) ∧ _
    by_cases e : v = i
    · subst e
      have hl : v < (wipeE ρ vs).length := by have := (List.getElem?_eq_some_iff.mp h).1; simpa using this
      rw [List.getElem?_set_self hl] at h
      cases h
    · rw [List.getElem?_set_ne e] at h
      rw [List.getElem?_set_ne e]
      exact ih.get i u h
/-- the tests of a comprehension: none or one -/
def tsts (t : Option SE) (ρ : Env) (μ : Sto) : Out Res := match t with
  | none => .ok (.dat (.bl true)) μ
  | some f => f ρ μ
theorem wipe_in {σ : St} {i : Nat} : ∀ {vs : List Nat}, i ∈ vs → (wipe σ vs)[i]? = (σ[i]?).map fun _ => none
  | v :: vs, h => by
    show ((wipe σ vs).set v none)[i]? = _
    by_cases e : v = i
    · subst e
      by_cases hl : v < σ.length
      · rw [List.getElem?_set_self (by rw [wipe_length]; exact hl), List.getElem?_eq_getElem hl]; rfl
      · rw [List.getElem?_eq_none (by rw [List.length_set, wipe_length]; omega), List.getElem?_eq_none (by omega)]; rfl
    · rw [List.getElem?_set_ne e]
      rcases List.mem_cons.mp h with h | h
      · exact absurd h.symm e
      · exact wipe_in h
theorem wipe_wipe (σ : St) (vs : List Nat) : wipe (wipe σ vs) vs = wipe σ vs := by
  apply List.ext_getElem?
  intro i
  by_cases h : i ∈ vs
  · rw [wipe_in h, wipe_in h]
    cases σ[i]? <;> rfl
  · rw [wipe_out h]
/-- one turn: an item, or none -/
def turnC (t : Option SE) (e : SE) (ρ : Env) (μ : Sto) : Out (Option D) := opd (tsts t ρ μ) fun v μ1 => onB v (opd (e ρ μ1) fun u μ2 => match u with
  | .dat d => .ok (some d) μ2
  | .loc _ => .stuck) (.ok none μ1)
def consO (x : D) : Out (List D) → Out (List D)
  | .ok xs μ => .ok (x :: xs) μ
  | _ => .stuck
def compL (g : SG) (t : Option SE) (e : SE) (ρ : Env) : List D → Sto → Out (List D)
  | [], μ => .ok [] μ
  | d :: ds, μ => match g (.dat d) ρ with
    | none => .stuck
    | some ρ1 => match turnC t e ρ1 μ with
      | .ok (some x) μ2 => consO x (compL g t e ρ ds μ2)
      | .ok none μ2 => compL g t e ρ ds μ2
      | _ => .stuck
def sComp (f : SI) (g : SG) (t : Option SE) (e : SE) (vs : List Nat) : SE := fun ρ μ => match f ρ μ with
  | .ok ds μ1 => match compL g t e (wipeE ρ vs) ds μ1 with
    | .ok out μ2 => .ok (.new (.lst out)) μ2
    | _ => .stuck
  | .exc x μ1 => .exc x μ1
  | .stuck => .stuck
/-- nothing is let out -/
abbrev W0 : WX := fun _ _ _ _ => False
def ttO (Z : Wd) : Option SE → TT
  | none => tYes
  | some f => tB Z W0 f
theorem want_tst {Z : Wd} {G : Addr → Prop} {α : List Addr} {H : Hp} {μ : Sto} {σ : St} {ρ : Env} {t : Option SE} {Q : Bool → Hp → Prop} (S : RepS Z G α H μ) (E : RepE G α H σ ρ)
    (w : wE Z G α H (tsts t ρ μ) (fun x H' => ∃ k, x = .bl k ∧ Q k H') fun _ _ _ => False) : ttO Z t σ H Q := by
  cases t with
  | none =>
    obtain ⟨k, e, q⟩ := w.pure S (.bl true)
    cases e
    exact q
  | some f => exact ⟨G, α, ρ, μ, S, E, w⟩
theorem t_comp {Z : Wd} {W : WX} {f : SI} {tg : TG} {g : SG} {t : Option SE} {e : SE} {vs : List Nat} (hG : GOk tg g vs) : ∀ σ H Q, tD Z W (sComp f g t e vs) σ H Q → tLc (tI Z W f) tg (ttO Z t) (tD Z W0 e) vs σ H Q := by
  rintro σ H Q ⟨G, α, ρ, μ, S, E, w⟩
  refine ⟨G, α, ρ, μ, S, E, ?_⟩
  unfold sComp at w
  cases q : f ρ μ with
  | stuck => simp only [q] at w; exact w.elim
  | exc x μ1 => simp only [q] at w; exact w
  | ok ds μ1 =>
    simp only [q] at w
    intro J H1 α1 p1 S1 wk D hD
    cases q2 : compL g t e (wipeE ρ vs) ds μ1 with
    | stuck => simp only [q2] at w; exact w.elim
    | exc x μ2 => simp only [q2] at w; exact w.elim
    | ok out μ2 =>
      simp only [q2] at w
      have E1 := (E.post p1).wipe vs
      have hG2 : ∀ b, (G b ∨ b = D) → G b ∨ H1 b = none := fun b h => h.elim .inl fun h => .inr (by rw [h]; exact hD)
      have nD : ∀ {α' : List Addr} {H' : Hp} {μ' : Sto}, RepS Z (fun b => G b ∨ b = D) α' H' μ' → D ∉ α' := fun S' => (S'.gd D (.inr rfl)).1
      refine ⟨fun i m H' => m = ds.length - i ∧ i ≤ ds.length ∧ ∃ α' μ' xs acc rest, Post α1 H1 α' H' ∧ RepS Z (fun b => G b ∨ b = D) α' H' μ' ∧ H' D = some (.lst xs) ∧ RpL H' (off (fun b => G b ∨ b = D) α') xs acc ∧ xs.length ≤ i ∧
          compL g t e (wipeE ρ vs) (ds.drop i) μ' = .ok rest μ2 ∧ acc ++ rest = out,
        ⟨ds.length, by simp, Nat.zero_le _, α1, μ1, [], [], out, Post.alloc hD, ?_, upd_same, .nil, Nat.le_refl _, by simpa using q2, rfl⟩, ?_⟩
      · have S2 : RepS Z G α1 (upd H1 D (.lst [])) μ1 := S1.alloc hD
        have nd : D ∉ α1 := fun h => S1.noff hD (.inr h)
        refine ⟨S2.len, S2.nd, fun b h => ?_, fun k a c h1 h2 => ?_, S2.tb⟩
        · rcases h with h | h
          · exact S2.gd b h
          · rw [h]; exact ⟨nd, _, upd_same⟩
        · have ha : a ≠ D := fun z => nd (by rw [← z]; exact List.mem_of_getElem? h1)
          exact (S1.cell k a c h1 h2).mono ((Post.alloc (α := α1) (o := .lst []) hD).keptG hG2) (by rw [upd_ne ha])
      · rintro i m H' ⟨rfl, hi, α', μ', xs, acc, rest, p', S', hx, hr, hl, hc, ho⟩
        by_cases hlt : i < ds.length
        · refine .inr ⟨wk.go i α' H' p'.g hlt, fun H' => i + 1 ≤ ds.length ∧ ∃ α' μ' xs acc rest, Post α1 H1 α' H' ∧ RepS Z (fun b => G b ∨ b = D) α' H' μ' ∧ H' D = some (.lst xs) ∧ RpL H' (off (fun b => G b ∨ b = D) α') xs acc ∧ xs.length ≤ i + 1 ∧
              compL g t e (wipeE ρ vs) (ds.drop (i + 1)) μ' = .ok rest μ2 ∧ acc ++ rest = out, fun H' h => ⟨ds.length - (i + 1), by omega, rfl, h⟩, fun x H2 y => ?_⟩
          have hd : ds[i]? = some ds[i] := List.getElem?_eq_getElem hlt
          obtain ⟨p2, S2, r2⟩ := wk.yld _ i α' H' μ' x H2 ds[i] hG2 p'.g S' y hd
          rw [List.drop_eq_getElem_cons hlt] at hc
          simp only [compL] at hc
          cases e1 : g (.dat ds[i]) (wipeE ρ vs) with
          | none => simp only [e1] at hc; cases hc
          | some ρ1 =>
            simp only [e1] at hc
            have E2 : RepE (fun b => G b ∨ b = D) α' H2 (wipe σ vs) (wipeE ρ vs) := by
              refine ⟨E1.len, fun j u h => ?_⟩
              obtain ⟨z, h1, h2⟩ := E1.get j u h
              refine ⟨z, h1, ?_⟩
              cases u with
              | dat d => exact Rp.mono ((p'.trans p2).keptG hG2) h2
              | loc n => obtain ⟨a, h3, h4⟩ := h2; exact ⟨a, (p'.trans p2).at_ h3, h4⟩
            refine hG _ _ α' H2 μ' _ _ x (.dat ds[i]) ρ1 _ S2 E2 r2 e1 fun σ3 E3 hw => ⟨hw.trans (wipe_wipe σ vs), ?_⟩
            refine want_tst S2 E3 ?_
            have stay : ∀ {α3 : List Addr} {H3 : Hp}, Post α' H2 α3 H3 → H3 D = some (.lst xs) := fun p3 => p3.keep D _ (p2.keep D _ hx (nD S')) (nD S')
            have hr2 := hr.post p2
            cases e2 : tsts t ρ1 μ' with
            | stuck => simp only [turnC, opd, e2] at hc; cases hc
            | exc x μ3 => simp only [turnC, opd, e2] at hc; cases hc
            | ok r μ3 =>
              simp only [turnC, opd, e2] at hc
              have key : ∃ k, r = .dat (.bl k) := by
                cases r with
                | dat d => cases d with
                  | bl k => exact ⟨k, rfl⟩
                  | _ => simp only [Res.val, onB] at hc; cases hc
                | loc n => simp only [Res.val, onB] at hc; cases hc
                | new c => cases c <;> (simp only [Res.val, Cell.frz, onB] at hc; cases hc)
              obtain ⟨k, rfl⟩ := key
              intro v3 H3 α3 p3 S3 r3
              cases r3
              refine ⟨k, rfl, ?_⟩
              cases k with
              | false =>
                simp only [Res.val, onB] at hc
                exact ⟨hlt, α3, μ3, xs, acc, rest, (p'.trans p2).trans p3, S3, stay p3, hr2.post p3, by omega, hc, ho⟩
              | true =>
                simp only [Res.val, onB] at hc
                rw [if_pos rfl]
                refine ⟨_, α3, ρ1, μ3, S3, E3.post p3, ?_⟩
                have fin : ∀ (y : V) (d : Sx.D) (H4 : Hp) (α4 : List Addr) (μ4 : Sto), Post α3 H3 α4 H4 → RepS Z (fun b => G b ∨ b = D) α4 H4 μ4 → Rp H4 (off (fun b => G b ∨ b = D) α4) y d → consO d (compL g t e (wipeE ρ vs) (ds.drop (i + 1)) μ4) = .ok rest μ2 →
                    ∃ acc, H4 D = some (.lst acc) ∧ acc.length < sizeLine ∧ (i + 1 ≤ ds.length ∧ ∃ α' μ' xs acc' rest, Post α1 H1 α' (upd H4 D (.lst (acc ++ [y]))) ∧ RepS Z (fun b => G b ∨ b = D) α' (upd H4 D (.lst (acc ++ [y]))) μ' ∧ (upd H4 D (.lst (acc ++ [y]))) D = some (.lst xs) ∧
                      RpL (upd H4 D (.lst (acc ++ [y]))) (off (fun b => G b ∨ b = D) α') xs acc' ∧ xs.length ≤ i + 1 ∧ compL g t e (wipeE ρ vs) (ds.drop (i + 1)) μ' = .ok rest μ2 ∧ acc' ++ rest = out) := by
                  intro y d H4 α4 μ4 p4 S4 r4 h4
                  have hD4 := stay (p3.trans p4)
                  have hr4 := (hr2.post p3).post p4
                  have pA := ((p'.trans p2).trans p3).trans p4
                  refine ⟨xs, hD4, by have := wk.len; omega, hlt, α4, μ4, xs ++ [y], acc ++ [d], ?_⟩
                  have kD : ∀ a o, ¬ off (fun b => G b ∨ b = D) α4 a → H4 a = some o → (∃ o', upd H4 D (.lst (xs ++ [y])) a = some o' ∧ Kp o o') ∧ ¬ off (fun b => G b ∨ b = D) α4 a := fun a o n ea =>
                    ⟨⟨o, by rw [upd_ne (fun z => n (.inl (.inr z)))]; exact ea, Kp.rfl⟩, n⟩
                  cases h5 : compL g t e (wipeE ρ vs) (ds.drop (i + 1)) μ4 with
                  | stuck => rw [h5] at h4; cases h4
                  | exc x μ5 => rw [h5] at h4; cases h4
                  | ok ys μ5 =>
                    rw [h5] at h4
                    simp only [consO, Out.ok.injEq] at h4
                    obtain ⟨rfl, rfl⟩ := h4
                    refine ⟨ys, ⟨pA.ext, pA.fresh, fun b o hb n t => ?_, fun b o hb => ?_, fun b ps hb n => ?_⟩, ⟨S4.len, S4.nd, fun b h => ⟨(S4.gd b h).1, ?_⟩, fun k a c h1 h2 => ?_, tabs_upd S4.tb fun u eu => by rw [hD4] at eu; cases eu; exact nt_lst⟩, upd_same, (hr4.mono kD).append (.cons (Rp.mono kD r4) .nil), by simp; omega, rfl, by rw [List.append_assoc]; exact ho⟩
                    · rw [upd_ne (ne_of_none hb hD)]
                      exact pA.keep0 b o hb n t
                    · by_cases z : b = D
                      · subst z; exact ⟨_, upd_same⟩
                      · rw [upd_ne z]; exact pA.dom b o hb
                    · rw [upd_ne (ne_of_none hb hD)]
                      exact pA.tbl b ps hb n
                    · by_cases z : b = D
                      · subst z; exact ⟨_, upd_same⟩
                      · rw [upd_ne z]; exact (S4.gd b h).2
                    · have ha : a ≠ D := fun z => nD S4 (by rw [← z]; exact List.mem_of_getElem? h1)
                      exact (S4.cell k a c h1 h2).mono kD (by rw [upd_ne ha])
                cases e3 : e ρ1 μ3 with
                | stuck => simp only [opd, e3] at hc; cases hc
                | exc x μ4 => simp only [opd, e3] at hc; cases hc
                | ok r μ4 =>
                  simp only [opd, e3] at hc
                  cases r with
                  | dat d => exact fun y H4 α4 p4 S4 r4 => fin y d H4 α4 μ4 p4 S4 r4 hc
                  | loc n => simp only [Res.val] at hc; cases hc
                  | new c => exact fun z H4 α4 p4 n4 S4 => fin _ c.frz H4 α4 μ4 p4 S4.freeze.1 S4.freeze.2 hc
        · have ei : i = ds.length := by omega
          subst ei
          rw [List.drop_length] at hc
          simp only [compL, Out.ok.injEq] at hc
          obtain ⟨rfl, rfl⟩ := hc
          rw [List.append_nil] at ho
          subst ho
          refine .inl ⟨wk.stop _ α' H' p'.g rfl, ?_⟩
          have hH : H D = none := by
            cases z : H D with
            | none => rfl
            | some o => obtain ⟨o', z'⟩ := p1.dom D o z; rw [hD] at z'; cases z'
          refine w D H' α' (p1.trans p') hH ?_
          have sub : ∀ a, off G (α' ++ [D]) a → off (fun b => G b ∨ b = D) α' a := fun a h => by
            rcases h with h | h
            · exact .inl (.inl h)
            · rcases List.mem_append.mp h with h | h
              · exact .inr h
              · exact .inl (.inr (List.mem_singleton.mp h))
          refine ⟨by simp [S'.len], ?_, fun b h => ⟨fun hb => ?_, (S'.gd b (.inl h)).2⟩, fun k a c h1 h2 => ?_, S'.tb⟩
          · rw [List.nodup_append]
            exact ⟨S'.nd, by simp, fun a ha b hb => by rw [List.mem_singleton.mp hb]; rintro rfl; exact nD S' ha⟩
          · rcases List.mem_append.mp hb with hb | hb
            · exact (S'.gd b (.inl h)).1 hb
            · rw [List.mem_singleton.mp hb] at h
              obtain ⟨_, o, e⟩ := S.gd D h
              rw [hH] at e; cases e
          · by_cases hk : k < α'.length
            · rw [List.getElem?_append_left hk] at h1
              rw [List.getElem?_append_left (by rw [← S'.len]; exact hk)] at h2
              exact (S'.cell k a c h1 h2).less sub
            · have hl' : k < (α' ++ [D]).length := (List.getElem?_eq_some_iff.mp h1).1
              have e : k = α'.length := by simp at hl'; omega
              subst e
              rw [S'.len] at h2
              simp at h1 h2
              subst h1 h2
              exact ⟨xs, hx, hr.less sub⟩
end Sx

/-! SxFun: comprehensions as expressions; defs and their calls. -/
namespace Sx
open PySem L2

section
variable {X : Cx} {Z : Wd} {W : WX} {elt tg iter : Expr} {ifs : List Expr} {scope : Scope} {own : List (Str × Nat)} {pos : Pos} {f : SI} {t : TG} {g : SG} {tt : Option SE} {e : SE}
theorem ts_nil : PTs X [] (ttO Z none) := pts_nil
theorem ts_one {c : Expr} {f : SE} (h : PT X c (tB Z W0 f)) : PTs X [c] (ttO Z (some f)) := pts_one h
theorem d_comp (hc : X.calm = true) (hN : X.N.Nodup) (hi : PI X tg iter (tI Z W f)) (ok : BlkOk X.N X.env.scope scope own)
    (hg : ∀ (s : Shared) (H : Hp) (C : Addr) (cl : List (Str × Addr)) (fp : List Addr), PG (X.blk s H scope (compEnvC scope cl C X.env) fp) tg t) (hG : GOk t g (own.map (·.2)))
    (ht : ∀ (s : Shared) (H : Hp) (C : Addr) (cl : List (Str × Addr)) (fp : List Addr), PTs (X.blk s H scope (compEnvC scope cl C X.env) fp) ifs (ttO Z tt))
    (he : ∀ (s : Shared) (H : Hp) (C : Addr) (cl : List (Str × Addr)) (fp : List Addr), PE (X.blk s H scope (compEnvC scope cl C X.env) fp) elt (tD Z W0 e)) (hs : ∀ x, foldedSetIterable iter X.env x = pure x := by intro _; rfl) :
    PE X (.ListComp elt [⟨tg, iter, ifs, 0⟩] scope pos) (tD Z W (sComp f g tt e (own.map (·.2)))) := PEimp (pe_lc hc hN hi ok hg ht he hs) (t_comp hG)
/-- name = [..]: the name holds data -/
theorem s_setLc {i : Nat} {y : Str} {py spos : Pos} (hc : X.calm = true) (hN : X.N.Nodup) (hi : PI X tg iter (tI Z W f)) (ok : BlkOk X.N X.env.scope scope own)
    (hg : ∀ (s : Shared) (H : Hp) (C : Addr) (cl : List (Str × Addr)) (fp : List Addr), PG (X.blk s H scope (compEnvC scope cl C X.env) fp) tg t) (hG : GOk t g (own.map (·.2)))
    (ht : ∀ (s : Shared) (H : Hp) (C : Addr) (cl : List (Str × Addr)) (fp : List Addr), PTs (X.blk s H scope (compEnvC scope cl C X.env) fp) ifs (ttO Z tt))
    (he : ∀ (s : Shared) (H : Hp) (C : Addr) (cl : List (Str × Addr)) (fp : List Addr), PE (X.blk s H scope (compEnvC scope cl C X.env) fp) elt (tD Z W0 e))
    (hy : X.N[i]? = some y := by rfl) (hyl : X.env.scope.names.lookup y = some .local := by rfl) (hsw : swapsWith (.ListComp elt [⟨tg, iter, ifs, 0⟩] scope pos) (some (.Name y py)) spos.line X.env = pure true := by exact sw_true rfl rfl rfl (by decide +kernel))
    (hs : ∀ x, foldedSetIterable iter X.env x = pure x := by intro _; rfl) : PS X (.Assign [.Name y py] (.ListComp elt [⟨tg, iter, ifs, 0⟩] scope pos) spos) (tS Z W (sSet i (sComp f g tt e (own.map (·.2))))) := by
  refine PSimp (ps_setLc hc hN hy hyl hsw hi ok hg ht he hs) ?_
  rintro D σ H ⟨G, α, ρ, μ, S, E, w⟩
  exact t_comp hG σ H _ ⟨G, α, ρ, μ, S, E, wS.eS E w fun v H1 α1 μ1 val p s r w1 => w1 _ H1 α1 Post.refl s ((E.post p).set r)⟩
/-- .. a cell -/
theorem s_setLcC {i : Nat} {y : Str} {py spos : Pos} (hc : X.calm = true) (hN : X.N.Nodup) (hi : PI X tg iter (tI Z W f)) (ok : BlkOk X.N X.env.scope scope own)
    (hg : ∀ (s : Shared) (H : Hp) (C : Addr) (cl : List (Str × Addr)) (fp : List Addr), PG (X.blk s H scope (compEnvC scope cl C X.env) fp) tg t) (hG : GOk t g (own.map (·.2)))
    (ht : ∀ (s : Shared) (H : Hp) (C : Addr) (cl : List (Str × Addr)) (fp : List Addr), PTs (X.blk s H scope (compEnvC scope cl C X.env) fp) ifs (ttO Z tt))
    (he : ∀ (s : Shared) (H : Hp) (C : Addr) (cl : List (Str × Addr)) (fp : List Addr), PE (X.blk s H scope (compEnvC scope cl C X.env) fp) elt (tD Z W0 e))
    (hy : X.N[i]? = some y := by rfl) (hyl : X.env.scope.names.lookup y = some .local := by rfl) (hsw : swapsWith (.ListComp elt [⟨tg, iter, ifs, 0⟩] scope pos) (some (.Name y py)) spos.line X.env = pure true := by exact sw_true rfl rfl rfl (by decide +kernel))
    (hs : ∀ x, foldedSetIterable iter X.env x = pure x := by intro _; rfl) : PS X (.Assign [.Name y py] (.ListComp elt [⟨tg, iter, ifs, 0⟩] scope pos) spos) (tS Z W (sSetC i (sComp f g tt e (own.map (·.2))))) := by
  refine PSimp (ps_setLc hc hN hy hyl hsw hi ok hg ht he hs) ?_
  rintro D σ H ⟨G, α, ρ, μ, S, E, w⟩
  exact t_comp hG σ H _ ⟨G, α, ρ, μ, S, E, wS.eC E w fun v H1 α1 μ1 val p s r w1 => w1 _ H1 α1 Post.refl s ((E.post p).set r)⟩
end

/-! ### what a def promises -/
/-- its arguments: true: a cell that is lent, false: data -/
def mix : List Bool → Nat → List D → List Val
  | [], _, _ => []
  | true :: md, k, ds => .loc k :: mix md (k + 1) ds
  | false :: md, k, d :: ds => .dat d :: mix md k ds
  | false :: md, k, [] => .dat .non :: mix md k []
/-- a def: the cells lent, the data; the cells behind come with the answer -/
abbrev FD := List Cell → List D → Out Res
def wF (Z : Wd) (G : Addr → Prop) (α : List Addr) (H : Hp) (o : Out Res) (Q : VK) (E : XK) : Prop := match o with
  | .ok (.dat d) cs => ∀ v H', Post α H α H' → RepS Z G α H' cs → Rp H' (off G α) v d → Q v H'
  | .ok (.new c) cs => ∀ p H', Post α H α H' → H p = none → RepS Z G (α ++ [p]) H' (cs ++ [c]) → Q (.ref p) H'
  | .exc x cs => ∀ cls dd H', Post α H α H' → RepS Z G α H' cs → RepX Z (off G α) x cls dd H' → E cls dd H'
  | _ => False
def spD (Z : Wd) (md : List Bool) (F : FD) : Sp := fun vs H Q E => vs.length = md.length ∧ ∃ G α cs ds, cs.length = md.countP id ∧ ds.length = md.countP (!·) ∧ RepS Z G α H cs ∧ RpVs G α H vs (mix md 0 ds) ∧ wF Z G α H (F cs ds) Q E
/-- what all defs of the text share -/
structure Tx where
  P : Program
  w : World
  K : PySem.W.Frag
  mg : Str → Option Value
  base : Heap
  Z : Wd
/-- the name x is a def with this promise -/
def Has (T : Tx) (k : Nat) (x : Str) (md : List Bool) (F : FD) : Prop :=
  ∃ f fd ps, FnOk T.P T.w T.K T.mg T.base (L2.CX T.P T.w) k f fd ps (spD T.Z md F) ∧ T.mg x = some (.ref f) ∧ PySem.W.keepIn T.K (.ref f) = true ∧ Binds T.K fd ps []
/-- the context belongs to the text -/
structure InTx (T : Tx) (X : Cx) : Prop where
  prog : X.prog = T.P
  w : X.w = T.w
  K : X.K = T.K
  mg : X.mg = T.mg
  base : X.base = T.base

/-! ### calls -/
/-- the lent cells' numbers and the data, by the parameters -/
def splitA (μ : Sto) : List Bool → List Val → Option (List Nat × List D)
  | [], [] => some ([], [])
  | true :: md, .loc k :: as => (splitA μ md as).map fun p => (k :: p.1, p.2)
  | false :: md, a :: as => match toD μ a, splitA μ md as with
    | some d, some p => some (p.1, d :: p.2)
    | _, _ => none
  | _, _ => none
def cellsOf (μ : Sto) : List Nat → Option (List Cell)
  | [] => some []
  | k :: ks => match μ[k]?, cellsOf μ ks with
    | some c, some cs => some (c :: cs)
    | _, _ => none
def putC (μ : Sto) : List Nat → List Cell → Sto
  | k :: ks, c :: cs => putC (μ.set k c) ks cs
  | _, _ => μ
mutual
def D.tupO : D → Bool
  | .tup ds => D.tupOL ds
  | .lst _ => false
  | .dic _ => false
  | .dct _ => false
  | .scr _ => false
  | .non => true
  | .bl _ => true
  | .int _ => true
  | .str _ => true
def D.tupOL : List D → Bool
  | [] => true
  | d :: ds => d.tupO && D.tupOL ds
end
def Cell.tupO : Cell → Bool
  | .lst ds => D.tupOL ds
  | .dic kvs => D.tupOL (kvs.map (·.2))
  | .dct kvs => D.tupOL (kvs.map (·.2))
/-- the caller's cells that are handed in as data -/
def lentK : List Bool → List Val → List Nat
  | false :: md, .loc k :: as => k :: lentK md as
  | _ :: md, _ :: as => lentK md as
  | _, _ => []
def Res.tupO : Res → Bool
  | .dat d => d.tupO
  | .new c => c.tupO
  | .loc _ => false
def Res.noLoc : Res → Bool
  | .loc _ => false
  | _ => true
def Exn.tupO (x : Exn) : Bool := match x.fld with
  | none => true
  | some d => d.tupO
def callF (md : List Bool) (F : FD) (as : List Val) (μ : Sto) : Out Res := match splitA μ md as with
  | none => .stuck
  | some (ks, ds) => if (ks ++ lentK md as).Nodup then match cellsOf μ ks with
      | none => .stuck
      | some cs => match F cs ds with
        | .ok r cs' => if r.noLoc && ((lentK md as).isEmpty || (r.tupO && cs'.all Cell.tupO)) then .ok r (putC μ ks cs') else .stuck
        | .exc x cs' => if (lentK md as).isEmpty || (x.tupO && cs'.all Cell.tupO) then .exc x (putC μ ks cs') else .stuck
        | .stuck => .stuck
    else .stuck
def sCallF (md : List Bool) (F : FD) (fs : List SE) : SE := fun ρ μ => match sArgs fs ρ μ with
  | .ok as μ1 => callF md F as μ1
  | .exc x μ1 => .exc x μ1
  | .stuck => .stuck
mutual
theorem Rp.tupO {H : Hp} {F F' : Addr → Prop} (h : ∀ a xs, ¬ F a → TupAt H a xs → ¬ F' a) : ∀ {v : V} {d : D}, d.tupO = true → Rp H F v d → Rp H F' v d
  | _, _, _, .non => .non
  | _, _, _, .bl b => .bl b
  | _, _, _, .int i => .int i
  | _, _, _, .str x => .str x
  | _, _, t, .tup e n l => .tup e (h _ _ n e) (RpL.tupO h (by simpa [D.tupO] using t) l)
  | _, _, t, .lst e n l => by simp [D.tupO] at t
  | _, _, t, .scr e n => by simp [D.tupO] at t
  | _, _, t, .dic e n l => by simp [D.tupO] at t
  | _, _, t, .dct e n l => by simp [D.tupO] at t
theorem RpL.tupO {H : Hp} {F F' : Addr → Prop} (h : ∀ a xs, ¬ F a → TupAt H a xs → ¬ F' a) : ∀ {v : List V} {d : List D}, D.tupOL d = true → RpL H F v d → RpL H F' v d
  | _, _, _, .nil => .nil
  | _, _, t, .cons r l => by
    simp only [D.tupOL, Bool.and_eq_true] at t
    exact .cons (Rp.tupO h t.1 r) (RpL.tupO h t.2 l)
end
theorem RpK.tupO {H : Hp} {F F' : Addr → Prop} (h : ∀ a xs, ¬ F a → TupAt H a xs → ¬ F' a) : ∀ {v : List (Key × V)} {d : List (Key × D)}, D.tupOL (d.map (·.2)) = true → RpK H F v d → RpK H F' v d
  | _, _, _, .nil => .nil
  | _, _, t, .cons r l => by
    simp only [List.map_cons, D.tupOL, Bool.and_eq_true] at t
    exact .cons (Rp.tupO h t.1 r) (RpK.tupO h t.2 l)
theorem RpT.tupO {H : Hp} {F F' : Addr → Prop} (h : ∀ a xs, ¬ F a → TupAt H a xs → ¬ F' a) : ∀ {v : List (List Key × V)} {d : List (List Key × D)}, D.tupOL (d.map (·.2)) = true → RpT H F v d → RpT H F' v d
  | _, _, _, .nil => .nil
  | _, _, t, .cons r l => by
    simp only [List.map_cons, D.tupOL, Bool.and_eq_true] at t
    exact .cons (Rp.tupO h t.1 r) (RpT.tupO h t.2 l)
theorem CellAt.tupO {H : Hp} {F F' : Addr → Prop} {a : Addr} {c : Cell} (h : ∀ a xs, ¬ F a → TupAt H a xs → ¬ F' a) (t : c.tupO = true) (r : CellAt H F a c) : CellAt H F' a c := by
  cases c with
  | lst ds => obtain ⟨xs, e, r⟩ := r; exact ⟨xs, e, r.tupO h t⟩
  | dic ds => obtain ⟨xs, e, r⟩ := r; exact ⟨xs, e, r.tupO h t⟩
  | dct ds => obtain ⟨xs, e, r⟩ := r; exact ⟨xs, e, r.tupO h t⟩
theorem cell_not_tup {H : Hp} {F : Addr → Prop} {a : Addr} {c : Cell} {xs : List V} (r : CellAt H F a c) : ¬ TupAt H a xs := fun ⟨o, e, _⟩ => by
  cases c with
  | lst ds => obtain ⟨ys, e', _⟩ := r; rw [e'] at e; cases e
  | dic ds => obtain ⟨ys, e', _⟩ := r; rw [e'] at e; cases e
  | dct ds => obtain ⟨ys, e', _⟩ := r; rw [e'] at e; cases e

/-! ### from the caller to the callee and back -/
section
variable {G : Addr → Prop} {α : List Addr} {H : Hp} {μ : Sto}
theorem cellsOf_len : ∀ {ks : List Nat} {cs : List Cell}, cellsOf μ ks = some cs → ks.length = cs.length ∧ ∀ (j k : Nat), ks[j]? = some k → ∃ c, cs[j]? = some c ∧ μ[k]? = some c
  | [], cs, h => by simp [cellsOf] at h; subst h; exact ⟨rfl, fun j k h => by simp at h⟩
  | k :: ks, cs, h => by
    simp only [cellsOf] at h
    split at h
    · rename_i c cs' h1 h2
      cases h
      obtain ⟨e1, e2⟩ := cellsOf_len h2
      refine ⟨by simp [e1], fun j k' hj => ?_⟩
      cases j with
      | zero => simp at hj; subst hj; exact ⟨c, rfl, h1⟩
      | succ j => simp at hj; simpa using e2 j k' hj
    · cases h
theorem putC_len : ∀ (ks : List Nat) (cs : List Cell) (μ : Sto), (putC μ ks cs).length = μ.length
  | [], _, _ => by simp [putC]
  | _ :: _, [], _ => by simp [putC]
  | k :: ks, c :: cs, μ => by simp only [putC]; rw [putC_len ks cs]; simp
theorem putC_get : ∀ {ks : List Nat} {cs : List Cell} {μ : Sto} {k0 : Nat} {c0 : Cell}, ks.length = cs.length → ks.Nodup → (putC μ ks cs)[k0]? = some c0 →
    (∃ j : Nat, ks[j]? = some k0 ∧ cs[j]? = some c0) ∨ (k0 ∉ ks ∧ μ[k0]? = some c0)
  | [], _, μ, k0, c0, _, _, h => .inr ⟨by simp, by simpa [putC] using h⟩
  | k :: ks, [], _, _, _, h, _, _ => by simp at h
  | k :: ks, c :: cs, μ, k0, c0, hl, nd, h => by
    simp only [putC] at h
    rw [List.nodup_cons] at nd
    rcases putC_get (ks := ks) (by simpa using hl) nd.2 h with ⟨j, h1, h2⟩ | ⟨h1, h2⟩
    · exact .inl ⟨j + 1, by simpa using h1, by simpa using h2⟩
    · by_cases e : k = k0
      · subst e
        have hk : k < (μ.set k c).length := (List.getElem?_eq_some_iff.mp h2).1
        rw [List.getElem?_set_self (by simpa using hk)] at h2
        exact .inl ⟨0, by simp, by simpa using h2⟩
      · rw [List.getElem?_set_ne e] at h2
        exact .inr ⟨by simp only [List.mem_cons, not_or]; exact ⟨fun z => e z.symm, h1⟩, h2⟩
/-- the addresses of cells -/
def adrs (α : List Addr) (ks : List Nat) : List Addr := ks.map fun k => α.getD k 0
theorem adrs_get {ks : List Nat} {j k : Nat} (h : ks[j]? = some k) (hk : k < α.length) : (adrs α ks)[j]? = some α[k] := by
  unfold adrs
  rw [List.getElem?_map, h]
  simp [List.getD_eq_getElem?_getD, List.getElem?_eq_getElem hk]
theorem splitA_loc : ∀ {md : List Bool} {as : List Val} {ks : List Nat} {ds : List D} {vs : List V}, splitA μ md as = some (ks, ds) → RpVs G α H vs as → (∀ k ∈ ks, k < α.length) ∧ (∀ k ∈ lentK md as, k < α.length) ∧ ks.length = md.countP id ∧ ds.length = md.countP (!·) ∧ vs.length = md.length
  | [], [], ks, ds, _, h, .nil => by simp [splitA] at h; obtain ⟨rfl, rfl⟩ := h; simp [lentK]
  | [], _ :: _, _, _, _, h, _ => by simp [splitA] at h
  | true :: md, [], _, _, _, h, _ => by simp [splitA] at h
  | false :: md, [], _, _, _, h, _ => by simp [splitA] at h
  | true :: md, .dat d :: as, _, _, _, h, _ => by simp [splitA] at h
  | true :: md, .loc k :: as, ks, ds, _, h, .cons r t => by
    simp only [splitA] at h
    obtain ⟨⟨p, q⟩, h1, h2⟩ := Option.map_eq_some_iff.mp h
    cases h2
    obtain ⟨a, b, c, d, e⟩ := splitA_loc h1 t
    obtain ⟨z, hz, _⟩ := r
    refine ⟨fun j hj => ?_, fun j hj => b j (by simpa [lentK] using hj), by simp [c], by simp [d], by simp [e]⟩
    rcases List.mem_cons.mp hj with rfl | hj
    · exact (List.getElem?_eq_some_iff.mp hz).1
    · exact a j hj
  | false :: md, v :: as, ks, ds, _, h, .cons r t => by
    simp only [splitA] at h
    split at h
    · rename_i d p h1 h2
      cases h
      obtain ⟨a, b, c, e, g⟩ := splitA_loc h2 t
      refine ⟨a, ?_, by simp [c], by simp [e], by simp [g]⟩
      cases v with
      | dat d => exact fun j hj => b j (by simpa [lentK] using hj)
      | loc k =>
        obtain ⟨z, hz, _⟩ := r
        intro j hj
        rcases List.mem_cons.mp (by simpa [lentK] using hj) with rfl | hj
        · exact (List.getElem?_eq_some_iff.mp hz).1
        · exact b j hj
    · cases h
/-- guarded by the callee's caller -/
def Gc (G : Addr → Prop) (α : List Addr) (ks ls : List Nat) : Addr → Prop := fun b => off G α b ∧ b ∉ adrs α ks ∧ b ∉ adrs α ls
theorem adrs_mem {ks : List Nat} {b : Addr} (h : b ∈ adrs α ks) (hk : ∀ k ∈ ks, k < α.length) : ∃ k, k ∈ ks ∧ α[k]? = some b := by
  unfold adrs at h
  obtain ⟨k, h1, h2⟩ := List.mem_map.mp h
  refine ⟨k, h1, ?_⟩
  have := hk k h1
  rw [List.getD_eq_getElem?_getD, List.getElem?_eq_getElem this] at h2
  rw [List.getElem?_eq_getElem this, ← h2]
  rfl
theorem adrs_in {ks : List Nat} {k : Nat} {b : Addr} (h1 : k ∈ ks) (h2 : α[k]? = some b) : b ∈ adrs α ks := by
  refine List.mem_map.mpr ⟨k, h1, ?_⟩
  rw [List.getD_eq_getElem?_getD, h2]
  rfl
theorem to_args : ∀ {md : List Bool} {as : List Val} {ks ks0 ls0 : List Nat} {ds : List D} {vs : List V} {j : Nat}, RepS Z G α H μ → splitA μ md as = some (ks, ds) → RpVs G α H vs as → (∀ (i k : Nat), ks[i]? = some k → ks0[j + i]? = some k) → (∀ k ∈ lentK md as, k ∈ ls0) → (∀ k ∈ ks0, k < α.length) → (∀ k ∈ ls0, k ∉ ks0) →
    RpVs (Gc G α ks0 ls0) (adrs α ks0) H vs (mix md j ds)
  | [], [], _, _, _, _, _, _, _, h, .nil, _, _, _, _ => .nil
  | [], _ :: _, _, _, _, _, _, _, _, h, _, _, _, _, _ => by simp [splitA] at h
  | true :: md, [], _, _, _, _, _, _, _, h, _, _, _, _, _ => by simp [splitA] at h
  | false :: md, [], _, _, _, _, _, _, _, h, _, _, _, _, _ => by simp [splitA] at h
  | true :: md, .dat d :: as, _, _, _, _, _, _, _, h, _, _, _, _, _ => by simp [splitA] at h
  | true :: md, .loc k :: as, ks, ks0, ls0, ds, _, j, S, h, .cons r t, h1, h2, h3, h4 => by
    simp only [splitA] at h
    obtain ⟨⟨p, q⟩, g1, g2⟩ := Option.map_eq_some_iff.mp h
    cases g2
    obtain ⟨a, ha, e⟩ := r
    have hk := (List.getElem?_eq_some_iff.mp ha).1
    refine .cons ⟨a, ?_, e⟩ (to_args S g1 t (fun i k' hi => by have := h1 (i + 1) k' (by simpa using hi); rw [← this]; congr 1; omega) (fun k hk => h2 k (by simpa [lentK] using hk)) h3 h4)
    have := h1 0 k (by simp)
    rw [adrs_get (by simpa using this) hk, ← ha, List.getElem?_eq_getElem hk]
  | false :: md, v :: as, ks, ks0, ls0, ds, _, j, S, h, .cons r t, h1, h2, h3, h4 => by
    simp only [splitA] at h
    split at h
    · rename_i d p g1 g2
      cases h
      have sub : ∀ b, off (Gc G α ks0 ls0) (adrs α ks0) b → off G α b := fun b z => by
        rcases z with z | z
        · exact z.1
        · obtain ⟨k, _, e⟩ := adrs_mem z h3
          exact .inr (List.mem_of_getElem? e)
      refine .cons ?_ (to_args S g2 t h1 (fun k hk => h2 k ?_) h3 h4)
      · cases v with
        | dat d' => simp only [toD, Option.some.injEq] at g1; subst g1; exact Rp.less sub r
        | loc k =>
          simp only [toD] at g1
          obtain ⟨c, hc, rfl⟩ := Option.map_eq_some_iff.mp g1
          obtain ⟨a, rfl, q, ha⟩ := loc_at S r hc
          have hl : k ∈ ls0 := h2 k (by simp [lentK])
          refine CellAt.frz (fun z => ?_) (q.less sub)
          rcases z with z | z
          · exact z.2.2 (adrs_in hl ha)
          · obtain ⟨k', hk', e'⟩ := adrs_mem z h3
            have : k = k' := nd_ix S.nd ha e'
            subst this
            exact h4 k hl hk'
      · cases v with
        | dat d' => simpa [lentK] using hk
        | loc k => simp [lentK, hk]
    · cases h
theorem to_store {ks ls : List Nat} {cs : List Cell} (S : RepS Z G α H μ) (h : cellsOf μ ks = some cs) (nd : ks.Nodup) (hk : ∀ k ∈ ks, k < α.length) : RepS Z (Gc G α ks ls) (adrs α ks) H cs := by
  obtain ⟨e1, e2⟩ := cellsOf_len h
  refine ⟨by simp [adrs, e1], ?_, fun b z => ⟨z.2.1, ?_⟩, fun j a c h1 h2 => ?_, S.tb⟩
  · unfold adrs
    rw [List.nodup_iff_pairwise_ne] at nd ⊢
    rw [List.pairwise_map]
    refine List.Pairwise.imp_of_mem (fun {x y} hx hy ne e => ne ?_) nd
    have k1 := hk x hx
    have k2 := hk y hy
    simp only [List.getD_eq_getElem?_getD, List.getElem?_eq_getElem k1, List.getElem?_eq_getElem k2, Option.getD_some] at e
    exact nd_ix S.nd (List.getElem?_eq_getElem k1) (by rw [List.getElem?_eq_getElem k2, e])
  · rcases z.1 with z | z
    · exact (S.gd b z).2
    · exact S.tracked z
  · have hj : j < ks.length := by have := (List.getElem?_eq_some_iff.mp h1).1; simpa [adrs] using this
    obtain ⟨c', g1, g2⟩ := e2 j ks[j] (List.getElem?_eq_getElem hj)
    rw [h2] at g1
    cases g1
    have hk' := hk ks[j] (List.getElem_mem hj)
    have g3 := adrs_get (α := α) (List.getElem?_eq_getElem hj) hk'
    rw [h1] at g3
    cases g3
    refine (S.cell ks[j] _ c (List.getElem?_eq_getElem hk') g2).less fun b z => ?_
    rcases z with z | z
    · exact z.1
    · obtain ⟨k, _, e⟩ := adrs_mem z hk
      exact .inr (List.mem_of_getElem? e)
/-- .. and back, with new cells at β -/
theorem back {ks ls : List Nat} {cs cs' γ : List Cell} {β : List Addr} {H' : Hp} (S : RepS Z G α H μ) (h : cellsOf μ ks = some cs) (nd : (ks ++ ls).Nodup) (hk : ∀ k ∈ ks, k < α.length) (hl : ∀ k ∈ ls, k < α.length) (hc : cs'.length = ks.length) (hb : ∀ b ∈ β, H b = none)
    (P : Post (adrs α ks) H (adrs α ks) H') (S' : RepS Z (Gc G α ks ls) (adrs α ks ++ β) H' (cs' ++ γ)) (ok : ls = [] ∨ (∀ c ∈ cs' ++ γ, c.tupO = true)) :
    Post α H (α ++ β) H' ∧ RepS Z G (α ++ β) H' (putC μ ks cs' ++ γ) ∧ (∀ v d, (ls = [] ∨ d.tupO = true) → Rp H' (off (Gc G α ks ls) (adrs α ks ++ β)) v d → Rp H' (off G (α ++ β)) v d) := by
  have sub : ∀ b, b ∈ adrs α ks → b ∈ α := fun b z => by
    obtain ⟨k, _, e⟩ := adrs_mem z hk
    exact List.mem_of_getElem? e
  rw [List.nodup_append] at nd
  have ext : ls = [] → ∀ a, off G (α ++ β) a → off (Gc G α ks ls) (adrs α ks ++ β) a := fun e a z => by
    by_cases z1 : a ∈ adrs α ks
    · exact .inr (List.mem_append_left _ z1)
    · have z3 : ∀ y, off G α y → y ∉ adrs α ks → off (Gc G α ks ls) (adrs α ks ++ β) y := fun y z z1 => .inl ⟨z, z1, by subst e; simp [adrs]⟩
      rcases z with z | z
      · exact z3 a (.inl z) z1
      · rcases List.mem_append.mp z with z | z
        · exact z3 a (.inr z) z1
        · exact .inr (List.mem_append_right _ z)
  have tup : ∀ a xs, ¬ off (Gc G α ks ls) (adrs α ks ++ β) a → TupAt H' a xs → ¬ off G (α ++ β) a := fun a xs n ⟨eo, e, _⟩ z => by
    have z1 : a ∉ adrs α ks := fun z => n (.inr (List.mem_append_left _ z))
    have z2 : a ∉ β := fun z => n (.inr (List.mem_append_right _ z))
    have z3 : off G α a := by
      rcases z with z | z
      · exact .inl z
      · rcases List.mem_append.mp z with z | z
        · exact .inr z
        · exact absurd z z2
    by_cases z4 : a ∈ adrs α ls
    · obtain ⟨k, hk1, e1⟩ := adrs_mem z4 hl
      have hk2 := hl k hk1
      obtain ⟨c, hc⟩ : ∃ c, μ[k]? = some c := ⟨μ[k]'(by rw [← S.len]; exact hk2), List.getElem?_eq_getElem _⟩
      have q := S.cell k a c e1 hc
      cases c with
      | lst ds => obtain ⟨ys, e', _⟩ := q; rw [P.keep a _ e' z1] at e; cases e
      | dic ds => obtain ⟨ys, e', _⟩ := q; rw [P.keep a _ e' z1] at e; cases e
      | dct ds => obtain ⟨ys, e', _⟩ := q; rw [P.keep a _ e' z1] at e; cases e
    · exact n (.inl ⟨z3, z1, z4⟩)
  have nb : ∀ b ∈ β, b ∉ α := fun b z za => by
    obtain ⟨o, e⟩ := S.tracked za
    rw [hb b z] at e; cases e
  have PP : Post α H (α ++ β) H' := ⟨⟨β, rfl⟩, fun b z n => by
      rcases List.mem_append.mp z with z | z
      · exact absurd z n
      · exact hb b z, fun b o e n t => P.keep0 b o e (fun z => n (sub b z)) t, P.dom, fun b ps e n => P.tbl b ps e fun z => n (sub b z)⟩
  have nd' := S'.nd
  rw [List.nodup_append] at nd'
  have hlen : (adrs α ks).length = cs'.length := by simp [adrs, hc]
  have hlen2 : β.length = γ.length := by have := S'.len; simp only [List.length_append] at this; omega
  have conv : ∀ {a : Addr} {c : Cell}, c ∈ cs' ++ γ → CellAt H' (off (Gc G α ks ls) (adrs α ks ++ β)) a c → CellAt H' (off G (α ++ β)) a c := fun {a c} hm q => by
    rcases ok with ok | ok
    · exact q.less (ext ok)
    · exact q.tupO tup (ok c hm)
  refine ⟨PP, ⟨by simp [putC_len, S.len, hlen2], ?_, fun b z => ⟨fun z1 => ?_, ?_⟩, fun k a c h1 h2 => ?_, S'.tb⟩, fun v d z r => ?_⟩
  · rw [List.nodup_append]
    exact ⟨S.nd, nd'.2.1, fun x hx y hy e => nb y hy (e ▸ hx)⟩
  · rcases List.mem_append.mp z1 with z1 | z1
    · exact (S.gd b z).1 z1
    · obtain ⟨o, e⟩ := (S.gd b z).2
      rw [hb b z1] at e; cases e
  · obtain ⟨o, e⟩ := (S.gd b z).2
    exact P.dom b o e
  · by_cases hk1 : k < α.length
    · rw [List.getElem?_append_left hk1] at h1
      rw [List.getElem?_append_left (by rw [putC_len, ← S.len]; exact hk1)] at h2
      rcases putC_get (by rw [hc]) nd.1 h2 with ⟨j, g1, g2⟩ | ⟨g1, g2⟩
      · have g3 := adrs_get (α := α) g1 hk1
        have hj : j < cs'.length := (List.getElem?_eq_some_iff.mp g2).1
        rw [List.getElem?_eq_getElem hk1] at h1
        cases h1
        refine conv (List.mem_append_left _ (List.mem_of_getElem? g2)) (S'.cell j _ c ?_ ?_)
        · rw [List.getElem?_append_left (by rw [hlen]; exact hj)]; exact g3
        · rw [List.getElem?_append_left hj]; exact g2
      · refine (S.cell k a c h1 g2).mono PP.kept ?_
        have ha : a ∉ adrs α ks := fun z => by
          obtain ⟨k', hk', e'⟩ := adrs_mem z hk
          exact g1 (by rw [nd_ix S.nd h1 e']; exact hk')
        obtain ⟨o, e, nt⟩ := S.tracked2 (List.mem_of_getElem? h1)
        rw [P.keep a o e ha (fun ps z => nt (.inl ⟨ps, z⟩)), e]
    · have hk2 : α.length ≤ k := Nat.le_of_not_lt hk1
      rw [List.getElem?_append_right hk2] at h1
      rw [List.getElem?_append_right (by rw [putC_len, ← S.len]; exact hk2), putC_len, ← S.len] at h2
      refine conv (List.mem_append_right _ (List.mem_of_getElem? h2)) (S'.cell (cs'.length + (k - α.length)) a c ?_ ?_)
      · rw [List.getElem?_append_right (by omega), hlen, Nat.add_sub_cancel_left]; exact h1
      · rw [List.getElem?_append_right (by omega), Nat.add_sub_cancel_left]; exact h2
  · rcases z with z | z
    · exact Rp.less (ext z) r
    · exact Rp.tupO tup z r
end

/-! ### the rule for a call -/
theorem t_callF {Z : Wd} {md : List Bool} {F : FD} {G : Addr → Prop} {α : List Addr} {H : Hp} {μ : Sto} {as : List Val} {vs : List V} {Q : VK} {E : XK} (S : RepS Z G α H μ) (r : RpVs G α H vs as) (w : wE Z G α H (callF md F as μ) Q E) : spD Z md F vs H Q E := by
  unfold callF at w
  split at w
  · exact w.elim
  · rename_i ks ds h
    obtain ⟨hk, hl, h1, h2, h3⟩ := splitA_loc h r
    split at w
    · rename_i nd
      split at w
      · exact w.elim
      · rename_i cs hcs
        obtain ⟨e1, e2⟩ := cellsOf_len hcs
        have nd1 := nd
        rw [List.nodup_append] at nd1
        have hle : ∀ {cs' : List Cell} {H' : Hp} {β : List Addr} {γ : List Cell}, β.length = γ.length → RepS Z (Gc G α ks (lentK md as)) (adrs α ks ++ β) H' (cs' ++ γ) → cs'.length = ks.length := fun {cs' H' β γ} hbg S' => by
          have := S'.len
          simp only [List.length_append, adrs, List.length_map] at this
          omega
        refine ⟨h3, Gc G α ks (lentK md as), adrs α ks, cs, ds, by rw [← e1, h1], h2, to_store S hcs nd1.1 hk, to_args S h r (fun i k hi => by simpa using hi) (fun k hk => hk) hk (fun k h1 h2 => nd1.2.2 k h2 k h1 rfl), ?_⟩
        cases q : F cs ds with
        | stuck => simp only [q] at w; exact w.elim
        | ok r cs' =>
          simp only [q] at w
          split at w
          · rename_i hap
            rw [Bool.and_eq_true] at hap
            obtain ⟨hap0, hap⟩ := hap
            have hap : lentK md as = [] ∨ (r.tupO = true ∧ ∀ c ∈ cs', c.tupO = true) := by
              rw [Bool.or_eq_true, Bool.and_eq_true, List.isEmpty_iff, List.all_eq_true] at hap
              exact hap
            cases r with
            | loc n => cases hap0
            | dat d =>
              intro v H' P S' rv
              have S1 : RepS Z (Gc G α ks (lentK md as)) (adrs α ks ++ []) H' (cs' ++ []) := by simpa using S'
              obtain ⟨p1, p2, p3⟩ := back (β := []) (γ := []) S hcs nd hk hl (hle rfl S1) (fun b hb => by cases hb) P S1 (hap.imp id fun z c hc => z.2 c (by simpa using hc))
              simp only [List.append_nil] at p1 p2 p3
              exact w v H' α p1 p2 (p3 v d (hap.imp id fun z => z.1) rv)
            | new c =>
              intro p H' P hp S'
              obtain ⟨p1, p2, p3⟩ := back (β := [p]) (γ := [c]) S hcs nd hk hl (hle rfl S') (fun b hb => by rw [List.mem_singleton.mp hb]; exact hp) P S' (hap.imp id fun z c' hc => by
                rcases List.mem_append.mp hc with hc | hc
                · exact z.2 c' hc
                · rw [List.mem_singleton.mp hc]; exact z.1)
              exact w p H' α ⟨⟨[], by simp⟩, fun b h n => absurd h n, p1.keep0, p1.dom, p1.tbl⟩ hp p2
          · exact w.elim
        | exc x cs' =>
          simp only [q] at w
          split at w
          · rename_i hap
            have hap : lentK md as = [] ∨ (x.tupO = true ∧ ∀ c ∈ cs', c.tupO = true) := by
              rw [Bool.or_eq_true, Bool.and_eq_true, List.isEmpty_iff, List.all_eq_true] at hap
              exact hap
            intro cls dd H' P S' rx
            have S1 : RepS Z (Gc G α ks (lentK md as)) (adrs α ks ++ []) H' (cs' ++ []) := by simpa using S'
            obtain ⟨p1, p2, p3⟩ := back (β := []) (γ := []) S hcs nd hk hl (hle rfl S1) (fun b hb => by cases hb) P S1 (hap.imp id fun z c hc => z.2 c (by simpa using hc))
            simp only [List.append_nil] at p1 p2 p3
            refine w cls dd H' α p1 p2 ⟨rx.1, ?_⟩
            have q2 := rx.2
            cases hx : x.fld with
            | none => simpa [hx] using q2
            | some d =>
              simp only [hx] at q2 ⊢
              obtain ⟨a, v, g1, g2, g3, g4⟩ := q2
              refine ⟨a, v, g1, g2, fun z => ?_, p3 v d (hap.imp id fun z => by have := z.1; simpa [Exn.tupO, hx] using this) g4⟩
              by_cases z1 : a ∈ adrs α ks
              · exact g3 (.inr z1)
              · by_cases z2 : a ∈ adrs α (lentK md as)
                · obtain ⟨k, hk1, e1⟩ := adrs_mem z2 hl
                  have hk2 := hl k hk1
                  obtain ⟨c, hc⟩ : ∃ c, μ[k]? = some c := ⟨μ[k]'(by rw [← S.len]; exact hk2), List.getElem?_eq_getElem _⟩
                  have q := S.cell k a c e1 hc
                  cases c with
                  | lst ds => obtain ⟨ys, e', _⟩ := q; rw [P.keep a _ e' z1] at g2; cases g2
                  | dic ds => obtain ⟨ys, e', _⟩ := q; rw [P.keep a _ e' z1] at g2; cases g2
                  | dct ds => obtain ⟨ys, e', _⟩ := q; rw [P.keep a _ e' z1] at g2; cases g2
                · exact g3 (.inl ⟨z, z1, z2⟩)
          · exact w.elim
    · exact w.elim
section
variable {T : Tx} {X : Cx} {W : WX} {k : Nat} {x : Str} {md : List Bool} {F : FD} {e : Expr} {es : List Expr} {fs : List SE} {p pos : Pos}
theorem d_callF (h : Has T k x md F) (tx : InTx T X) (tk : Takes X W) (hr : Room k X.A) (hg : Gl X x) (ha : PA X (e :: es) (tA T.Z W (sArgs fs))) (hdb : (x == ("__debug__" : Str)) = false := by decide)
    (he : starEach (e :: es) X.env = (false, eval e X.env) :: starEach es X.env := by rfl) (hpl : (backTo pos (starEach es X.env)).any (·.1) = false := by rfl) : PE X (.Call (.Name x p) (e :: es) [] pos) (tD T.Z W (sCallF md F fs)) := by
  obtain ⟨f, fd, ps, hF, hm, hk, hb⟩ := h
  rw [← tx.prog, ← tx.w, ← tx.K, ← tx.mg, ← tx.base] at hF
  rw [← tx.mg] at hm
  rw [← tx.K] at hk hb
  refine PEimp (pe_callS (E := WE W) hF hr hg hm hk hb (passAt tk) ha hdb he hpl) ?_
  rintro σ H Q ⟨G, α, ρ, μ, S, E, w⟩
  refine ⟨G, α, ρ, μ, S, E, ?_⟩
  unfold sCallF at w
  cases h : sArgs fs ρ μ with
  | stuck => simp only [h] at w; exact w.elim
  | exc x μ1 => simp only [h] at w; exact w
  | ok as μ1 =>
    simp only [h] at w
    intro vs H1 α1 p1 S1 r1
    exact t_callF S1 r1 (wE.post p1 w)
end

/-! ### the rule for a def -/
def startE (n : Nat) (md : List Bool) (ds : List D) : Env := (mix md 0 ds).map some ++ List.replicate (n - md.length) none
def retR (own : Bool) (nb : Nat) (r : Res) (μ : Sto) : Out Res := match r with
  | .dat d => .ok (.dat d) (μ.take nb)
  | .new c => .ok (if own then .new c else .dat c.frz) (μ.take nb)
  | .loc k => if k < nb then .stuck else match μ[k]? with
    | some c => .ok (if own then .new c else .dat c.frz) (μ.take nb)
    | none => .stuck
def fin (own : Bool) (nb : Nat) : SOut → Out Res
  | .ret r μ => retR own nb r μ
  | .next _ μ => .ok (.dat .non) (μ.take nb)
  | .exc x _ μ => .exc x (μ.take nb)
  | _ => .stuck
/-- what a def does: n names, the lent cells' places, whether its answer is a new object that the caller may change -/
def fnS (n : Nat) (md : List Bool) (own : Bool) (g : SS) : FD := fun cs ds => fin own cs.length (g (startE n md ds) cs)
section
variable {G : Addr → Prop} {α β : List Addr} {H H' : Hp} {μ : Sto} {p : Addr} {c : Cell}
theorem Post.back1 (P : Post α H (α ++ β) H') : Post α H α H' := ⟨⟨[], by simp⟩, fun b h n => absurd h n, P.keep0, P.dom, P.tbl⟩
theorem off_app : ∀ a, off G α a → off G (α ++ β) a := fun a h => h.elim .inl fun h => .inr (List.mem_append_left _ h)
theorem RepS.take (S : RepS Z G (α ++ β) H μ) : RepS Z G α H (μ.take α.length) := by
  have hl := S.len
  simp only [List.length_append] at hl
  have nd := S.nd
  rw [List.nodup_append] at nd
  refine ⟨by simp; omega, nd.1, fun b h => ⟨fun hb => (S.gd b h).1 (List.mem_append_left _ hb), (S.gd b h).2⟩, fun k a c h1 h2 => ?_, S.tb⟩
  have hk := (List.getElem?_eq_some_iff.mp h1).1
  rw [List.getElem?_take_of_lt hk] at h2
  exact (S.cell k a c (by rw [List.getElem?_append_left hk]; exact h1) h2).less off_app
theorem RepS.pick (S : RepS Z G (α ++ β) H μ) {k : Nat} (hk : α.length ≤ k) (h1 : (α ++ β)[k]? = some p) (h2 : μ[k]? = some c) : RepS Z G (α ++ [p]) H (μ.take α.length ++ [c]) := by
  have S1 := S.take
  have hp : p ∈ β := by
    rw [List.getElem?_append_right hk] at h1
    exact List.mem_of_getElem? h1
  have nd := S.nd
  rw [List.nodup_append] at nd
  have sub : ∀ a, off G (α ++ [p]) a → off G (α ++ β) a := fun a h => by
    rcases h with h | h
    · exact .inl h
    · rcases List.mem_append.mp h with h | h
      · exact .inr (List.mem_append_left _ h)
      · rw [List.mem_singleton.mp h]; exact .inr (List.mem_append_right _ hp)
  refine ⟨by simp [← S1.len], ?_, fun b h => ⟨fun hb => ?_, (S.gd b h).2⟩, fun j a c' g1 g2 => ?_, S.tb⟩
  · rw [List.nodup_append]
    exact ⟨nd.1, by simp, fun a ha b hb => by rw [List.mem_singleton.mp hb]; exact nd.2.2 a ha p hp⟩
  · refine (S.gd b h).1 ?_
    rcases List.mem_append.mp hb with hb | hb
    · exact List.mem_append_left _ hb
    · rw [List.mem_singleton.mp hb]; exact List.mem_append_right _ hp
  · by_cases hj : j < α.length
    · rw [List.getElem?_append_left hj] at g1
      rw [List.getElem?_append_left (by rw [← S1.len]; exact hj), List.getElem?_take_of_lt hj] at g2
      exact (S.cell j a c' (by rw [List.getElem?_append_left hj]; exact g1) g2).less sub
    · have hj2 : j < (α ++ [p]).length := (List.getElem?_eq_some_iff.mp g1).1
      have e : j = α.length := by simp at hj2; omega
      subst e
      rw [S1.len] at g2
      simp at g1 g2
      subst g1 g2
      exact (S.cell k p c h1 h2).less sub
theorem mix_len : ∀ (md : List Bool) (k : Nat) (ds : List D), (mix md k ds).length = md.length
  | [], _, _ => rfl
  | true :: md, k, ds => by simp [mix, mix_len md]
  | false :: md, k, [] => by simp [mix, mix_len md]
  | false :: md, k, d :: ds => by simp [mix, mix_len md]
theorem start_rep {N : List Str} {md : List Bool} {ds : List D} {vs : List V} (r : RpVs G α H vs (mix md 0 ds)) (hl : vs.length = md.length) : RepE G α H (L2.start N vs) (startE N.length md ds) := by
  unfold L2.start startE
  refine ⟨by simp [mix_len, hl], fun i v h => ?_⟩
  by_cases hi : i < md.length
  · rw [List.getElem?_append_left (by simp [mix_len]; exact hi), List.getElem?_map] at h
    rw [List.getElem?_append_left (by simp; omega), List.getElem?_map]
    obtain ⟨u, hu, e⟩ := Option.map_eq_some_iff.mp h
    cases e
    have : ∀ {vs : List V} {as : List Val} {i : Nat} {u : Val}, RpVs G α H vs as → as[i]? = some u → ∃ x, vs[i]? = some x ∧ RpV G α H x u := by
      intro vs as
      induction as generalizing vs with
      | nil => intro i u _ h; simp at h
      | cons a as ih =>
        intro i u r h
        cases r with
        | cons r t =>
          cases i with
          | zero => simp at h; subst h; exact ⟨_, rfl, r⟩
          | succ i => simp at h; simpa using ih t h
    obtain ⟨x, hx, rx⟩ := this r hu
    exact ⟨x, by rw [hx]; rfl, rx⟩
  · rw [List.getElem?_append_right (by simp [mix_len]; omega), List.getElem?_replicate] at h
    split at h <;> cases h
end
/-- a def of the text by its name -/
def DefAt (T : Tx) (x : Str) (st : Stmt) : Prop := ∃ f fd, Fun T.K x x st f fd ∧ T.mg x = some (.ref f)
theorem fnok_ofC {T : Tx} {x : Str} {st : Stmt} {f : Addr} {fd : FuncData} {N ps : List Str} {k : Nat} {md : List Bool} {own : Bool} {g : SS} (F : Fun T.K x x st f fd) (S : FnScope N ps (defScope st)) (hl : ps.length = md.length)
    (body : ∀ (f : Addr) (cdv : Value) (A : Around) (outer : List PySem.Env) (s : Shared) (H : Hp) (E : XK), fd.code = cdv → Room k (A.deeper (PyProof.Rows.envOfC x (defScope st) s.heap.objs.size f cdv)) →
      PSs (cxOf (L2.CX T.P T.w) T.P T.w T.K T.mg T.base N x (defScope st) f cdv A outer s H E) (defBody st) (tS T.Z (fun cls d _ H => E cls d H) g)) : FnOk T.P T.w T.K T.mg T.base (L2.CX T.P T.w) (k + 1) f fd ps (spD T.Z md (fnS N.length md own g)) := by
  obtain ⟨oc, od, kV, doc, pm, an, cdv, ct, osl, rfl, lk, hcd⟩ := F.ex
  refine fn_of lk hcd S (fun vs H Q E h => by rw [hl]; exact h.1) fun A outer s H vs Q E hr h => ⟨_, body f cdv A outer s H E rfl hr, ?_⟩
  obtain ⟨h1, G, α, cs, ds, h2, h3, S0, r, w⟩ := h
  refine ⟨G, α, _, cs, S0, start_rep r h1, ?_⟩
  have hcs := S0.len
  unfold fnS at w
  cases q : g (startE N.length md ds) cs with
  | stuck => rw [q] at w; exact w
  | brk ρ' μ' => rw [q] at w; exact w.elim
  | cnt ρ' μ' => rw [q] at w; exact w.elim
  | next ρ' μ' =>
    rw [q] at w
    intro σ' H' α' P S' E'
    obtain ⟨β, rfl⟩ := P.ext
    exact w .non H' P.back1 (by have := S'.take; rw [hcs] at this; exact this) .non
  | exc x ρ' μ' =>
    rw [q] at w
    intro cls dd σ' H' α' P S' E' rx
    obtain ⟨β, rfl⟩ := P.ext
    refine w cls dd H' P.back1 (by have := S'.take; rw [hcs] at this; exact this) ⟨rx.1, ?_⟩
    have q2 := rx.2
    cases hx : x.fld with
    | none => simpa [hx] using q2
    | some d =>
      simp only [hx] at q2 ⊢
      obtain ⟨a, v, g1, g2, g3, g4⟩ := q2
      exact ⟨a, v, g1, g2, fun z => g3 (off_app a z), g4.less off_app⟩
  | ret r μ' =>
    rw [q] at w
    simp only [fin] at w
    cases r with
    | dat d =>
      intro v H' α' P S' rv
      obtain ⟨β, rfl⟩ := P.ext
      exact w v H' P.back1 (by have := S'.take; rw [hcs] at this; exact this) (rv.less off_app)
    | new c =>
      intro p H' α' P hp S'
      obtain ⟨β, rfl⟩ := P.ext
      rw [List.append_assoc] at S'
      have hl' : (α ++ β).length = μ'.length := by have := S'.len; simp at this ⊢; omega
      have S2 := S'.pick (k := μ'.length) (p := p) (c := c) (by rw [← hl']; simp) (by rw [← List.append_assoc, ← hl']; simp) (by simp)
      have e : (μ' ++ [c]).take α.length = μ'.take cs.length := by
        rw [hcs, List.take_append_of_le_length]
        rw [← hl', ← hcs]; simp
      rw [e] at S2
      cases own with
      | true => exact w p H' P.back1 hp S2
      | false => exact w _ H' P.back1 S2.freeze.1 S2.freeze.2
    | loc n =>
      intro a H' α' P S' ha
      obtain ⟨β, rfl⟩ := P.ext
      simp only [retR] at w
      split at w
      · exact w.elim
      · rename_i hn
        split at w
        · rename_i c hc
          have hn' : α.length ≤ n := by omega
          have S2 := S'.pick hn' ha hc
          rw [hcs] at S2
          have hp : H a = none := by
            have nd := S'.nd
            rw [List.nodup_append] at nd
            rw [List.getElem?_append_right hn'] at ha
            have hb := List.mem_of_getElem? ha
            exact P.fresh a (List.mem_append_right _ hb) fun z => nd.2.2 a z a hb rfl
          cases own with
          | true => exact w a H' P.back1 hp S2
          | false => exact w _ H' P.back1 S2.freeze.1 S2.freeze.2
        · exact w.elim
theorem fnok_of {T : Tx} {x : Str} {st : Stmt} {f : Addr} {fd : FuncData} {N ps : List Str} {k : Nat} {md : List Bool} {own : Bool} {g : SS} (F : Fun T.K x x st f fd) (S : FnScope N ps (defScope st)) (hl : ps.length = md.length)
    (body : ∀ (f : Addr) (cdv : Value) (A : Around) (outer : List PySem.Env) (s : Shared) (H : Hp) (E : XK), Room k (A.deeper (PyProof.Rows.envOfC x (defScope st) s.heap.objs.size f cdv)) →
      PSs (cxOf (L2.CX T.P T.w) T.P T.w T.K T.mg T.base N x (defScope st) f cdv A outer s H E) (defBody st) (tS T.Z (fun cls d _ H => E cls d H) g)) : FnOk T.P T.w T.K T.mg T.base (L2.CX T.P T.w) (k + 1) f fd ps (spD T.Z md (fnS N.length md own g)) :=
  fnok_ofC F S hl fun f cdv A outer s H E _ hr => body f cdv A outer s H E hr
/-- a def of the text whose code object is known -/
def DefC (T : Tx) (x : Str) (st : Stmt) (c : Addr) : Prop := ∃ f fd, Fun T.K x x st f fd ∧ T.mg x = some (.ref f) ∧ fd.code = .ref c
theorem has_ofC {T : Tx} {x : Str} {st : Stmt} {c : Addr} {N ps : List Str} {k : Nat} {md : List Bool} {own : Bool} {g : SS} (hd : DefC T x st c) (S : FnScope N ps (defScope st)) (hl : ps.length = md.length)
    (hb : ∀ (kV doc pm : Value) (an : Option Addr) (cdv ct : Value) (us : List Value), us.length = ps.length → bindArgs (PySem.W.fnOf x x (defArgs st) (defBody st) (defScope st) .none kV doc pm an cdv ct) ⟨us, []⟩ = pure (ps.zip us))
    (body : ∀ (f : Addr) (A : Around) (outer : List PySem.Env) (s : Shared) (H : Hp) (E : XK), Room k (A.deeper (PyProof.Rows.envOfC x (defScope st) s.heap.objs.size f (.ref c))) →
      PSs (cxOf (L2.CX T.P T.w) T.P T.w T.K T.mg T.base N x (defScope st) f (.ref c) A outer s H E) (defBody st) (tS T.Z (fun cls d _ H => E cls d H) g)) : Has T (k + 1) x md (fnS N.length md own g) := by
  obtain ⟨f, fd, F, hm, hc⟩ := hd
  refine ⟨f, fd, ps, fnok_ofC F S hl fun f cdv A outer s H E e hr => ?_, hm, F.kp, F.binds hb⟩
  rw [hc] at e
  subst e
  exact body f A outer s H E hr
theorem has_of {T : Tx} {x : Str} {st : Stmt} {N ps : List Str} {k : Nat} {md : List Bool} {own : Bool} {g : SS} (hd : DefAt T x st) (S : FnScope N ps (defScope st)) (hl : ps.length = md.length)
    (hb : ∀ (kV doc pm : Value) (an : Option Addr) (cdv ct : Value) (us : List Value), us.length = ps.length → bindArgs (PySem.W.fnOf x x (defArgs st) (defBody st) (defScope st) .none kV doc pm an cdv ct) ⟨us, []⟩ = pure (ps.zip us))
    (body : ∀ (f : Addr) (cdv : Value) (A : Around) (outer : List PySem.Env) (s : Shared) (H : Hp) (E : XK), Room k (A.deeper (PyProof.Rows.envOfC x (defScope st) s.heap.objs.size f cdv)) →
      PSs (cxOf (L2.CX T.P T.w) T.P T.w T.K T.mg T.base N x (defScope st) f cdv A outer s H E) (defBody st) (tS T.Z (fun cls d _ H => E cls d H) g)) : Has T (k + 1) x md (fnS N.length md own g) := by
  obtain ⟨f, fd, F, hm⟩ := hd
  exact ⟨f, fd, ps, fnok_of F S hl body, hm, F.kp, F.binds hb⟩
end Sx

/-! SxMore: built-ins by their names, isinstance, stores, append, op=, dicts. -/
namespace Sx
open PySem L2

section
variable {X : Cx} {Z : Wd} {W : WX} {a b c : Expr} {f g h : SE} {p q pos : Pos}
/-! ### -a -/
def sNeg (f : SE) : SE := fun ρ μ => opd (f ρ μ) fun v μ1 => match v with
  | .dat (.int i) => .ok (.dat (.int (-i))) μ1
  | _ => .stuck
theorem d_neg (ha : PE X a (tD Z W f)) : PE X (.UnaryOp .USub a pos) (tD Z W (sNeg f)) := by
  refine PEimp (pe_un un_neg ha) ?_
  rintro σ H Q ⟨G, α, ρ, μ, S, E, w⟩
  refine ⟨G, α, ρ, μ, S, E, wE.opd w fun x H1 α1 μ1 v p1 S1 r1 w1 => ?_⟩
  cases v with
  | loc k => exact w1.elim
  | dat d =>
    cases d with
    | int i => rw [inv_ii r1]; exact ⟨i, rfl, w1.pure S1 (.int _)⟩
    | _ => exact w1.elim

/-! ### isinstance with the plain types -/
inductive Ty where
  | int | bool | str | tuple | list
def Ty.nm : Ty → String
  | .int => "int"
  | .bool => "bool"
  | .str => "str"
  | .tuple => "tuple"
  | .list => "list"
/-- the kind of data -/
inductive Kd where
  | non | bl | int | str | tup | lst | dic | dct
def Kd.nm : Kd → String
  | .non => "NoneType"
  | .bl => "bool"
  | .int => "int"
  | .str => "str"
  | .tup => "tuple"
  | .lst => "list"
  | .dic => "dict"
  | .dct => "dict"
def D.kd : D → Kd
  | .non => .non
  | .bl _ => .bl
  | .int _ => .int
  | .str _ => .str
  | .tup _ => .tup
  | .lst _ => .lst
  | .dic _ => .dic
  | .dct _ => .dct
  | .scr _ => .lst
def kdOf (μ : Sto) (v : Val) : Option Kd := (toD μ v).map D.kd
def Kd.isT : Kd → Ty → Bool
  | .bl, .int => true
  | .bl, .bool => true
  | .int, .int => true
  | .str, .str => true
  | .tup, .tuple => true
  | .lst, .list => true
  | _, _ => false
theorem isT_kit : ∀ (k : Kd) (t : Ty), kitB k.nm t.nm = some (k.isT t) := by
  intro k t
  cases k <;> cases t <;> decide +kernel
theorem kd_ok {K : PySem.W.Frag} {H : Hp} {x : V} {d : D} (r : Rp H (fun _ => False) x d) (h : d.kd ≠ .dct) : TyX K H x (.type d.kd.nm) := by
  cases r with
  | non => exact .base .non
  | bl b => exact .base (.bl b)
  | int i => exact .base (.int i)
  | str x => exact .base (.str x)
  | tup e _ _ => obtain ⟨_, e, _⟩ := e; exact .fTuple e
  | lst e _ _ => exact .base (.lst e)
  | scr e _ => exact e.elim (fun e => .base (.lst e)) fun ⟨_, e⟩ => .base (.frz e)
  | dic e _ _ => exact e.elim (fun e => .base (.dK e)) fun ⟨_, e⟩ => .fDict e
  | dct e _ _ => exact absurd rfl h
def isiV (t : Ty) (μ : Sto) (v : Val) : Option Bool := match kdOf μ v with
  | some .dct => none
  | some k => some (k.isT t)
  | none => none
def sIsi (t : Ty) (f : SE) : SE := fun ρ μ => opd (f ρ μ) fun v μ1 => match isiV t μ1 v with
  | some b => .ok (.dat (.bl b)) μ1
  | none => .stuck
/-- isinstance(x, (t, u)) -/
def sIsi2 (t u : Ty) (f : SE) : SE := fun ρ μ => opd (f ρ μ) fun v μ1 => match isiV t μ1 v, isiV u μ1 v with
  | some b, some c => .ok (.dat (.bl (b || c))) μ1
  | _, _ => .stuck
theorem isiV_ok {K : PySem.W.Frag} {G : Addr → Prop} {α : List Addr} {H : Hp} {μ : Sto} {x : V} {v : Val} {t : Ty} {b : Bool} (S : RepS Z G α H μ) (r : RpV G α H x v) (e : isiV t μ v = some b) :
    ∃ k : Kd, TyX K H x (.type k.nm) ∧ PySem.W.kitOne K (.type k.nm) (.type t.nm) = some b ∧ kdOf μ v = some k := by
  unfold isiV at e
  split at e
  · cases e
  · rename_i k hk hn
    cases e
    unfold kdOf at hn
    obtain ⟨d, h1, rfl⟩ := Option.map_eq_some_iff.mp hn
    exact ⟨d.kd, kd_ok (toD_ok S r h1) (fun z => hk z), kit_ty (isT_kit _ _), hn⟩
  · cases e
theorem n_isi (t : Ty) {x : Str} {p2 : Pos} (hm : X.mg "isinstance" = none) (ha : PA X [a, .Name x p2] (tCons (tD Z W f) (tCons (tC (.ty t.nm)) tNil))) (hg : Gl X "isinstance" := by rfl)
    (he : starEach [a, .Name x p2] X.env = (false, eval a X.env) :: starEach [.Name x p2] X.env := by rfl) (hpl : (backTo pos (starEach [.Name x p2] X.env)).any (·.1) = false := by rfl) :
    PE X (.Call (.Name "isinstance" p) [a, .Name x p2] [] pos) (tD Z W (sIsi t f)) := by
  refine PEimp (pe_callB call_isi hg hm PyProof.Rows.boot_isinstance ha (by decide) (by decide) he hpl) ?_
  rintro σ H Q ⟨G, α, ρ, μ, S, E, w⟩
  refine ⟨G, α, ρ, μ, S, E, wE.opd w fun x H1 α1 μ1 v p1 S1 r1 w1 => ?_⟩
  cases e : isiV t μ1 v with
  | none => simp only [e] at w1; exact w1.elim
  | some b =>
    simp only [e] at w1
    obtain ⟨k, h1, h2, _⟩ := isiV_ok (K := X.K) S1 r1 e
    exact ⟨x, .ty t.nm, _, _, b, rfl, .ty _, h1, h2, w1.pure S1 (.bl b)⟩
theorem n_isi2 (t u : Ty) {y : Expr} (hm : X.mg "isinstance" = none) (ha : PA X [a, y] (tCons (tD Z W f) (tCons (tTup (tCons (tC (.ty t.nm)) (tCons (tC (.ty u.nm)) tNil))) tNil))) (hg : Gl X "isinstance" := by rfl)
    (he : starEach [a, y] X.env = (false, eval a X.env) :: starEach [y] X.env := by rfl) (hpl : (backTo pos (starEach [y] X.env)).any (·.1) = false := by rfl) :
    PE X (.Call (.Name "isinstance" p) [a, y] [] pos) (tD Z W (sIsi2 t u f)) := by
  refine PEimp (pe_callB call_isiT hg hm PyProof.Rows.boot_isinstance ha (by decide) (by decide) he hpl) ?_
  rintro σ H Q ⟨G, α, ρ, μ, S, E, w⟩
  refine ⟨G, α, ρ, μ, S, E, wE.opd w fun x H1 α1 μ1 v p1 S1 r1 w1 => ?_⟩
  cases e : isiV t μ1 v with
  | none => simp only [e] at w1; exact w1.elim
  | some b =>
    cases e2 : isiV u μ1 v with
    | none => simp only [e, e2] at w1; exact w1.elim
    | some c =>
      simp only [e, e2] at w1
      refine ⟨by show 2 ≤ sizeLine; rw [sizeLine_eq]; decide, fun tp htp => ?_⟩
      have P : Post α1 H1 α1 (upd H1 tp (.tup [.ty t.nm, .ty u.nm])) := Post.alloc htp
      have S2 := S1.alloc (o := .tup [.ty t.nm, .ty u.nm]) htp
      have r2 := r1.post P
      obtain ⟨k, h1, h2, h3⟩ := isiV_ok (K := X.K) S2 r2 e
      obtain ⟨k', h1', h2', h3'⟩ := isiV_ok (K := X.K) S2 r2 e2
      rw [h3] at h3'
      cases h3'
      refine ⟨x, tp, [.ty t.nm, .ty u.nm], _, [.type t.nm, .type u.nm], (b || c), rfl, upd_same, .cons (.ty _) (.cons (.ty _) .nil), h1, ?_, (wE.post P w1).pure S2 (.bl _)⟩
      refine kitAny_cons h2 (fun hb => ?_) (fun hb => by rw [hb]; rfl)
      refine kitAny_cons h2' (fun hc => by rw [hb, hc]; exact kitAny_nil) (fun hc => by rw [hc, Bool.or_true])
end

/-! ### stores -/
def dPut {κ τ : Type} [DecidableEq κ] (kvs : List (κ × τ)) (k : κ) (v : τ) : List (κ × τ) :=
  if (kvs.any fun kv => decide (kv.1 = k)) = true then kvs.map (fun kv => if kv.1 = k then (kv.1, v) else kv) else kvs ++ [(k, v)]
def dDrop {κ τ : Type} [DecidableEq κ] (kvs : List (κ × τ)) (k : κ) : List (κ × τ) := kvs.filter fun kv => decide (kv.1 ≠ k)
section
variable {H : Hp} {F : Addr → Prop}
theorem rpK_any {k : Key} : ∀ {xs : List (Key × V)} {ds : List (Key × D)}, RpK H F xs ds → (xs.any fun kv => decide (kv.1 = k)) = (ds.any fun kv => decide (kv.1 = k))
  | _, _, .nil => rfl
  | _, _, .cons r t => by rw [List.any_cons, List.any_cons, rpK_any t]
theorem rpK_app : ∀ {xs ys : List (Key × V)} {ds es : List (Key × D)}, RpK H F xs ds → RpK H F ys es → RpK H F (xs ++ ys) (ds ++ es)
  | _, _, _, _, .nil, s => s
  | _, _, _, _, .cons r t, s => .cons r (rpK_app t s)
theorem rpK_map {k : Key} {v : V} {d : D} (rv : Rp H F v d) : ∀ {xs : List (Key × V)} {ds : List (Key × D)}, RpK H F xs ds → RpK H F (xs.map fun kv => if kv.1 = k then (kv.1, v) else kv) (ds.map fun kv => if kv.1 = k then (kv.1, d) else kv)
  | _, _, .nil => .nil
  | _, _, .cons (k := k') r t => by
    rw [List.map_cons, List.map_cons]
    by_cases e : k' = k
    · simp only [e, if_true]
      exact .cons rv (rpK_map rv t)
    · simp only [e, if_false]
      exact .cons r (rpK_map rv t)
theorem rpK_put {k : Key} {v : V} {d : D} {xs : List (Key × V)} {ds : List (Key × D)} (r : RpK H F xs ds) (rv : Rp H F v d) : RpK H F (putK xs k v) (dPut ds k d) := by
  unfold putK dPut
  rw [rpK_any r]
  split
  · exact rpK_map rv r
  · exact rpK_app r (.cons rv .nil)
theorem rpK_drop {k : Key} : ∀ {xs : List (Key × V)} {ds : List (Key × D)}, RpK H F xs ds → RpK H F (dropK xs k) (dDrop ds k)
  | _, _, .nil => .nil
  | _, _, .cons (k := k') r t => by
    unfold dropK dDrop
    rw [List.filter_cons, List.filter_cons]
    by_cases e : k' = k
    · simp only [e, ne_eq, not_true_eq_false, decide_false, Bool.false_eq_true, if_false]
      exact rpK_drop t
    · simp only [e, ne_eq, not_false_eq_true, decide_true, if_true]
      exact .cons r (rpK_drop t)
theorem rpK_len : ∀ {xs : List (Key × V)} {ds : List (Key × D)}, RpK H F xs ds → xs.length = ds.length
  | _, _, .nil => rfl
  | _, _, .cons r t => congrArg (· + 1) (rpK_len t)
theorem rpT_any {k : List Key} : ∀ {xs : List (List Key × V)} {ds : List (List Key × D)}, RpT H F xs ds → (xs.any fun kv => decide (kv.1 = k)) = (ds.any fun kv => decide (kv.1 = k))
  | _, _, .nil => rfl
  | _, _, .cons r t => by rw [List.any_cons, List.any_cons, rpT_any t]
theorem rpT_app : ∀ {xs ys : List (List Key × V)} {ds es : List (List Key × D)}, RpT H F xs ds → RpT H F ys es → RpT H F (xs ++ ys) (ds ++ es)
  | _, _, _, _, .nil, s => s
  | _, _, _, _, .cons r t, s => .cons r (rpT_app t s)
theorem rpT_map {k : List Key} {v : V} {d : D} (rv : Rp H F v d) : ∀ {xs : List (List Key × V)} {ds : List (List Key × D)}, RpT H F xs ds → RpT H F (xs.map fun kv => if kv.1 = k then (kv.1, v) else kv) (ds.map fun kv => if kv.1 = k then (kv.1, d) else kv)
  | _, _, .nil => .nil
  | _, _, .cons (k := k') r t => by
    rw [List.map_cons, List.map_cons]
    by_cases e : k' = k
    · simp only [e, if_true]
      exact .cons rv (rpT_map rv t)
    · simp only [e, if_false]
      exact .cons r (rpT_map rv t)
theorem rpT_put {k : List Key} {v : V} {d : D} {xs : List (List Key × V)} {ds : List (List Key × D)} (r : RpT H F xs ds) (rv : Rp H F v d) : RpT H F (putK xs k v) (dPut ds k d) := by
  unfold putK dPut
  rw [rpT_any r]
  split
  · exact rpT_map rv r
  · exact rpT_app r (.cons rv .nil)
theorem rpT_len : ∀ {xs : List (List Key × V)} {ds : List (List Key × D)}, RpT H F xs ds → xs.length = ds.length
  | _, _, .nil => rfl
  | _, _, .cons r t => congrArg (· + 1) (rpT_len t)
end
/-- a cell is changed -/
theorem cell_write {G : Addr → Prop} {α : List Addr} {H : Hp} {μ : Sto} {k : Nat} {p : Addr} {o : HO} {c : Cell} (S : RepS Z G α H μ) (hk : α[k]? = some p)
    (hc : (∀ a ob, ¬ off G α a → H a = some ob → (∃ o', upd H p o a = some o' ∧ Kp ob o') ∧ ¬ off G α a) → CellAt (upd H p o) (off G α) p c) : Post α H α (upd H p o) ∧ RepS Z G α (upd H p o) (μ.set k c) := by
  have hp : p ∈ α := List.mem_of_getElem? hk
  obtain ⟨o0, e0⟩ := S.tracked hp
  obtain ⟨o1, e1, nt⟩ := S.tracked2 hp
  have P : Post α H α (upd H p o) := ⟨⟨[], by simp⟩, fun b h n => absurd h n, fun b ob e n _ => by rw [upd_ne (fun z => n (by rw [z]; exact hp))]; exact e, fun b ob e => by
    by_cases z : b = p
    · subst z; exact ⟨_, upd_same⟩
    · exact ⟨ob, by rw [upd_ne z]; exact e⟩, fun b ps e n => ⟨ps, by rw [upd_ne (fun z => n (by rw [z]; exact hp))]; exact e⟩⟩
  refine ⟨P, ⟨by simp [S.len], S.nd, fun b g => ⟨(S.gd b g).1, let ⟨_, e⟩ := (S.gd b g).2; P.dom _ _ e⟩, fun j a c' h1 h2 => ?_, tabs_upd S.tb fun u eu => by rw [e1] at eu; cases eu; exact nt⟩⟩
  by_cases e : k = j
  · subst e
    rw [hk] at h1
    cases h1
    have hl : k < μ.length := by rw [← S.len]; exact (List.getElem?_eq_some_iff.mp hk).1
    rw [List.getElem?_set_self hl] at h2
    cases h2
    exact hc P.kept
  · rw [List.getElem?_set_ne e] at h2
    have ha : a ≠ p := fun z => e (nd_ix S.nd (by rw [z]; exact hk) h1)
    exact (S.cell j a c' h1 h2).mono P.kept (by rw [upd_ne ha])
/-- x[i] = v, x the k-th cell -/
def setC (μ : Sto) (k : Nat) (i : Val) (d : D) : Option Sto := match μ[k]? with
  | some (.lst ds) => match i with
    | .dat (.int j) => (ixN ds.length j).map fun n => μ.set k (.lst (ds.set n d))
    | _ => none
  | some (.dic kvs) => match keyD i with
    | some key => if kvs.length < sizeLine then some (μ.set k (.dic (dPut kvs key d))) else none
    | none => none
  | some (.dct kvs) => match i with
    | .dat (.tup ks) => match keyL ks with
      | some key => if kvs.length < sizeLine then some (μ.set k (.dct (dPut kvs key d))) else none
      | none => none
    | _ => none
  | none => none
def rSetD : V → V → V → Hp → (Hp → Prop) → Prop := fun o i v H Q => ∃ a H', o = .ref a ∧ DPut H a i v H' ∧ Q H'
theorem set_dict {X : Cx} (hu : X.A.units + 1 < cLine) : PSet X rSetD := by
  intro pins s σ H o i v ov iv u Q I ro ri rv h
  obtain ⟨a, H', rfl, g, q⟩ := h
  obtain rfl : ov = Value.ref a := ro
  exact d_setItem hu I g ri rv fun s4 I4 => ⟨H', I4, q⟩
theorem PSet.or {X : Cx} {t t' : TSet} (h : PSet X t) (h' : PSet X t') : PSet X (fun o i v H Q => t o i v H Q ∨ t' o i v H Q) := by
  intro pins s σ H o i v ov iv u Q I ro ri rv q
  rcases q with q | q
  · exact h pins s σ H o i v ov iv u Q I ro ri rv q
  · exact h' pins s σ H o i v ov iv u Q I ro ri rv q
theorem setC_ok {G : Addr → Prop} {α : List Addr} {H : Hp} {μ μ' : Sto} {k : Nat} {x i v : V} {iv : Val} {d : D} {Q : Hp → Prop} (S : RepS Z G α H μ) (rx : RpV G α H x (.loc k)) (ri : RpV G α H i iv) (rv : Rp H (off G α) v d) (e : setC μ k iv d = some μ')
    (q : ∀ H', Post α H α H' → RepS Z G α H' μ' → Q H') : rSetL x i v H Q ∨ rSetD x i v H Q := by
  unfold setC at e
  split at e
  · rename_i ds hm
    obtain ⟨p, rfl, ⟨xs, h1, h2⟩, hk⟩ := loc_at S rx hm
    split at e
    · rename_i j
      obtain ⟨n, hn, rfl⟩ := Option.map_eq_some_iff.mp e
      rw [inv_ii ri]
      obtain ⟨P, S'⟩ := cell_write (o := .lst (xs.set n v)) (c := .lst (ds.set n d)) S hk fun kp => ⟨_, upd_same, (h2.mono kp).set (Rp.mono kp rv) n⟩
      exact .inl ⟨p, xs, j, n, rfl, rfl, h1, by rw [h2.length]; exact hn, q _ P S'⟩
    · cases e
  · rename_i kvs hm
    obtain ⟨p, rfl, ⟨xs, h1, h2⟩, hk⟩ := loc_at S rx hm
    split at e
    · rename_i key hkey
      split at e
      · rename_i hl
        cases e
        rw [keyD_ok ri hkey]
        obtain ⟨P, S'⟩ := cell_write (o := .dK (putK xs key v)) (c := .dic (dPut kvs key d)) S hk fun kp => ⟨_, upd_same, rpK_put (h2.mono kp) (Rp.mono kp rv)⟩
        exact .inr ⟨p, _, rfl, DPut.k h1 (by rw [rpK_len h2]; exact hl), q _ P S'⟩
      · cases e
    · cases e
  · rename_i kvs hm
    obtain ⟨p, rfl, ⟨xs, h1, h2⟩, hk⟩ := loc_at S rx hm
    split at e
    · rename_i ks
      split at e
      · rename_i key hkey
        split at e
        · rename_i hl
          cases e
          simp [keyL] at hkey
        · cases e
      · cases e
    · cases e
  · cases e
/-- x[i] = e -/
def sSub (fx fi fe : SE) : SS := fun ρ μ => eS (fe ρ μ) ρ fun v μ1 => match v with
  | .loc _ => .stuck
  | .dat d => eS (fx ρ μ1) ρ fun x μ2 => match x with
    | .dat _ => .stuck
    | .loc k => eS (fi ρ μ2) ρ fun i μ3 => match setC μ3 k i d with
      | some μ4 => .next ρ μ4
      | none => .stuck
section
variable {X : Cx} {Z : Wd} {W : WX} {o i e : Expr} {fx fi fe f : SE} {p pos : Pos} {k : Nat}
theorem s_sub (hr : Room k X.A) (he : PE X e (tD Z W fe)) (ho : PE X o (tD Z W fx)) (hi : PE X i (tD Z W fi))
    (ha : ∀ v, assign (.Subscript o i p) X.env v = (do
      let ov ← holding [v] (eval o X.env)
      let iv ← holding [v, ov] (eval i X.env)
      standAt p
      holding [v, ov, iv] (setItem ov iv v)
      release [v, ov, iv] []) := by intro _; rfl)
    (hs : swapsWithSole [.Subscript o i p] e pos.line X.env = pure false := by rfl) (hw : swappedStores [.Subscript o i p] e X.env = pure none := by rfl)
    (h1 : (assignEach [.Subscript o i p] X.env).map (·.2) = [assign (.Subscript o i p) X.env] := by rfl) : PS X (.Assign [.Subscript o i p] e pos) (tS Z W (sSub fx fi fe)) := by
  refine PSimp (ps_asg he (pg_sub ho hi (PSet.or set_list (set_dict (hu1 hr))) ha) hs hw h1) ?_
  rintro D σ H ⟨G, α, ρ, μ, S, E, w⟩
  refine ⟨G, α, ρ, μ, S, E, wS.eS E w fun v H1 α1 μ1 val p1 S1 r1 w1 => ?_⟩
  cases val with
  | loc n => exact w1.elim
  | dat d =>
    refine ⟨G, α1, ρ, μ1, S1, E.post p1, wS.eS (E.post p1) w1 fun x H2 α2 μ2 vx p2 S2 r2 w2 => ?_⟩
    cases vx with
    | dat d => exact w2.elim
    | loc n =>
      have E2 := (E.post p1).post p2
      refine ⟨G, α2, ρ, μ2, S2, E2, wS.eS E2 w2 fun y H3 α3 μ3 vi p3 S3 r3 w3 => ?_⟩
      cases q : setC μ3 n vi d with
      | none => simp only [q] at w3; exact w3.elim
      | some μ4 =>
        simp only [q] at w3
        exact setC_ok S3 (r2.post p3) r3 ((r1.post p2).post p3) q fun H' P S' => w3 σ H' α3 P S' ((E2.post p3).post P)
end

/-! ### append and other methods that change a cell -/
abbrev MOp := Sto → Nat → List Val → Option (Res × Sto)
/-- a method's call on a cell, by values -/
def MtC (r : V → List V → Hp → VK → Prop) (op : MOp) : Prop := ∀ Z G α H μ x vs k as res μ' Q E, RepS Z G α H μ → RpV G α H x (.loc k) → RpVs G α H vs as → op μ k as = some (res, μ') → wE Z G α H (.ok res μ') Q E → r x vs H Q
/-- o.m(..) of a cell that is a list -/
def sMetL (op : MOp) (fx : SE) (fs : List SE) : SE := fun ρ μ => opd (fx ρ μ) fun x μ1 => match x with
  | .dat _ => .stuck
  | .loc k => match μ1[k]? with
    | some (.lst _) => match sArgs fs ρ μ1 with
      | .ok as μ2 => match op μ2 k as with
        | some (res, μ3) => .ok res μ3
        | none => .stuck
      | .exc x μ2 => .exc x μ2
      | .stuck => .stuck
    | _ => .stuck
def opAppend : MOp := fun μ k as => match μ[k]?, as with
  | some (.lst ds), [.dat d] => if ds.length < sizeLine then some (.dat .non, μ.set k (.lst (ds ++ [d]))) else none
  | _, _ => none
theorem mc_append : MtC rAppend opAppend := by
  intro Z G α H μ x vs k as res μ' Q E S rx rs e w
  unfold opAppend at e
  split at e
  · rename_i ds d hm
    split at e
    · rename_i hl
      cases e
      obtain ⟨p, rfl, ⟨xs, h1, h2⟩, hk⟩ := loc_at S rx hm
      obtain ⟨y, rfl, ry⟩ := vs1 rs
      obtain ⟨P, S'⟩ := cell_write (o := .lst (xs ++ [y])) (c := .lst (ds ++ [d])) S hk fun kp => ⟨_, upd_same, (h2.mono kp).append (.cons (Rp.mono kp ry) .nil)⟩
      exact ⟨p, xs, y, rfl, rfl, h1, by rw [h2.length]; exact hl, w .non _ α P S' .non⟩
    · cases e
  · cases e
section
variable {X : Cx} {Z : Wd} {W : WX} {o e : Expr} {es : List Expr} {fx : SE} {fs : List SE} {apos cpos : Pos} {T id : String} {name : Str} {r : V → List V → Hp → VK → Prop} {op : MOp}
theorem t_metL (hc : MtC r op) : ∀ σ H Q, tD Z W (sMetL op fx fs) σ H Q → (tD Z W fx) σ H fun x H1 => tyV X.K "list" x H1 ∧ (tA Z W (sArgs fs)) σ H1 fun xs H2 => r x xs H2 Q := by
  rintro σ H Q ⟨G, α, ρ, μ, S, E, w⟩
  refine ⟨G, α, ρ, μ, S, E, wE.opd w fun x H1 α1 μ1 v p1 S1 r1 w1 => ?_⟩
  cases v with
  | dat d => exact w1.elim
  | loc k =>
    cases hk : μ1[k]? with
    | none => simp only [hk] at w1; exact w1.elim
    | some c =>
      cases c with
      | dic _ => simp only [hk] at w1; exact w1.elim
      | dct _ => simp only [hk] at w1; exact w1.elim
      | lst ds =>
        simp only [hk] at w1
        obtain ⟨p, rfl, ⟨xs, h1, h2⟩, hk'⟩ := loc_at S1 r1 hk
        refine ⟨.inl ⟨rfl, xs, .inl (.inl h1)⟩, G, α1, ρ, μ1, S1, E.post p1, ?_⟩
        cases h : sArgs fs ρ μ1 with
        | stuck => simp only [h] at w1; exact w1.elim
        | exc x μ2 => simp only [h] at w1; exact w1
        | ok as μ2 =>
          simp only [h] at w1
          intro vs H2 α2 p2 S2 r2
          cases q : op μ2 k as with
          | none => simp only [q] at w1; exact w1.elim
          | some res =>
            obtain ⟨res, μ3⟩ := res
            simp only [q] at w1
            exact hc Z G α2 H2 μ2 _ vs k as res μ3 Q _ S2 (r1.post p2) r2 q (wE.post p2 w1)
theorem d_metL (pa : PlainAttrs "list") (slot : Slot "list" name id) (hty : typeOf (.builtin id) = pure (.type "method_descriptor")) (hm : MtR X id r) (hc : MtC r op) (ho : PE X o (tD Z W fx)) (ha : PA X (e :: es) (tA Z W (sArgs fs)))
    (hbase : attributeBase o name X.env (eval o X.env) = eval o X.env := by rfl)
    (hfew : ((backTo cpos (starEach (e :: es) X.env)).all (fun x => !x.1) && (backToKw cpos (keywordEach [] X.env)).all (fun x => x.1.isSome)
      && decide ((e :: es).length + ([] : List Keyword).length + (if ([] : List Keyword).isEmpty then 0 else 1) < 30)) = true := by rfl)
    (hline : (apos.endLine == cpos.line) = true := by rfl) (hs : starEach (e :: es) X.env = (false, eval e X.env) :: starEach es X.env := by rfl) (hplain : (backTo cpos (starEach es X.env)).any (·.1) = false := by rfl) :
    PE X (.Call (.Attribute o name apos) (e :: es) [] cpos) (tD Z W (sMetL op fx fs)) :=
  PEimp (pe_bm pa slot hty hm ho ha hbase hfew hline hs hplain) (t_metL hc)
theorem d_append (ho : PE X o (tD Z W fx)) (ha : PA X [e] (tA Z W (sArgs fs)))
    (hbase : attributeBase o "append" X.env (eval o X.env) = eval o X.env := by rfl)
    (hfew : ((backTo cpos (starEach [e] X.env)).all (fun x => !x.1) && (backToKw cpos (keywordEach [] X.env)).all (fun x => x.1.isSome)
      && decide ([e].length + ([] : List Keyword).length + (if ([] : List Keyword).isEmpty then 0 else 1) < 30)) = true := by rfl)
    (hline : (apos.endLine == cpos.line) = true := by rfl) (hs : starEach [e] X.env = (false, eval e X.env) :: starEach [] X.env := by rfl) (hplain : (backTo cpos (starEach [] X.env)).any (·.1) = false := by rfl) :
    PE X (.Call (.Attribute o "append" apos) [e] [] cpos) (tD Z W (sMetL opAppend fx fs)) :=
  d_metL PySem.F.plainAttrs_list PySem.F.slot_list_append PySem.F.type_list_append mt_append mc_append ho ha hbase hfew hline hs hplain
end
end Sx

/-! SxZip: zip of lists and tuples in any mix, enumerate of either; the pairs known to have no dict. -/
namespace L2
open PySem PySem.Spec PyProof.Rows
theorem meets_enum1 {v : Value} {o : Obj} {H : Heap → Prop} (B : Begins v o H) :
    Meets (Builtin.«enumerate.__new__» ⟨[.type "enumerate", v], []⟩) (fun _ R s => H s.heap ∧
      R (.ok (.ret (.ref (s.heap.push o).objs.size))) { s with heap := (s.heap.push o).push { cls := .type "enumerate", data := .fields #[.none, .bool false, .ref s.heap.objs.size, rawInt 0, .none, .none] } }) :=
  .of_wp fun prog w A R s h => by
    obtain ⟨hp, g, d, tk, os⟩ := s; obtain ⟨h1, h⟩ := h
    have hsub := sub_enumerate
    have q1 : ∀ {A' : Around} {E : Value → Shared → Prop} {Q : Value → Shared → Prop}, Q (.ref hp.objs.size) ⟨hp.push o, g, d, tk, os⟩ → wpAny (model prog w) A' (pyIter v) Q E ⟨hp, g, d, tk, os⟩ :=
      fun q => B.iter prog w _ _ ⟨hp, g, d, tk, os⟩ _ h1 q
    wp_walk using q1
    refine wpAny_stack_any fun st => wpAny_pure ?_
    split
    · rename_i c _ _ _ _ _
      cases (c == Value.type "enumerate")
      · wp_walk using q1
        exact ⟨_, rfl, h⟩
      · wp_walk using q1
        exact ⟨_, rfl, h⟩
    · wp_walk using q1
      exact ⟨_, rfl, h⟩
theorem enum1 {prog : Program} {w : World} {A : Around} {E : Value → Shared → Prop} {s : Shared} {v : Value} {o : Obj} {H : Heap → Prop} {Q : Value → Shared → Prop} (B : Begins v o H) (h1 : H s.heap)
    (h : ∀ h', IsEnum h' (s.heap.objs.size + 1) s.heap.objs.size 0 .none → h'.get? s.heap.objs.size = some o → (∀ b o, s.heap.get? b = some o → h'.get? b = some o) → Q (.ref (s.heap.objs.size + 1)) { s with heap := h' }) :
    wpAny (model prog w) A (call (.type "enumerate") [v]) Q E s := by
  refine callType_new F.called_enumerate (by decide) (F.typeCall_enumerate_1 _) (F.newCall_enumerate_1 _) (fun obj => F.args_object_init_2 obj _) F.entry_enumerate_new (meets_enum1 B) ⟨h1, ?_⟩
  have hz : (s.heap.push o).objs.size = s.heap.objs.size + 1 := Heap.size_push ..
  show _ ∧ _
  rw [hz]
  have he : IsEnum ((s.heap.push o).push { cls := .type "enumerate", data := .fields #[.none, .bool false, .ref s.heap.objs.size, rawInt 0, .none, .none] }) (s.heap.objs.size + 1) s.heap.objs.size 0 .none := by
    have := Heap.get?_push_size (s.heap.push o) (o := { cls := .type "enumerate", data := .fields #[.none, .bool false, .ref s.heap.objs.size, rawInt 0, .none, .none] }) rfl
    rw [hz] at this; exact this
  exact ⟨⟨_, he, rfl⟩, h _ he (Heap.get?_push_of_some _ (Heap.get?_push_size _ B.free)) fun b o x => Heap.get?_push_of_some _ (Heap.get?_push_of_some _ x)⟩
/-- true: a tuple, false: a list -/
def SqK (K : PySem.W.Frag) (H : Hp) : Bool → Addr → List V → Prop
  | true, a, xs => SqT K H a xs
  | false, a, xs => SqL K H a xs
def ItK (h : Heap) : Bool → Addr → Addr → Nat → Prop
  | true, it, l, i => h.IsTupleIter it l i
  | false, it, l, i => h.IsListIter it l i
def SeK (h : Heap) : Bool → Addr → Array Value → Prop
  | true, l, its => h.IsTuple l its
  | false, l, its => h.IsList l its
def obK : Bool → Addr → Obj
  | true, l => { cls := .type "tuple_iterator", data := .fields #[.ref l, .int 0 0] }
  | false, l => { cls := .type "list_iterator", data := .fields #[.ref l, .int 0 0] }
section
variable {X : Cx} {pins : List (Addr × Obj)} {σ : St} {H : Hp} {s : Shared}
theorem sqK_get {k : Bool} {a : Addr} {xs : List V} (I : Inv X pins σ H s) (h : SqK X.K H k a xs) : ∃ its : List Value, Vals xs its ∧ SeK s.heap k a its.toArray ∧ a < s.heap.objs.size := by
  cases k with
  | true => obtain ⟨its, r, p, _⟩ := I.tuple h; exact ⟨its, r, p, p.lt⟩
  | false => obtain ⟨its, r, p, _⟩ := I.list h; exact ⟨its, r, p.isList, p.lt⟩
theorem sqK_inj {k : Bool} {a : Addr} {xs ys : List V} (I : Inv X pins σ H s) (h : SqK X.K H k a xs) (h' : SqK X.K H k a ys) : xs = ys := by
  cases k with
  | true => exact I.tuple_inj h h'
  | false => exact I.list_inj h h'
end
theorem drawsK {prog : Program} {w : World} {A : Around} (hh : A.handled = none) : ∀ (k : Bool) (it l : Addr) (hne : l ≠ it) (items : Array Value),
    Draws prog w A it [it, l] items.size (fun i v => items[i]? = some v) (fun i h => ItK h k it l i ∧ SeK h k l items)
  | true, it, l, hne, items => .tuple hh it l hne items
  | false, it, l, hne, items => .list hh it l hne items
theorem beginsK : ∀ (k : Bool) (l : Addr) (items : Array Value), Begins (.ref l) (obK k l) fun h => SeK h k l items
  | true, l, items => begins_tuple l items
  | false, l, items => begins_list l items
theorem itK_of {h : Heap} {k : Bool} {it l : Addr} (e : h.get? it = some (obK k l)) : ItK h k it l 0 := by
  cases k with
  | true => exact ⟨_, e, rfl, rfl⟩
  | false => exact ⟨_, e, rfl, rfl⟩
theorem itK_at {h h' : Heap} {k : Bool} {it l : Addr} {i : Nat} (x : ItK h k it l i) (e : ∀ o, h.get? it = some o → h'.get? it = some o) : ItK h' k it l i := by
  cases k with
  | true => exact Heap.IsTupleIter.at x e
  | false => exact Heap.IsListIter.at x e
theorem itK_obj {h : Heap} {k : Bool} {it l : Addr} {i : Nat} (x : ItK h k it l i) : ∃ o, h.get? it = some o ∧ ∀ v, o.data ≠ .cell v := by
  cases k with
  | true => obtain ⟨o, e, _, d⟩ := x; exact ⟨o, e, fun v q => by rw [d] at q; cases q⟩
  | false => obtain ⟨o, e, _, d⟩ := x; exact ⟨o, e, fun v q => by rw [d] at q; cases q⟩
def ItzS (K : PySem.W.Frag) (k1 : Bool) (a : Addr) (k2 : Bool) (b : Addr) : It :=
  ⟨fun i H => ∃ (xs ys : List V) (x y : V), SqK K H k1 a xs ∧ SqK K H k2 b ys ∧ xs[i]? = some x ∧ ys[i]? = some y,
    fun i H v H' => ∃ T o x y, v = .ref T ∧ o.dict = none ∧ H T = none ∧ H' = upd H T (.frz o (.tup [x, y])) ∧ (∀ xs, SqK K H k1 a xs → xs[i]? = some x) ∧ ∀ ys, SqK K H k2 b ys → ys[i]? = some y,
    fun i H => ∃ xs ys : List V, SqK K H k1 a xs ∧ SqK K H k2 b ys ∧ i ≤ xs.length ∧ i ≤ ys.length ∧ (xs.length ≤ i ∨ ys.length ≤ i)⟩
theorem turn_zipS {P : Program} {w : World} {K : PySem.W.Frag} {elts : List Expr} {kk : Nat} {tpos : Pos} {k1 k2 : Bool} {a b z TI TO i1 i2 : Addr} (D : ZipSep2 z TI TO i1 i2 [i1, a] [i2, b]) (n1 : a ≠ i1) (n2 : b ≠ i2) :
    Turn P w K (.Tuple elts kk tpos) (ItzS K k1 a k2 b) [z, TI, TO, i1, i2] z (fun i h => IsZip h z TI TO .none ∧ IsTupOf2 h TI (.ref i1) (.ref i2) ∧ (∃ x y, IsTupOf2 h TO x y) ∧ ItK h k1 i1 a i ∧ ItK h k2 i2 b i) where
  mem := by simp
  obj := fun i h st c hc => by
    obtain ⟨hz, hTI, ⟨x, y, hTO⟩, h1, h2⟩ := st
    have e' : c = z ∨ c = TI ∨ c = TO ∨ c = i1 ∨ c = i2 := by simpa using hc
    rcases e' with q | q | q | q | q
    · rw [q]; exact ⟨_, hz, fun v q => nomatch q⟩
    · rw [q]; exact ⟨_, hTI, fun v q => nomatch q⟩
    · rw [q]; exact ⟨_, hTO, fun v q => nomatch q⟩
    · rw [q]; exact itK_obj h1
    · rw [q]; exact itK_obj h2
  keep := fun i h h' st k => by
    obtain ⟨hz, hTI, ⟨x, y, hTO⟩, h1, h2⟩ := st
    exact ⟨k z (by simp) _ hz, k TI (by simp) _ hTI, ⟨x, y, k TO (by simp) _ hTO⟩, itK_at h1 fun o q => k i1 (by simp) o q, itK_at h2 fun o q => k i2 (by simp) o q⟩
  item := by
    intro X hP hw hK hc i pins s σ H E I hf st hg
    subst hP hw hK
    obtain ⟨hz, hTI, ⟨x0, y0, hTO⟩, h1, h2⟩ := st
    obtain ⟨xs, ys, x, y, hqx, hqy, hx, hy⟩ := hg
    obtain ⟨its, rv, p, _⟩ := sqK_get I hqx
    obtain ⟨its2, rv2, p2, _⟩ := sqK_get I hqy
    obtain ⟨u, hu, ru⟩ := rv.get hx
    obtain ⟨u2, hu2, ru2⟩ := rv2.get hy
    have l1 : i < its.toArray.size := by simpa using (List.getElem?_eq_some_iff.mp hu).1
    have l2 : i < its2.toArray.size := by simpa using (List.getElem?_eq_some_iff.mp hu2).1
    have hzl : z < s.heap.objs.size := Heap.lt_size hz
    refine wpAny_pyNext_zipD2_item D (drawsK (A := X.A.in1) (I.ok.hd hc) k1 i1 a n1 its.toArray) (drawsK (A := X.A.in1) (I.ok.hd hc) k2 i2 b n2 its2.toArray) hz hTI hTO ⟨h1, p⟩ ⟨h2, p2⟩ l1 l2 fun y1 y2 h' tk e1 e2 z' TO' st1 st2 hT hsz hk => ?_
    refine ⟨_, rfl, wpAny_letOwnedTupleGo_zip (s := { s with heap := h', toks := tk }) z' fun h'' z'' sb => ?_⟩
    have e1' : y1 = u := by simpa [hu] using e1.symm
    have e2' : y2 = u2 := by simpa [hu2] using e2.symm
    subst e1' e2'
    have hT2 : h''.get? s.heap.objs.size = some { cls := .type "tuple", data := .seq #[y1, y2] } := (sb.2 _ (Nat.ne_of_gt hzl)).trans hT
    have new : ObjOk X.prog X.w (upd H s.heap.objs.size (.frz { cls := .type "tuple", data := .seq #[y1, y2] } (.tup [x, y]))) h'' s.heap.objs.size (.frz { cls := .type "tuple", data := .seq #[y1, y2] } (.tup [x, y])) :=
      ⟨hT2, by show 2 ≤ sizeLine; decide, [y1, y2], .cons ru (.cons ru2 .nil), ⟨_, hT2, rfl, _, rfl⟩⟩
    have I1 : Inv X pins σ (upd H s.heap.objs.size (.frz { cls := .type "tuple", data := .seq #[y1, y2] } (.tup [x, y]))) { s with heap := h'', toks := tk } :=
      I.turnedNew (t' := tk) (ch := [z, TI, TO, i1, i2]) (fun c o hb q => (sb.2 c (fun q' => hb (by simp [q']))).trans (hk c o (fun q' => hb (by simp [q'])) (fun q' => hb (by simp [q'])) (fun q' => hb (by simp [q'])) (fun q' => hb (by simp [q'])) q)) hf (Nat.le_refl _) new
    refine ⟨.ref s.heap.objs.size, _, I1, rfl, ⟨_, _, x, y, rfl, rfl, I.hok.fresh (Nat.le_refl _), rfl, fun l hl => by rw [sqK_inj I hl hqx]; exact hx, fun l hl => by rw [sqK_inj I hl hqy]; exact hy⟩, ⟨z'', ?_, ⟨y1, y2, ?_⟩, ?_, ?_⟩, fun c hcm => ?_⟩
    · exact (sb.2 _ D.TIz).trans (hk _ _ D.TIz D.TITO D.TIi1 D.TIi2 hTI)
    · exact (sb.2 _ D.TOz).trans TO'
    · exact itK_at st1.1 fun o q => (sb.2 _ (Ne.symm D.zi1)).trans q
    · exact itK_at st2.1 fun o q => (sb.2 _ (Ne.symm D.zi2)).trans q
    · have hlt : c < s.heap.objs.size := by
        have e' : c = z ∨ c = TI ∨ c = TO ∨ c = i1 ∨ c = i2 := by simpa using hcm
        rcases e' with q | q | q | q | q
        · rw [q]; exact hzl
        · rw [q]; exact Heap.lt_size hTI
        · rw [q]; exact Heap.lt_size hTO
        · rw [q]; obtain ⟨_, e1, _⟩ := itK_obj h1; exact Heap.lt_size e1
        · rw [q]; obtain ⟨_, e1, _⟩ := itK_obj h2; exact Heap.lt_size e1
      rw [upd_ne (Nat.ne_of_lt hlt)]
      exact (hf c hcm).1
  done := by
    intro X hP hw hK hc i pins s σ H E I hf st hg
    subst hP hw hK
    obtain ⟨hz, hTI, ⟨x0, y0, hTO⟩, h1, h2⟩ := st
    obtain ⟨xs, ys, hqx, hqy, c1, c2, hend⟩ := hg
    obtain ⟨its, rv, p, _⟩ := sqK_get I hqx
    obtain ⟨its2, rv2, p2, _⟩ := sqK_get I hqy
    have l1 := rv.length
    have l2 := rv2.length
    refine wpAny_pyNext_zipD2_end D (drawsK (A := X.A.in1) (I.ok.hd hc) k1 i1 a n1 its.toArray) (drawsK (A := X.A.in1) (I.ok.hd hc) k2 i2 b n2 its2.toArray) hz hTI hTO ⟨h1, p⟩ ⟨h2, p2⟩ (by simp; omega) (by simp; omega) (by simp; omega) fun h' tk hk => ⟨rfl, I.turnedL (t' := tk) (ch := [z, TI, TO, i1, i2]) (fun c o hb q =>
      hk c o (fun q' => hb (by simp [q'])) (fun q' => hb (by simp [q'])) (fun q' => hb (by simp [q'])) (fun q' => hb (by simp [q'])) q) hf⟩
  self := fun A i s Q E st h => wpAny_pyIter_zip st.1 h
def iZipS (K : PySem.W.Frag) (ta : TA) : TI := fun σ H R => ta σ H fun vs H1 => ∃ k1 k2 a b xs ys, vs = [.ref a, .ref b] ∧ SqK K H1 k1 a xs ∧ SqK K H1 k2 b ys ∧ R (ItzS K k1 a k2 b) H1
theorem pi_zipS {X : Cx} {e e2 : Expr} {ta : TA} {p pos tpos : Pos} {elts : List Expr} {kk : Nat} (hg : Gl X "zip") (hm : X.mg "zip" = none) (ha : PA X [e, e2] ta)
    (hs : starEach [e, e2] X.env = (false, eval e X.env) :: starEach [e2] X.env := by rfl) (hpl : (backTo pos (starEach [e2] X.env)).any (·.1) = false := by rfl) :
    PI X (.Tuple elts kk tpos) (.Call (.Name "zip" p) [e, e2] [] pos) (iZipS X.K ta) := by
  refine ⟨fun pins s σ H R I h => ?_⟩
  refine Call_ (ld_blt I hg hm PyProof.Rows.boot_zip (PyProof.Rows.callWith_type1 (thn (ha.run pos pins s σ H _ I h) fun us s1 ⟨vs, H1, I1, r1, q1⟩ => ?_) hs hpl))
  obtain ⟨k1, k2, a, b, xs, ys, ex, hqx, hqy, q⟩ := q1
  subst ex
  cases r1 with
  | cons r rr =>
    cases rr with
    | cons r' rr =>
      cases rr
      cases r
      cases r'
      obtain ⟨its, rv, p1, la⟩ := sqK_get I1 hqx
      obtain ⟨its2, rv2, p2, lb⟩ := sqK_get I1 hqy
      refine zip_begins2 (beginsK k1 a its.toArray) (beginsK k2 b its2.toArray) p1 p2 fun h' hz hTI hTO h1 h2 hsz hk => wpAny_pyIter_zip hz ?_
      have I2 : Inv X pins σ H1 { s1 with heap := h' } := I1.kept (t' := s1.toks) hk
      have sep := zip_sep2 (N := s1.heap.objs.size) (fp1 := [a]) (fp2 := [b]) (fun c hc => by rw [List.mem_singleton.mp hc]; exact la) (fun c hc => by rw [List.mem_singleton.mp hc]; exact lb)
      refine ⟨s1.heap.objs.size + 4, [s1.heap.objs.size + 4, s1.heap.objs.size + 2, s1.heap.objs.size + 3, s1.heap.objs.size, s1.heap.objs.size + 1], _, _, H1, rfl, I2, turn_zipS (k1 := k1) (k2 := k2) sep (Nat.ne_of_lt la) (Nat.ne_of_lt (Nat.lt_succ_of_lt lb)), ⟨hz, hTI, ⟨_, _, hTO⟩, itK_of h1, itK_of h2⟩, fun c hcm => ?_, q⟩
      have e' : c = s1.heap.objs.size + 4 ∨ c = s1.heap.objs.size + 2 ∨ c = s1.heap.objs.size + 3 ∨ c = s1.heap.objs.size ∨ c = s1.heap.objs.size + 1 := by simpa using hcm
      have hle : s1.heap.objs.size ≤ c := by
        rcases e' with z | z | z | z | z
        · rw [z]; exact Nat.le_add_right _ _
        · rw [z]; exact Nat.le_add_right _ _
        · rw [z]; exact Nat.le_add_right _ _
        · rw [z]; exact Nat.le_refl _
        · rw [z]; exact Nat.le_add_right _ _
      exact I1.fpOk hle (I1.hok.fresh hle)
/-! ### enumerate -/
def IteS (K : PySem.W.Frag) (k : Bool) (a : Addr) : It :=
  ⟨fun i H => ∃ (xs : List V) (x : V), SqK K H k a xs ∧ xs[i]? = some x,
    fun i H v H' => ∃ T o x, v = .ref T ∧ o.dict = none ∧ H T = none ∧ H' = upd H T (.frz o (.tup [.int (i : Nat), x])) ∧ ∀ xs, SqK K H k a xs → xs[i]? = some x,
    fun i H => ∃ xs : List V, SqK K H k a xs ∧ i = xs.length⟩
theorem turn_enumS {P : Program} {w : World} {K : PySem.W.Frag} {elts : List Expr} {kk : Nat} {tpos : Pos} (k : Bool) (a e it : Addr) (ni : a ≠ it) (ne : e ≠ a) :
    Turn P w K (.Tuple elts kk tpos) (IteS K k a) [e, it] e (fun i h => (∃ old, IsEnum h e it ((i : Nat) : Int) old) ∧ ItK h k it a i ∧ e ≠ it) where
  mem := by simp
  obj := fun i h st b hb => by
    obtain ⟨⟨old, he⟩, ho, _⟩ := st
    have e' : b = e ∨ b = it := by simpa using hb
    rcases e' with z | z
    · rw [z]; exact ⟨_, he, fun v q => nomatch q⟩
    · rw [z]; exact itK_obj ho
  keep := fun i h h' st k => let ⟨⟨old, he⟩, hi, hne⟩ := st; ⟨⟨old, k e (by simp) _ he⟩, itK_at hi fun o q => k it (by simp) o q, hne⟩
  item := by
    intro X hP hw hK hc i pins s σ H E I hf st hg
    subst hP hw hK
    obtain ⟨⟨old, he⟩, hit, hne⟩ := st
    obtain ⟨xs, x, hq, hx⟩ := hg
    obtain ⟨its, rv, p, la⟩ := sqK_get I hq
    obtain ⟨u, hu, ru⟩ := rv.get hx
    have l1 : i < its.toArray.size := by simpa using (List.getElem?_eq_some_iff.mp hu).1
    have hel : e < s.heap.objs.size := Heap.lt_size he
    have hil : it < s.heap.objs.size := by obtain ⟨_, q, _⟩ := itK_obj hit; exact Heap.lt_size q
    refine wpAny_pyNext_enum_itemC (drawsK (A := X.A.in1) (I.ok.hd hc) k it a ni its.toArray) he ⟨hit, p⟩ l1 hne (by simp; exact ⟨hne, ne⟩) fun y h' tk ey ho st1 hT hsz hk => ?_
    refine ⟨_, rfl, wpAny_letOwnedTupleGo_enum (s := { s with heap := h', toks := tk + 1 }) ho fun h'' he' sb => ?_⟩
    have ey' : y = u := by simpa [hu] using ey.symm
    subst ey'
    have hT2 : h''.get? s.heap.objs.size = some { cls := .type "tuple", data := .seq #[.int i tk, y] } := (sb.2 _ (Nat.ne_of_gt hel)).trans hT
    have new : ObjOk X.prog X.w (upd H s.heap.objs.size (.frz { cls := .type "tuple", data := .seq #[.int i tk, y] } (.tup [.int (i : Nat), x]))) h'' s.heap.objs.size (.frz { cls := .type "tuple", data := .seq #[.int i tk, y] } (.tup [.int (i : Nat), x])) :=
      ⟨hT2, by show 2 ≤ sizeLine; decide, [.int i tk, y], .cons ⟨_, rfl⟩ (.cons ru .nil), ⟨_, hT2, rfl, _, rfl⟩⟩
    have I1 : Inv X pins σ (upd H s.heap.objs.size (.frz { cls := .type "tuple", data := .seq #[.int i tk, y] } (.tup [.int (i : Nat), x]))) { s with heap := h'', toks := tk + 1 } :=
      I.turnedNew (ch := [e, it]) (fun b ob hb q => (sb.2 b (fun z => hb (by simp [z]))).trans (hk b ob (fun z => hb (by simp [z])) (fun z => hb (by simp [z])) q)) hf (Nat.le_refl _) new
    refine ⟨.ref s.heap.objs.size, _, I1, rfl, ⟨_, _, x, rfl, rfl, I.hok.fresh (Nat.le_refl _), rfl, fun ys hy => by rw [sqK_inj I hy hq]; exact hx⟩, ⟨⟨y, ?_⟩, itK_at st1.1 fun o q => (sb.2 it (Ne.symm hne)).trans q, hne⟩, fun b hb => ?_⟩
    · have e1 : ((i + 1 : Nat) : Int) = (i : Int) + 1 := by omega
      rw [e1]; exact he'
    · have hb' : b < s.heap.objs.size := by
        have e' : b = e ∨ b = it := by simpa using hb
        rcases e' with z | z
        · rw [z]; exact hel
        · rw [z]; exact hil
      rw [upd_ne (Nat.ne_of_lt hb')]
      exact (hf b hb).1
  done := by
    intro X hP hw hK hc i pins s σ H E I hf st hg
    subst hP hw hK
    obtain ⟨⟨old, he⟩, hit, hne⟩ := st
    obtain ⟨xs, hq, hx⟩ := hg
    obtain ⟨its, rv, p, la⟩ := sqK_get I hq
    have hl := rv.length
    have hn : i = its.toArray.size := by simp; omega
    subst hn
    obtain ⟨f0, f1, f2, f3, f4, f5⟩ := hf it (by simp)
    exact wpAny_pyNext_enum_endD (drawsK (A := X.A.in1) (I.ok.hd hc) k it a ni its.toArray) he ⟨hit, p⟩ fun h' eb => ⟨rfl, I.turned (t' := s.toks) (fun b o hb q => eb b o hb q) f0 f1 f3 f4 f5⟩
  self := fun A i s Q E st h => let ⟨⟨_, he⟩, _⟩ := st; wpAny_pyIter_enum he h
def iEnumS (K : PySem.W.Frag) (ta : TA) : TI := fun σ H R => ta σ H fun vs H1 => ∃ k a xs, vs = [.ref a] ∧ SqK K H1 k a xs ∧ R (IteS K k a) H1
theorem pi_enumS {X : Cx} {e : Expr} {ta : TA} {p pos tpos : Pos} {elts : List Expr} {kk : Nat} (hg : Gl X "enumerate") (hm : X.mg "enumerate" = none) (ha : PA X [e] ta) (hs : starEach [e] X.env = [(false, eval e X.env)] := by rfl) :
    PI X (.Tuple elts kk tpos) (.Call (.Name "enumerate" p) [e] [] pos) (iEnumS X.K ta) := by
  refine ⟨fun pins s σ H R I h => ?_⟩
  refine Call_ (ld_blt I hg hm boot_enumerate (PyProof.Rows.callWith_type1 (thn (ha.run pos pins s σ H _ I h) fun us s1 ⟨vs, H1, I1, r1, q1⟩ => ?_) hs rfl))
  obtain ⟨k, a, xs, ex, hq, q⟩ := q1
  subst ex
  cases r1 with
  | cons r rr =>
    cases rr
    cases r
    obtain ⟨its, rv, p', la⟩ := sqK_get I1 hq
    refine enum1 (beginsK k a its.toArray) p' fun h' he hit hk => wpAny_pyIter_enum he ?_
    have I2 : Inv X pins σ H1 { s1 with heap := h' } := I1.kept (t' := s1.toks) hk
    refine ⟨s1.heap.objs.size + 1, [s1.heap.objs.size + 1, s1.heap.objs.size], _, _, H1, rfl, I2, turn_enumS k a (s1.heap.objs.size + 1) s1.heap.objs.size (Nat.ne_of_lt la) (Ne.symm (Nat.ne_of_lt (Nat.lt_succ_of_lt la))), ⟨⟨.none, he⟩, itK_of hit, Nat.succ_ne_self _⟩, fun b hb => ?_, q⟩
    have e' : b = s1.heap.objs.size + 1 ∨ b = s1.heap.objs.size := by simpa using hb
    have hle : s1.heap.objs.size ≤ b := by
      rcases e' with z | z
      · rw [z]; exact Nat.le_add_right _ _
      · rw [z]; exact Nat.le_refl _
    exact I1.fpOk hle (I1.hok.fresh hle)
end L2

/-! SxMore2: is of bools, reversed lists, dict get and make, zip, sorted of ints. -/
namespace Sx
open PySem L2

section
variable {X : Cx} {Z : Wd} {W : WX} {a b c e : Expr} {f g h : SE} {p q pos : Pos} {k : Nat}
theorem oD_isB : OpD rIsB (isB false) := by
  intro Z G α H μ x y a b res Q E S ra rb e w
  unfold isB at e
  split at e
  · cases e
    rename_i i j
    refine ⟨i, j, inv_bl ra, inv_bl rb, ?_⟩
    have z : decide (i = j) = (i == j) := by cases i <;> cases j <;> rfl
    rw [z]
    exact w.pure S (.bl _)
  · cases e
theorem oD_notB : OpD rNotB (isB true) := by
  intro Z G α H μ x y a b res Q E S ra rb e w
  unfold isB at e
  split at e
  · cases e
    rename_i i j
    refine ⟨i, j, inv_bl ra, inv_bl rb, ?_⟩
    have z : (!decide (i = j)) = (i != j) := by cases i <;> cases j <;> rfl
    rw [z]
    exact w.pure S (.bl _)
  · cases e
theorem cIsB : CmpR X .Is (isB false) := ⟨_, op_isBl, oD_isB⟩
theorem cIsNotB : CmpR X .IsNot (isB true) := ⟨_, op_notBl, oD_notB⟩

/-! ### xs[::-1] -/
def sRevL (f : SE) : SE := fun ρ μ => opd (f ρ μ) fun v μ1 => match rdL μ1 v with
  | some ds => .ok (.new (.lst ds.reverse)) μ1
  | none => .stuck
theorem rpL_rev {H : Hp} {F : Addr → Prop} : ∀ {xs : List V} {ds : List D}, RpL H F xs ds → RpL H F xs.reverse ds.reverse
  | _, _, .nil => .nil
  | _, _, .cons r t => by
    rw [List.reverse_cons, List.reverse_cons]
    exact (rpL_rev t).append (.cons r .nil)
theorem d_revL {j : Nat} {p1 p2 p3 : Pos} (he : PE X e (tD Z W f)) : PE X (.Subscript e (.Slice none none (some (.UnaryOp .USub (.Constant (.int 1) j p1) p2)) p3) pos) (tD Z W (sRevL f)) := by
  refine PEimp (pe_revL he) ?_
  rintro σ H Q ⟨G, α, ρ, μ, S, E, w⟩
  refine ⟨G, α, ρ, μ, S, E, wE.opd w fun x H1 α1 μ1 v p1 S1 r1 w1 => ?_⟩
  cases q : rdL μ1 v with
  | none => simp only [q] at w1; exact w1.elim
  | some ds =>
    simp only [q] at w1
    obtain ⟨p, xs, rfl, e2, e3⟩ := rdL_ok S1 r1 q
    exact ⟨p, xs, rfl, .inl e2, fun l hl => w1.lst S1 (rpL_rev e3) hl⟩

/-! ### dicts -/
def sNewK : SE := fun _ μ => .ok (.new (.dic [])) μ
def sNewT : SE := fun _ μ => .ok (.new (.dct [])) μ
theorem d_newK : PE X (.Dict [] [] pos) (tD Z W sNewK) := PEimp pe_dnewK fun σ H Q ⟨G, α, ρ, μ, S, E, w⟩ p hp => w.dic S .nil hp
theorem d_newT : PE X (.Dict [] [] pos) (tD Z W sNewT) := PEimp pe_dnewT fun σ H Q ⟨G, α, ρ, μ, S, E, w⟩ p hp => w.dct S .nil hp
/-- the value at a key of a dict of any kind -/
def getD (μ : Sto) (v i : Val) : Option (Option D) := match rdD μ v with
  | some kvs => match keyD i with
    | some k => some (dGet kvs k)
    | none => none
  | none => match rdX μ v with
    | some kvs => match i with
      | .dat (.tup ks) => match keyL ks with
        | some k => some (dGet kvs k)
        | none => none
      | _ => none
    | none => none
def isDicV (μ : Sto) (v : Val) : Bool := (rdD μ v).isSome || (rdX μ v).isSome
theorem isDicV_ok {G : Addr → Prop} {α : List Addr} {H : Hp} {μ : Sto} {x : V} {v : Val} (S : RepS Z G α H μ) (r : RpV G α H x v) (e : isDicV μ v = true) : ∃ p, x = .ref p ∧ IsD H p := by
  unfold isDicV at e
  rw [Bool.or_eq_true] at e
  rcases e with e | e
  · cases h : rdD μ v with
    | none => rw [h] at e; cases e
    | some kvs => obtain ⟨p, xs, rfl, e2, _⟩ := rdD_ok S r h; exact ⟨p, rfl, .inl ⟨_, e2⟩⟩
  · cases h : rdX μ v with
    | none => rw [h] at e; cases e
    | some kvs => obtain ⟨p, xs, rfl, e2, _⟩ := rdX_ok S r h; exact ⟨p, rfl, .inr ⟨_, e2⟩⟩
theorem getD_ok {G : Addr → Prop} {α : List Addr} {H : Hp} {μ : Sto} {x y : V} {v i : Val} {o : Option D} (S : RepS Z G α H μ) (r : RpV G α H x v) (ri : RpV G α H y i) (e : getD μ v i = some o) :
    ∃ p u, x = .ref p ∧ DGet H p y u ∧ (∀ d, o = some d → ∃ z, u = some z ∧ Rp H (off G α) z d) ∧ (o = none → u = none) := by
  unfold getD at e
  split at e
  · rename_i kvs h
    split at e
    · rename_i k hk
      cases e
      exact dget_k S r ri h hk
    · cases e
  · split at e
    · rename_i kvs h
      split at e
      · rename_i ks
        split at e
        · rename_i k hk
          cases e
          exact dget_t S r ri h hk
        · cases e
      · cases e
    · cases e
def sGet2 (f g h : SE) : SE := fun ρ μ => opd (f ρ μ) fun v μ1 => if isDicV μ1 v = true then opd (g ρ μ1) fun i μ2 => opd (h ρ μ2) fun z μ3 => match getD μ3 v i with
    | some (some d) => .ok (.dat d) μ3
    | some none => match z with
      | .dat d => .ok (.dat d) μ3
      | .loc _ => .stuck
    | none => .stuck
  else .stuck
theorem d_get2 {apos cpos : Pos} (hr : Room k X.A) (ho : PE X a (tD Z W f)) (he : PE X b (tD Z W g)) (hf : PE X c (tD Z W h)) (m : M2 X a "get" apos b c cpos := by exact ⟨rfl, rfl, rfl, rfl⟩) :
    PE X (.Call (.Attribute a "get" apos) [b, c] [] cpos) (tD Z W (sGet2 f g h)) := by
  refine PEimp (pe_dget2 (hu1 hr) ho he hf m) ?_
  rintro σ H Q ⟨G, α, ρ, μ, S, E, w⟩
  refine ⟨G, α, ρ, μ, S, E, wE.opd w fun x H1 α1 μ1 v p1 S1 r1 w1 => ?_⟩
  by_cases hd : isDicV μ1 v = true
  · rw [if_pos hd] at w1
    obtain ⟨pp, rfl, isd⟩ := isDicV_ok S1 r1 hd
    refine ⟨pp, rfl, isd, G, α1, ρ, μ1, S1, E.post p1, wE.opd w1 fun y H2 α2 μ2 i p2 S2 r2 w2 => ?_⟩
    refine ⟨G, α2, ρ, μ2, S2, (E.post p1).post p2, wE.opd w2 fun z H3 α3 μ3 zv p3 S3 r3 w3 => ?_⟩
    cases q : getD μ3 v i with
    | none => simp only [q] at w3; exact w3.elim
    | some o =>
      obtain ⟨p', u, ep, dg, q1, q2⟩ := getD_ok S3 ((r1.post p2).post p3) (r2.post p3) q
      cases ep
      refine ⟨u, dg, ?_⟩
      cases o with
      | some d =>
        simp only [q] at w3
        obtain ⟨zz, rfl, rz⟩ := q1 d rfl
        exact w3.pure S3 rz
      | none =>
        simp only [q] at w3
        rw [q2 rfl]
        cases zv with
        | dat d => exact w3.pure S3 r3
        | loc n => exact w3.elim
  · rw [if_neg hd] at w1
    exact w1.elim

/-! ### zip -/
theorem zip_get {ds es : List D} {i : Nat} {d : D} (e : (zipD ds es)[i]? = some d) : ∃ a b, ds[i]? = some a ∧ es[i]? = some b ∧ d = .tup [a, b] := by
  unfold zipD at e
  rw [List.getElem?_map] at e
  obtain ⟨⟨a, b⟩, h, rfl⟩ := Option.map_eq_some_iff.mp e
  rw [List.getElem?_zip_eq_some] at h
  exact ⟨a, b, h.1, h.2, rfl⟩
theorem zipD_len {ds es : List D} : (zipD ds es).length = min ds.length es.length := by simp [zipD]
/-- a list or a tuple that is walked as a source -/
def seqD : D → Option (Bool × List D)
  | .lst ds => some (false, ds)
  | .tup ds => some (true, ds)
  | _ => none
theorem src_ok {K : PySem.W.Frag} {G : Addr → Prop} {α : List Addr} {H : Hp} {v : V} {d : D} {k : Bool} {ds : List D} (r : Rp H (off G α) v d) (e : seqD d = some (k, ds)) :
    ∃ a xs, v = .ref a ∧ SqK K H k a xs ∧ RpL H (off G α) xs ds ∧ (LenOk H → xs.length ≤ sizeLine) ∧ ∀ {α2 : List Addr} {H2 : Hp}, PostG G α H α2 H2 → SqK K H2 k a xs := by
  cases d <;> simp only [seqD, reduceCtorEq, Option.some.injEq, Prod.mk.injEq] at e
  · obtain ⟨rfl, rfl⟩ := e
    obtain ⟨a, xs, rfl, h, n, l⟩ := inv_tup r
    exact ⟨a, xs, rfl, h.sq, l, fun hl => hl a xs (.inr h), fun p2 => let ⟨o, e, _⟩ := h; .inl (.inr ⟨o, p2.keepN e n⟩)⟩
  · obtain ⟨rfl, rfl⟩ := e
    obtain ⟨a, xs, rfl, h, n, l⟩ := inv_lst r
    exact ⟨a, xs, rfl, .inl (.inl h), l, fun hl => hl a xs (.inl (.inl h)), fun p2 => .inl (.inl (p2.keepN h n))⟩
theorem walks_zip {K : PySem.W.Frag} {G : Addr → Prop} {α : List Addr} {H : Hp} {k1 k2 : Bool} {a b : Addr} {xs ys : List V} {ds es : List D} (lx : RpL H (off G α) xs ds) (ly : RpL H (off G α) ys es) (hl : xs.length ≤ sizeLine)
    (sx : ∀ {α2 : List Addr} {H2 : Hp}, PostG G α H α2 H2 → SqK K H2 k1 a xs) (sy : ∀ {α2 : List Addr} {H2 : Hp}, PostG G α H α2 H2 → SqK K H2 k2 b ys) : Walks G α H (ItzS K k1 a k2 b) (zipD ds es) := by
  refine ⟨?_, fun i α2 H2 p2 hi => ?_, fun G2 i α2 H2 μ2 x H3 d hG p2 S2 y e => ?_, fun i α2 H2 p2 hi => ?_⟩
  · rw [zipD_len, ← lx.length]; omega
  · rw [zipD_len, ← lx.length, ← ly.length] at hi
    have h1 : i < xs.length := by omega
    have h2 : i < ys.length := by omega
    exact ⟨xs, ys, xs[i], ys[i], sx p2, sy p2, List.getElem?_eq_getElem h1, List.getElem?_eq_getElem h2⟩
  · obtain ⟨T, o, u, v, rfl, ho, hT, rfl, e1, e2⟩ := y
    obtain ⟨d1, d2, f1, f2, rfl⟩ := zip_get e
    have g1 := e1 xs (sx p2)
    have g2 := e2 ys (sy p2)
    obtain ⟨u', k1, k2⟩ := lx.get f1
    obtain ⟨v', k3, k4⟩ := ly.get f2
    rw [g1] at k1
    rw [g2] at k3
    cases k1
    cases k3
    exact pair_step S2 hT ho (Rp.mono (p2.keptG hG) k2) (Rp.mono (p2.keptG hG) k4)
  · rw [zipD_len, ← lx.length, ← ly.length] at hi
    exact ⟨xs, ys, sx p2, sy p2, by omega, by omega, by omega⟩
theorem zipL_src {a b : Val} {ds : List D} (e : zipL a b = some ds) : ∃ d1 d2 k1 k2 xs ys, a = .dat d1 ∧ b = .dat d2 ∧ seqD d1 = some (k1, xs) ∧ seqD d2 = some (k2, ys) ∧ ds = zipD xs ys := by
  unfold zipL at e
  split at e <;> first | (cases e; exact ⟨_, _, _, _, _, _, rfl, rfl, rfl, rfl, rfl⟩) | cases e
theorem i_zip {elts : List Expr} {kk : Nat} {tpos : Pos} (hg : Gl X "zip") (hm : X.mg "zip" = none) (ha : PA X [a, b] (tA Z W (sArgs [f, g])))
    (hs : starEach [a, b] X.env = (false, eval a X.env) :: starEach [b] X.env := by rfl) (hpl : (backTo pos (starEach [b] X.env)).any (·.1) = false := by rfl) :
    PI X (.Tuple elts kk tpos) (.Call (.Name "zip" p) [a, b] [] pos) (tI Z W (argI (k2I zipL) [f, g])) := by
  refine PIimp (pi_zipS hg hm ha hs hpl) ?_
  rintro σ H R ⟨G, α, ρ, μ, S, E, w⟩
  refine ⟨G, α, ρ, μ, S, E, want_argI w fun vs H1 α1 μ1 as ds p1 S1 r1 hl q kk => ?_⟩
  match as, hl with
  | [a, b], _ =>
    obtain ⟨x, y, rfl, rx, ry⟩ := vs2 r1
    simp only [k2I] at q
    obtain ⟨d1, d2, k1, k2, us, ws, rfl, rfl, e1, e2, rfl⟩ := zipL_src q
    obtain ⟨pa, xs, rfl, hx, lx, lenx, sx⟩ := src_ok (K := X.K) rx e1
    obtain ⟨pb, ys, rfl, hy, ly, leny, sy⟩ := src_ok (K := X.K) ry e2
    exact ⟨k1, k2, pa, pb, xs, ys, rfl, hx, hy, fun hl => kk _ H1 Post.refl S1 (walks_zip lx ly (lenx hl) sx sy)⟩
theorem enumD_len {ds : List D} : (enumD ds).length = ds.length := by simp [enumD]
theorem enum_get {ds : List D} {i : Nat} {d : D} (e : (enumD ds)[i]? = some d) : ∃ x, ds[i]? = some x ∧ d = .tup [.int (i : Nat), x] := by
  unfold enumD at e
  rw [List.getElem?_map] at e
  obtain ⟨⟨x, j⟩, h, rfl⟩ := Option.map_eq_some_iff.mp e
  rw [List.getElem?_zipIdx] at h
  obtain ⟨y, h1, h2⟩ := Option.map_eq_some_iff.mp h
  cases h2
  exact ⟨_, h1, by simp⟩
theorem walks_enum {K : PySem.W.Frag} {G : Addr → Prop} {α : List Addr} {H : Hp} {k : Bool} {a : Addr} {xs : List V} {ds : List D} (lx : RpL H (off G α) xs ds) (hl : xs.length ≤ sizeLine)
    (sx : ∀ {α2 : List Addr} {H2 : Hp}, PostG G α H α2 H2 → SqK K H2 k a xs) : Walks G α H (IteS K k a) (enumD ds) := by
  refine ⟨?_, fun i α2 H2 p2 hi => ?_, fun G2 i α2 H2 μ2 x H3 d hG p2 S2 y e => ?_, fun i α2 H2 p2 hi => ?_⟩
  · rw [enumD_len, ← lx.length]; omega
  · rw [enumD_len, ← lx.length] at hi
    exact ⟨xs, xs[i], sx p2, List.getElem?_eq_getElem hi⟩
  · obtain ⟨T, o, u, rfl, ho, hT, rfl, e1⟩ := y
    obtain ⟨d1, f1, rfl⟩ := enum_get e
    have g1 := e1 xs (sx p2)
    obtain ⟨u', k1, k2⟩ := lx.get f1
    rw [g1] at k1
    cases k1
    exact pair_step S2 hT ho (.int _) (Rp.mono (p2.keptG hG) k2)
  · rw [enumD_len, ← lx.length] at hi
    exact ⟨xs, sx p2, hi⟩
theorem i_enum {elts : List Expr} {kk : Nat} {tpos : Pos} (hg : Gl X "enumerate") (hm : X.mg "enumerate" = none) (ha : PA X [a] (tA Z W (sArgs [f]))) (hs : starEach [a] X.env = [(false, eval a X.env)] := by rfl) :
    PI X (.Tuple elts kk tpos) (.Call (.Name "enumerate" p) [a] [] pos) (tI Z W (argI (k1I enumL) [f])) := by
  refine PIimp (pi_enumS hg hm ha hs) ?_
  rintro σ H R ⟨G, α, ρ, μ, S, E, w⟩
  refine ⟨G, α, ρ, μ, S, E, want_argI w fun vs H1 α1 μ1 as ds p1 S1 r1 hl q kk => ?_⟩
  match as, hl with
  | [a], _ =>
    obtain ⟨x, rfl, rx⟩ := vs1 r1
    simp only [k1I] at q
    have : ∃ d k us, a = .dat d ∧ seqD d = some (k, us) ∧ ds = enumD us := by
      unfold enumL at q
      split at q <;> first | (cases q; exact ⟨_, _, _, rfl, rfl, rfl⟩) | cases q
    obtain ⟨d1, k, us, rfl, e1, rfl⟩ := this
    obtain ⟨pa, xs, rfl, hx, lx, lenx, sx⟩ := src_ok (K := X.K) rx e1
    exact ⟨k, pa, xs, rfl, hx, fun hl => kk _ H1 Post.refl S1 (walks_enum lx (lenx hl) sx)⟩
end
end Sx

/-! SxSort: sorted of ints: lists, dicts by their keys, of any size. -/
namespace L2
open PySem PySem.Spec PyProof.Rows
/-- sorted(d) of a dict of any size, all keys ints -/
theorem call_sortedDIany {X : Cx} (hcalm : X.calm = true) : CallR X (.builtin "sorted") (fun xs H Q => ∃ (a : Addr) (kvs : List (Key × V)) (ks : List Int), xs = [.ref a] ∧ Rd H a (.dK kvs) ∧ kvs.map (·.1) = ks.map Sum.inl ∧
    ∀ (ys : List Int) (p : Addr), ys.Perm ks → ys.Pairwise (· ≤ ·) → H p = none → Q (.ref p) (upd H p (.lst (ys.map V.int)))) := by
  intro pins s σ H xs us Q I r q
  obtain ⟨a, kvs, ks, ex, hd, hks, q⟩ := q
  subst ex
  obtain ⟨u, eu, rx⟩ := vals1 r
  subst eu
  cases rx
  obtain ⟨z, lo, vs, rel, dd⟩ := dk_rd I.hok hd
  obtain ⟨ep, hat⟩ := dd.dictAt
  have hkeys : vs.map (·.1) = ks.map Sum.inl := rel.keys.symm.trans hks
  have hl : vs.length = ks.length := by
    have e := congrArg List.length hkeys
    rw [List.length_map, List.length_map] at e
    exact e
  have h16 : vs.length ≤ sizeLine := by rw [← rel.length]; exact z
  refine Calls.call_function_entry PyProof.Rows.kind_sorted PyProof.Rows.plain_sorted PyProof.Rows.entry_sorted (PyProof.Rows.args_sorted1 _) ?_
  unfold Builtin.«sorted»
  refine wpAny_bind (m := checkCount "sorted" 1 1 _) (wpAny_pure ?_)
  refine wpAny_bind (PySem.W.kdu_collect (A := X.A.in1) (PySem.W.kdl_dict (knd := mixKind X.prog X.w) (kvs := vs) (ep := ep) lo) (I.ok.hd hcalm) hat h16 fun h' tk acc hk hacc => ?_)
  have hal : acc.toList.length = ks.length := by rw [Array.length_toList, hacc.1, hl]
  have hS : IntsAre acc.toList ks := ints_each hal fun j v e => by
    obtain ⟨k, x, e1, e2⟩ := hacc.2 j v (by rw [← Array.getElem?_toList]; exact e)
    have e3 : (vs.map (·.1))[j]? = some k := by rw [List.getElem?_map, e1]; rfl
    rw [hkeys, List.getElem?_map] at e3
    cases e4 : ks[j]? with
    | none => rw [e4] at e3; cases e3
    | some y =>
      rw [e4] at e3
      have e5 : Sum.inl y = k := Option.some.inj e3
      subst e5
      rcases keyIs_shape (show keyIs (Sum.inl y) v = true from e2) with ⟨i, t, ek, ev⟩ | ⟨z, t, ek, ev⟩
      · cases ek
        exact ⟨y, t, rfl, ev⟩
      · cases ek
  have I1 : Inv X pins σ H { s with heap := h', toks := tk } := I.kept hk
  have hz : acc.toList.length ≤ sizeLine := by rw [hal, ← hl]; exact h16
  refine wpAny_bind (wpAny_newList ?_ hz)
  have hoL : (h'.push (seqObj "list" acc.toList.toArray 0)).get? h'.objs.size = some (seqObj "list" acc.toList.toArray 0) := Heap.get?_push_size _ rfl
  show wpAny _ _ _ _ _ { s with heap := h'.push (seqObj "list" acc.toList.toArray 0), toks := tk }
  refine wpAny_bind (wpAny_holding (wpAny_call_entry PyProof.Rows.slot_list_sort ⟨_, hoL, rfl⟩ PyProof.Rows.entry_list_sort
    (SrtO.list_sort_ord (s := { s with heap := h'.push (seqObj "list" acc.toList.toArray 0), toks := tk }) SrtO.swo_int hoL hz (fun h2 => SrtO.ints_sortable hS h2) fun out h1 h2 => ⟨_, rfl, ?_⟩) (PyProof.Rows.args_list_sort _)))
  obtain ⟨g1, g2, g3⟩ := SrtO.ints_out hS h1 h2
  obtain ⟨e', he'⟩ := PyProof.Rows.sortedHeap_at (vs := acc.toList) (out := out.toArray) hoL
  have hlen : ((out.map SrtO.iv).map V.int).length ≤ sizeLine := by
    rw [List.length_map, g2.length_eq, ← hl]
    exact h16
  refine wpAny_pure ⟨_, rfl, .ref h'.objs.size, upd H h'.objs.size (.lst ((out.map SrtO.iv).map V.int)), I1.laid (t' := tk) (fun b u e => ?_) (Nat.le_refl _)
    (show ObjOk X.prog X.w _ _ _ (.lst ((out.map SrtO.iv).map V.int)) from ⟨hlen, out, e', vals_of_ints g1, he'⟩), rfl, q _ _ g2 g3 (I1.hok.fresh (Nat.le_refl _))⟩
  have hb : b < h'.objs.size := Heap.lt_size e
  rw [PyProof.Rows.sortedHeap_old (Nat.ne_of_lt hb) (by rw [size_push']; exact Nat.lt_succ_of_lt hb)]
  exact Heap.get?_push_of_some _ e
end L2
namespace Sx
open PySem L2
/-- ints in order -/
def insI (n : Int) : List Int → List Int
  | [] => [n]
  | m :: ms => if n ≤ m then n :: m :: ms else m :: insI n ms
def srtI : List Int → List Int
  | [] => []
  | n :: ns => insI n (srtI ns)
theorem insI_perm (n : Int) : ∀ ms : List Int, (insI n ms).Perm (n :: ms)
  | [] => List.Perm.refl _
  | m :: ms => by
    unfold insI
    split
    · exact List.Perm.refl _
    · exact ((insI_perm n ms).cons m).trans (List.Perm.swap n m ms)
theorem srtI_perm : ∀ ns : List Int, (srtI ns).Perm ns
  | [] => List.Perm.refl _
  | n :: ns => (insI_perm n _).trans ((srtI_perm ns).cons n)
theorem insI_mem {n x : Int} {ms : List Int} (h : x ∈ insI n ms) : x = n ∨ x ∈ ms := by
  have := (insI_perm n ms).mem_iff.mp h
  simpa using this
theorem insI_sorted (n : Int) : ∀ {ms : List Int}, ms.Pairwise (· ≤ ·) → (insI n ms).Pairwise (· ≤ ·)
  | [], _ => by simp [insI]
  | m :: ms, h => by
    unfold insI
    rw [List.pairwise_cons] at h
    split
    · rename_i hn
      rw [List.pairwise_cons]
      refine ⟨fun x hx => ?_, List.pairwise_cons.mpr h⟩
      rcases List.mem_cons.mp hx with rfl | hx
      · exact hn
      · exact Int.le_trans hn (h.1 x hx)
    · rename_i hn
      rw [List.pairwise_cons]
      refine ⟨fun x hx => ?_, insI_sorted n h.2⟩
      rcases insI_mem hx with rfl | hx
      · omega
      · exact h.1 x hx
theorem srtI_sorted : ∀ ns : List Int, (srtI ns).Pairwise (· ≤ ·)
  | [] => .nil
  | n :: ns => insI_sorted n (srtI_sorted ns)
theorem perm_sorted_eq : ∀ {xs ys : List Int}, xs.Perm ys → xs.Pairwise (· ≤ ·) → ys.Pairwise (· ≤ ·) → xs = ys
  | [], ys, p, _, _ => by rw [List.nil_perm.mp p]
  | x :: xs, [], p, _, _ => by have := p.length_eq; simp at this
  | x :: xs, y :: ys, p, h1, h2 => by
    rw [List.pairwise_cons] at h1 h2
    have e : x = y := by
      have a : x ∈ y :: ys := p.mem_iff.mp List.mem_cons_self
      have b : y ∈ x :: xs := p.mem_iff.mpr List.mem_cons_self
      rcases List.mem_cons.mp a with a | a
      · exact a
      · rcases List.mem_cons.mp b with b | b
        · exact b.symm
        · have := h2.1 x a; have := h1.1 y b; omega
    subst e
    rw [perm_sorted_eq (List.Perm.cons_inv p) h1.2 h2.2]
theorem srtI_eq {ns ys : List Int} (p : ys.Perm ns) (h : ys.Pairwise (· ≤ ·)) : ys = srtI ns := perm_sorted_eq (p.trans (srtI_perm ns).symm) h (srtI_sorted ns)
/-- the int keys of a dict -/
def keysI {τ : Type} : List (Key × τ) → Option (List Int)
  | [] => some []
  | (.inl i, _) :: r => (keysI r).map (i :: ·)
  | (.inr _, _) :: _ => none
theorem keysI_ok {τ : Type} : ∀ {kvs : List (Key × τ)} {ks : List Int}, keysI kvs = some ks → kvs.map (·.1) = ks.map Sum.inl
  | [], _, e => by simp [keysI] at e; subst e; rfl
  | (.inl i, _) :: r, _, e => by
    simp only [keysI] at e
    obtain ⟨z, h, rfl⟩ := Option.map_eq_some_iff.mp e
    simp [keysI_ok h]
  | (.inr _, _) :: _, _, e => by simp [keysI] at e
theorem rpK_keys {H : Hp} {F : Addr → Prop} : ∀ {xs : List (Key × V)} {ds : List (Key × D)}, RpK H F xs ds → xs.map (·.1) = ds.map (·.1)
  | _, _, .nil => rfl
  | _, _, .cons r t => by simp [rpK_keys t]
def opSortI : COp := c1 fun μ a => match rdL μ a with
  | some ds => (intsD ds).map fun ns => .new (.lst ((srtI ns).map .int))
  | none => match rdD μ a with
    | some kvs => (keysI kvs).map fun ns => .new (.lst ((srtI ns).map .int))
    | none => none
section
variable {X : Cx}
theorem kSortI (hc : X.calm = true) : CalR X (.builtin "sorted") opSortI := by
  have a : CalR X (.builtin "sorted") (c1 fun μ a => match rdL μ a with
    | some ds => (intsD ds).map fun ns => .new (.lst ((srtI ns).map .int))
    | none => none) := ⟨_, cr_sortedI, fun Z G α H μ vs as res Q E S rs e w => by
    have e0 := c1_some e
    clear e
    obtain ⟨a, rfl, e⟩ := e0
    obtain ⟨x, rfl, r⟩ := vs1 rs
    split at e
    · rename_i ds h
      obtain ⟨ns, h2, rfl⟩ := Option.map_eq_some_iff.mp e
      obtain ⟨p, xs, rfl, e2, e3⟩ := rdL_ok S r h
      rw [intsD_ok h2 e3] at e2
      refine ⟨p, ns, rfl, .inl e2, fun ns' q hp hs hq => ?_⟩
      rw [srtI_eq hp hs]
      exact w.lst S (rpL_ints _) hq
    · cases e⟩
  have b : CalR X (.builtin "sorted") (c1 fun μ a => match rdD μ a with
    | some kvs => (keysI kvs).map fun ns => .new (.lst ((srtI ns).map .int))
    | none => none) := ⟨_, call_sortedDIany hc, fun Z G α H μ vs as res Q E S rs e w => by
    have e0 := c1_some e
    clear e
    obtain ⟨a, rfl, e⟩ := e0
    obtain ⟨x, rfl, r⟩ := vs1 rs
    split at e
    · rename_i ds h
      obtain ⟨ns, h2, rfl⟩ := Option.map_eq_some_iff.mp e
      obtain ⟨p, xs, rfl, e2, e3⟩ := rdD_ok S r h
      refine ⟨p, xs, ns, rfl, e2, (rpK_keys e3).trans (keysI_ok h2), fun ns' q hp hs hq => ?_⟩
      rw [srtI_eq hp hs]
      exact w.lst S (rpL_ints _) hq
    · cases e⟩
  obtain ⟨r, h1, h2⟩ := a.ex
  obtain ⟨r', h1', h2'⟩ := b.ex
  refine ⟨_, h1.or h1', ?_⟩
  intro Z G α H μ vs as res Q E S rs e w
  have e0 := c1_some e
  obtain ⟨v, rfl, e1⟩ := e0
  cases q : rdL μ v with
  | some ds =>
    refine .inl (h2 Z G α H μ vs _ res Q E S rs ?_ w)
    simp only [q] at e1
    simp only [c1, q]
    exact e1
  | none =>
    refine .inr (h2' Z G α H μ vs _ res Q E S rs ?_ w)
    simp only [q] at e1
    simp only [c1]
    exact e1
end
end Sx

/-! SxAny: walking a list, a tuple, a text; small helps for derivations. -/
namespace L2
open PySem PySem.Spec PyProof.Rows
def iAny (K : PySem.W.Frag) (te : TE) : TI := fun σ H R => te σ H fun x H1 => (∃ a, x = .ref a ∧ (∃ xs, SqL K H1 a xs) ∧ R (Itl K a) H1) ∨ (∃ a, x = .ref a ∧ (∃ xs, SqT K H1 a xs) ∧ R (Itt K a) H1) ∨ (∃ z, x = .str z ∧ R (Its z) H1)
theorem pi_any {X : Cx} {tg l : Expr} {tl : TE} (hl : PE X l tl) : PI X tg l (iAny X.K tl) := by
  refine ⟨fun pins s σ H R I h => ?_⟩
  refine thn (hl.run pins s σ H _ I h) fun v s1 ⟨x, H1, I1, r1, q1⟩ => ?_
  rcases q1 with ⟨a, e, ⟨xs, hq⟩, q⟩ | ⟨a, e, ⟨xs, hq⟩, q⟩ | ⟨z, e, q⟩
  · subst e
    cases r1
    obtain ⟨its, rv, p, hz⟩ := I1.list hq
    refine wpAny_pyIter_list p.isList ?_
    exact pi_one (tk := s1.toks) I1 _ (turn_list a _) ⟨_, Heap.get?_push_size _ rfl, rfl, rfl⟩ q
  · subst e
    cases r1
    obtain ⟨its, rv, p, hz⟩ := I1.tuple hq
    refine wpAny_pyIter_tuple (show s1.heap.IsTuple a its.toArray from p) ?_
    exact pi_one (tk := s1.toks) I1 _ (turn_tuple a _) ⟨_, Heap.get?_push_size _ rfl, rfl, rfl⟩ q
  · subst e
    obtain ⟨t, rfl⟩ := r1
    cases ha : z.cps.all (· < 128)
    · exact wpAny_pyIter_wide ha (pi_one (tk := s1.toks) I1 _ (turn_str _ z t "str_iterator" (.inr rfl)) ⟨_, Heap.get?_push_size _ rfl, rfl, rfl⟩ q)
    · exact wpAny_pyIter_ascii ha (pi_one (tk := s1.toks) I1 _ (turn_str _ z t "str_ascii_iterator" (.inl rfl)) ⟨_, Heap.get?_push_size _ rfl, rfl, rfl⟩ q)
end L2
namespace Sx
open PySem L2
section
variable {X : Cx} {Z : Wd} {W : WX} {tg e : Expr} {f : SE} {pos p : Pos}
/-- a list, the script, a tuple, a text -/
def itA : Val → Sto → Option (List D)
  | .dat (.lst ds), _ => some ds
  | .dat (.tup ds), _ => some ds
  | .dat (.scr ns), _ => some (ns.map .int)
  | .dat (.str z), _ => if z.cps.size ≤ sizeLine then some (z.cps.toList.map fun c => .str ⟨#[c]⟩) else none
  | _, _ => none
theorem walks_lst {K : PySem.W.Frag} {G : Addr → Prop} {α : List Addr} {H : Hp} {a : Addr} {xs : List V} {ds : List D} (h : Rd H a (.lst xs)) (n : ¬ off G α a) (l : RpL H (off G α) xs ds) (hl : LenOk H) : Walks G α H (Itl K a) ds := by
  have na : a ∉ α := fun z => n (.inr z)
  have stay : ∀ {α2 : List Addr} {H2 : Hp}, PostG G α H α2 H2 → Rd H2 a (.lst xs) := fun p2 => h.elim (fun h => .inl (p2.keepN h n)) fun ⟨o, h⟩ => .inr ⟨o, p2.keepN h n⟩
  refine ⟨by rw [← l.length]; exact hl a xs (.inl h), fun i α2 H2 p2 hi => ?_, fun G2 i α2 H2 μ2 x H3 d hG p2 S2 y e => ?_, fun i α2 H2 p2 hi => ?_⟩
  · have hi' : i < xs.length := by rw [l.length]; exact hi
    exact ⟨xs, xs[i], .inl (stay p2), List.getElem?_eq_getElem hi'⟩
  · obtain ⟨rfl, y⟩ := y
    have e1 := y xs (.inl (stay p2))
    obtain ⟨v, e2, q⟩ := l.get e
    rw [e1] at e2
    cases e2
    exact ⟨Post.refl, S2, Rp.mono (p2.keptG hG) q⟩
  · exact ⟨xs, .inl (stay p2), by rw [l.length]; exact Nat.le_of_eq hi.symm⟩
theorem walks_tup {K : PySem.W.Frag} {G : Addr → Prop} {α : List Addr} {H : Hp} {a : Addr} {xs : List V} {ds : List D} (h : TupAt H a xs) (n : ¬ off G α a) (l : RpL H (off G α) xs ds) (hl : LenOk H) : Walks G α H (Itt K a) ds := by
  have na : a ∉ α := fun z => n (.inr z)
  have stay : ∀ {α2 : List Addr} {H2 : Hp}, PostG G α H α2 H2 → SqT K H2 a xs := fun p2 => let ⟨o, e, _⟩ := h; .inl (.inr ⟨o, p2.keepN e n⟩)
  refine ⟨by rw [← l.length]; exact hl a xs (.inr h), fun i α2 H2 p2 hi => ?_, fun G2 i α2 H2 μ2 x H3 d hG p2 S2 y e => ?_, fun i α2 H2 p2 hi => ?_⟩
  · have hi' : i < xs.length := by rw [l.length]; exact hi
    exact ⟨xs, xs[i], stay p2, List.getElem?_eq_getElem hi'⟩
  · obtain ⟨rfl, y⟩ := y
    have e1 := y xs (stay p2)
    obtain ⟨v, e2, q⟩ := l.get e
    rw [e1] at e2
    cases e2
    exact ⟨Post.refl, S2, Rp.mono (p2.keptG hG) q⟩
  · exact ⟨xs, stay p2, by rw [l.length]; exact Nat.le_of_eq hi.symm⟩
theorem walks_str {G : Addr → Prop} {α : List Addr} {H : Hp} {z : Str} (hz : z.cps.size ≤ sizeLine) : Walks G α H (Its z) (z.cps.toList.map fun c => .str ⟨#[c]⟩) := by
  refine ⟨by simpa using hz, fun i α2 H2 p2 hi => ?_, fun G2 i α2 H2 μ2 x H3 d hG p2 S2 y e => ?_, fun i α2 H2 p2 hi => ?_⟩
  · show i < z.cps.size
    simpa using hi
  · obtain ⟨rfl, c, hc, rfl⟩ := y
    rw [List.getElem?_map] at e
    have : z.cps.toList[i]? = some c := by simpa using hc
    rw [this] at e
    cases e
    exact ⟨Post.refl, S2, .str _⟩
  · show z.cps.size ≤ i
    have hi : i = z.cps.size := by simpa using hi
    omega
/-- what an expression gives, walked -/
def sIt (f : SE) : SI := fun ρ μ => opdI (f ρ μ) itA
theorem i_any (h : PE X e (tD Z W f)) : PI X tg e (tI Z W (sIt f)) := by
  refine PIimp (pi_any h) ?_
  rintro σ H R ⟨G, α, ρ, μ, S, E, w⟩
  refine ⟨G, α, ρ, μ, S, E, want_opdI w fun v H1 α1 μ1 val ds p s r k q => ?_⟩
  cases val with
  | loc n => simp [itA] at k
  | dat d =>
    have r : Rp H1 (off G α1) v d := r
    cases r with
    | lst h n l =>
      simp only [itA, Option.some.injEq] at k
      subst k
      exact .inl ⟨_, rfl, ⟨_, .inl (.inl h)⟩, fun hl => q _ H1 Post.refl s (walks_lst (.inl h) n l hl)⟩
    | scr h n =>
      simp only [itA, Option.some.injEq] at k
      subst k
      exact .inl ⟨_, rfl, ⟨_, .inl h⟩, fun hl => q _ H1 Post.refl s (walks_lst h n (rpL_ints _) hl)⟩
    | tup h n l =>
      simp only [itA, Option.some.injEq] at k
      subst k
      exact .inr (.inl ⟨_, rfl, ⟨_, h.sq⟩, fun hl => q _ H1 Post.refl s (walks_tup h n l hl)⟩)
    | str z =>
      simp only [itA] at k
      split at k
      · rename_i hz
        cases k
        exact .inr (.inr ⟨z, rfl, fun _ => q _ H1 Post.refl s (walks_str hz)⟩)
      · cases k
    | _ => simp [itA] at k
end
theorem blk_by {X : Cx} {N : List Str} {sc scope : Scope} {own : List (Str × Nat)} (h1 : X.N = N) (h2 : X.env.scope = sc) (h : blkC N sc scope own = true) : BlkOk X.N X.env.scope scope own := by
  rw [h1, h2]
  exact blkOk_by h
/-- a promise at a greater level -/
theorem Has.up {T : Tx} {j k : Nat} {x : Str} {md : List Bool} {F : FD} (h : Has T j x md F) (hj : j ≤ k := by decide) : Has T k x md F := by
  obtain ⟨f, fd, ps, a, b, c, d⟩ := h
  exact ⟨f, fd, ps, a.mono hj, b, c, d⟩
/-- nothing is promised -/
theorem has_stuck {T : Tx} {x : Str} {st : Stmt} {ps : List Str} {k : Nat} {md : List Bool} (hd : DefAt T x st) (hl : ps.length = md.length)
    (hb : ∀ (kV doc pm : Value) (an : Option Addr) (cdv ct : Value) (us : List Value), us.length = ps.length → bindArgs (PySem.W.fnOf x x (defArgs st) (defBody st) (defScope st) .none kV doc pm an cdv ct) ⟨us, []⟩ = pure (ps.zip us)) : Has T k x md (fun _ _ => .stuck) := by
  obtain ⟨f, fd, F, hm⟩ := hd
  refine ⟨f, fd, ps, ⟨fun vs H Q E h => by rw [hl]; exact h.1, fun A outer s H args us vs Q E hr he hb hv hs => ?_⟩, hm, F.kp, F.binds hb⟩
  obtain ⟨_, G, α, cs, ds, _, _, _, _, w⟩ := hs
  exact w.elim
end Sx

/-! SxSet: sets of ints and texts (after the layer's sets of ints), sorted(set(..)). -/
namespace SxKs
open PySem PySem.Spec PyProof.Rows L2
noncomputable instance memDec (j : Key) (ns : List Key) : Decidable (j ∈ ns) := Classical.propDecidable _
def keyV : Value → Key
  | .int k _ => .inl k
  | .str x _ => .inr x
  | _ => .inl 0
def keyE (e : Int × Value) : Key := keyV e.2
theorem keyV_is {P : Program} {w : World} {k : Key} {u : Value} (h : (mixKind P w).is k u = true) : keyV u = k := by
  rcases keyIs_shape (show keyIs k u = true from h) with ⟨i, t, rfl, rfl⟩ | ⟨x, t, rfl, rfl⟩ <;> rfl
theorem scanM {P : Program} {w : World} {k : Key} {u : Value} (h : (mixKind P w).is k u = true) : u.scannable = true := by
  rcases keyIs_shape (show keyIs k u = true from h) with ⟨i, t, rfl, rfl⟩ | ⟨x, t, rfl, rfl⟩ <;> rfl
def GoodM (w : World) (e : Int × Value) : Prop := ∃ k : Key, keyIs k e.2 = true ∧ e.1 = keyH w k
/-- the set of keys at a: S its members, n their number -/
def SetM (w : World) (h : Heap) (a : Addr) (S : Key → Bool) (n : Nat) : Prop :=
  ∃ o es ep t, h.get? a = some o ∧ o.ExactSet ∧ o.data = .set es ep t ∧ (∀ e ∈ es.toList, GoodM w e) ∧ (es.toList.map keyE).Nodup ∧ (∀ k, S k = true ↔ k ∈ es.toList.map keyE) ∧
    es.size < scanBound ∧ t.fits es.size = true ∧ es.size = n ∧ Ris t.place.toList ∧ (w.params.followText "set-order" = true ∨ t.led = true)
section
variable {P : Program} {w : World} {h h' : Heap} {a : Addr} {S : Key → Bool} {n : Nat}
theorem SetM.at (R : SetM w h a S n) (k : ∀ o, h.get? a = some o → h'.get? a = some o) : SetM w h' a S n :=
  let ⟨o, es, ep, t, ho, r⟩ := R
  ⟨o, es, ep, t, k o ho, r⟩
theorem SetM.congr {S' : Key → Bool} (R : SetM w h a S n) (e : ∀ k, S' k = S k) : SetM w h a S' n := (funext e : S' = S) ▸ R
theorem goodM_elems {l : List (Int × Value)} (g : ∀ e ∈ l, GoodM w e) : ElemsOf (mixKind P w) l := fun e he =>
  let ⟨k, h1, h2⟩ := g e he
  ⟨⟨k, h1, h2⟩, scanM (P := P) (w := w) (k := k) h1⟩
theorem goodM_is {e : Int × Value} (g : GoodM w e) (k : Key) : (mixKind P w).is k e.2 = true ↔ keyE e = k := by
  obtain ⟨k0, h1, _⟩ := g
  have z : keyE e = k0 := keyV_is (P := P) (w := w) h1
  rw [z]
  exact ⟨fun h => (keyV_is (P := P) (w := w) h1).symm.trans (keyV_is h), fun h => h ▸ h1⟩
theorem goodM_mem {l : List (Int × Value)} (g : ∀ e ∈ l, GoodM w e) (k : Key) : k ∈ l.map keyE ↔ ∃ e ∈ l, (mixKind P w).is k e.2 = true :=
  List.mem_map.trans ⟨fun ⟨e, he, q⟩ => ⟨e, he, (goodM_is (g e he) k).2 q⟩, fun ⟨e, he, q⟩ => ⟨e, he, (goodM_is (g e he) k).1 q⟩⟩
end
section
variable {P : Program} {w : World} {A : Around} {E : Value → Shared → Prop} {s : Shared} {a : Addr} {S : Key → Bool} {n : Nat}
theorem setM_add_tail {g : Bool → Sem Unit} (hg : ∀ (b : Bool) (s₁ : Shared) (Q' : Unit → Shared → Prop), Q' () s₁ → wpAny (model P w) A (g b) Q' E s₁)
    {o : Obj} {es : Array (Int × Value)} {ep : Nat} {t : SetTable} (ho : s.heap.get? a = some o) (hex : o.ExactSet) (hd : o.data = .set es ep t)
    {es1 : Array (Int × Value)} {t2 : SetTable} {S' : Key → Bool} (g1 : ∀ e ∈ es1.toList, GoodM w e) (nd1 : (es1.toList.map keyE).Nodup) (m1 : ∀ k, S' k = true ↔ k ∈ es1.toList.map keyE)
    (hb1 : es1.size < scanBound) (hf2 : t2.fits es1.size = true) (hr : Ris t2.place.toList) (hl : w.params.followText "set-order" = true ∨ t2.led = true) {wasDummy : Bool} {R : Option Bool → Shared → Prop}
    (hR : ∀ h', Heap.SameBut a s.heap h' → SetM w h' a S' es1.size → R (some true) { s with heap := h' }) :
    wpAny (model P w) A (do
        storeSet a es1 t2
        if (!wasDummy && t2.tooFull) = true then do
            g (relayAll t2 es1 (SetTable.grown es1.size)).2.2
            storeSet a (relayAll t2 es1 (SetTable.grown es1.size)).1 (relayAll t2 es1 (SetTable.grown es1.size)).2.1
            pure (some true)
          else pure (some true)) R E s := by
  refine wpAny_bind (wpAny_storeSet_of ho hd ?_ (fits_of_scanBound hb1))
  have ho1 := store_at (es' := es1) (t' := t2) ho hd
  have sb1 := Heap.SameBut.update s.heap a (Obj.putSet es1 t2)
  split
  · have pm := relayAll_perm t2 es1 (SetTable.grown es1.size)
    have hf3 := relayAll_fits t2 es1 (SetTable.grown es1.size)
    have hr3 := relayAll_ris t2 es1 (SetTable.grown es1.size)
    have hl3 := relayAll_led t2 es1 (SetTable.grown es1.size)
    generalize relayAll t2 es1 (SetTable.grown es1.size) = Z at pm hf3 hr3 hl3 ⊢
    obtain ⟨es2, t3, gave⟩ := Z
    dsimp only at pm hf3 hr3 hl3 ⊢
    have hsz : es2.size = es1.size := by rw [← Array.length_toList, pm.length_eq, Array.length_toList]
    have hb2 : es2.size < scanBound := by rw [hsz]; exact hb1
    refine wpAny_bind (hg _ _ _ ?_)
    refine wpAny_bind (wpAny_storeSet_of ho1 rfl ?_ (fits_of_scanBound hb2))
    have ho2 := store_at (es' := es2) (t' := t3) ho1 rfl
    refine wpAny_pure (hR _ (sb1.trans (Heap.SameBut.update _ a _)) ?_)
    exact ⟨_, es2, _, t3, ho2, hex, rfl, fun e he => g1 e (pm.mem_iff.mp he), (pm.map keyE).nodup_iff.mpr nd1, fun k => (m1 k).trans (pm.map keyE).mem_iff.symm, hb2, hf3, hsz, hr3,
      hl.imp id fun z => by rw [hl3]; exact z⟩
  · exact wpAny_pure (hR _ sb1 ⟨_, es1, _, t2, ho1, hex, rfl, g1, nd1, m1, hb1, hf2, rfl, hr, hl⟩)

theorem setM_add_hashed {k : Key} {u : Value} (hkey : (mixKind P w).is k u = true) {Q : Bool → Shared → Prop} (R : SetM w s.heap a S n) (room : n + 1 < scanBound)
    (hQ : ∀ h', Heap.SameBut a s.heap h' → SetM w h' a (fun j => S j || decide (j = k)) (if S k = true then n else n + 1) → Q (!S k) { s with heap := h' }) :
    wpAny (model P w) A (setAddHashed a u ((mixKind P w).hash k)) Q E s := by
  obtain ⟨o, es, ep, t, ho, hex, hd, g, nd, hm, hb, hf, hn, hr, hl⟩ := R
  have hsc : u.scannable = true := scanM hkey
  have hel : ElemsOf (mixKind P w) es.toList := goodM_elems g
  unfold setAddHashed setAddHashedIn
  refine wpAny_holding (wpAny_bind (wpAny_setState_of ho hd hf ?_))
  dsimp only
  rw [byScan_of hsc hb hel]
  simp only [↓reduceIte]
  unfold setAddByScan
  refine wpAny_bind ?_
  refine wpAny_bind (wpAny_rule ?_)
  refine wpAny_bind (wpAny_setScan_of hkey ho hd hf hel ?_)
  cases hfi : List.findIdx? (fun e => (mixKind P w).is k e.2) es.toList with
  | some j =>
    dsimp only
    obtain ⟨hj, pj, _⟩ := List.findIdx?_eq_some_iff_getElem.mp hfi
    have hSk : S k = true := (hm k).2 ((goodM_mem (P := P) (w := w) g k).2 ⟨es.toList[j], List.getElem_mem hj, pj⟩)
    refine wpAny_pure (wpAny_pure ?_)
    have q := hQ s.heap (Heap.SameBut.refl a s.heap) ⟨o, es, ep, t, ho, hex, hd, g, nd, fun i => by
      rw [Bool.or_eq_true, decide_eq_true_eq, ← hm i]
      exact ⟨fun z => z.elim id (fun e => e ▸ hSk), .inl⟩, hb, hf, by rw [if_pos hSk]; exact hn, hr, hl⟩
    rw [hSk] at q
    exact q
  | none =>
    dsimp only
    have hnk : k ∉ es.toList.map keyE := fun z => by
      obtain ⟨e, he, q⟩ := (goodM_mem (P := P) (w := w) g k).1 z
      have c := List.findIdx?_eq_none_iff.mp hfi e he
      rw [q] at c
      cases c
    have hSk : S k = false := by
      cases q : S k with
      | false => rfl
      | true => exact absurd ((hm k).1 q) hnk
    have hgw : ∀ (b : Bool) {s₁ : Shared} {Q' : Unit → Shared → Prop}, Q' () s₁ → wpAny (model P w) A (match b with | true => rule "set.scan.the-table-gave-way" | false => pure ()) Q' E s₁ :=
      fun b s₁ Q' q => by cases b <;> first | exact wpAny_pure q | exact wpAny_rule q
    have pm := layNew_perm t es ((mixKind P w).hash k) u
    have hf1 := layNew_fits t es ((mixKind P w).hash k) u
    have hr1 := layNew_ris t es ((mixKind P w).hash k) u hr
    have hl1 := layNew_led t es ((mixKind P w).hash k) u
    generalize layNew t es ((mixKind P w).hash k) u = Z at pm hf1 hr1 hl1 ⊢
    obtain ⟨es1, t1, wasDummy, gave⟩ := Z
    dsimp only at pm hf1 hr1 hl1 ⊢
    rw [Array.toList_push] at pm
    have pc : es1.toList.Perm (((mixKind P w).hash k, u) :: es.toList) := pm.trans (List.perm_append_singleton _ _)
    have ku : keyV u = k := keyV_is hkey
    have pk : (es1.toList.map keyE).Perm (k :: es.toList.map keyE) := by
      have q := pc.map keyE
      rw [List.map_cons, show keyE ((mixKind P w).hash k, u) = k from ku] at q
      exact q
    have g1 : ∀ e ∈ es1.toList, GoodM w e := fun e he => by
      rcases List.mem_cons.mp (pc.mem_iff.mp he) with z | z
      · rw [z]; exact ⟨k, hkey, rfl⟩
      · exact g e z
    have nd1 : (es1.toList.map keyE).Nodup := pk.nodup_iff.mpr (List.nodup_cons.mpr ⟨hnk, nd⟩)
    have m1 : ∀ i, (S i || decide (i = k)) = true ↔ i ∈ es1.toList.map keyE := fun i => by
      rw [Bool.or_eq_true, decide_eq_true_eq, hm i, pk.mem_iff, List.mem_cons]
      exact Or.comm
    have hsz : es1.size = n + 1 := by rw [← Array.length_toList, pc.length_eq, List.length_cons, Array.length_toList, hn]
    have hb1 : es1.size < scanBound := by rw [hsz]; exact room
    have hled : w.params.followText "set-order" = true ∨ t1.led = true := hl.imp id fun z => by rw [hl1]; exact z
    have fin : ∀ h', Heap.SameBut a s.heap h' → SetM w h' a (fun j => S j || decide (j = k)) es1.size → Q true { s with heap := h' } := fun h' sb r => by
      have q := hQ h' sb
      rw [hSk] at q
      rw [hsz] at r
      exact q r
    refine wpAny_bind (hgw _ ?_)
    split
    · refine wpAny_bind ?_
      rw [hashByValue_scannable 8 hsc]
      refine wpAny_pure ?_
      refine setM_add_tail ?_ ho hex hd g1 nd1 m1 hb1 ?_ ?_ ?_ ?_
      · intro b s₁ Q' q; cases b <;> first | exact wpAny_pure q | exact wpAny_rule q
      · first | (split <;> first | exact hf1 | exact SetTable.fits_plain_off hf1) | exact hf1
      · first | (split <;> exact hr1) | exact hr1
      · first | (split <;> exact hled) | exact hled
      · intro h' sb r; dsimp only; exact wpAny_pure (fin h' sb r)
    · refine wpAny_bind (wpAny_pure ?_)
      simp only [↓reduceIte]
      refine setM_add_tail ?_ ho hex hd g1 nd1 m1 hb1 hf1 hr1 hled ?_
      · intro b s₁ Q' q; cases b <;> first | exact wpAny_pure q | exact wpAny_rule q
      · intro h' sb r; dsimp only; exact wpAny_pure (fin h' sb r)

end
theorem setM_new_at {w : World} {h : Heap} {a : Addr} {ns : List Key} (ho : h.get? a = some { cls := .type "set", dict := none, data := .set #[] 0 (.fresh 0 0 (!w.params.followText "set-order")) }) : SetM w h a (fun j => decide (j ∈ ns.take 0)) 0 :=
  ⟨_, #[], 0, _, ho, ⟨rfl, rfl, rfl⟩, rfl, (fun e he => by simp at he), (by simp), (fun k => by simp), (by decide), (by rfl), rfl, List.Pairwise.nil, by
    show _ ∨ (!w.params.followText "set-order") = true
    cases w.params.followText "set-order"
    · exact .inr rfl
    · exact .inl rfl⟩
section
variable {P : Program} {w : World} {A : Around} {E : Value → Shared → Prop} {s : Shared}
theorem set_update_keys {I : Addr} {fp wr : List Addr} {G : Array GenState → Array GenState → Prop} {n : Nat} {Pv : Nat → Value → Prop} {St : Nat → Shared → Prop} {R : Result → Shared → Prop}
    (W : WalksS P w A.in1 I fp wr G n Pv St) (S : Addr) (hSf : S ∉ fp) (ns : List Key) (hn : n = ns.length) (hb : ns.length + 1 < scanBound) (hval : ∀ i v, Pv i v → ∃ k, ns[i]? = some k ∧ (mixKind P w).is k v = true) :
    ∀ (k i : Nat) (s : Shared), n - i = k → i ≤ n → St i s → (∃ c, c ≤ i ∧ SetM w s.heap S (fun j => decide (j ∈ ns.take i)) c) →
      (∀ s' c, Moved (S :: wr) G s s' → c ≤ n → SetM w s'.heap S (fun j => decide (j ∈ ns)) c → R (.ok (.ret .none)) s') →
      codeAny (model P w) A (.builtin "set.update.loop" ⟨[.ref S, .ref I], []⟩) R s := by
  have hSw : S ∉ wr := fun h => hSf (W.sub _ h)
  have hsub : ∀ b ∈ wr, b ∈ S :: wr := fun b hb => List.mem_cons_of_mem _ hb
  intro k
  induction k with
  | zero =>
    intro i s hk' hi hst ⟨c, hc, hS⟩ hR
    have hin : i = n := by omega
    subst hin
    refine codeAny_builtin F.entry_set_update_loop ?_
    rw [Around.under_plainId F.plain_set_update_loop _]
    show wpAny _ A.in1 (pyNext (.ref I) >>= _) _ _ s
    refine wpAny_bind (W.done s _ _ hst fun s' hm => ?_)
    show wpAny _ A.in1 (ret Value.none) _ _ s'
    have e : ns.take i = ns := List.take_of_length_le (by omega)
    rw [e] at hS
    exact wpAny_pure (hR s' c (hm.mono hsub) hc (hS.at fun o e => hm.heap S o hSw e))
  | succ k ih =>
    intro i s hk' hi hst ⟨c, hc, hS⟩ hR
    have hlt : i < n := by omega
    refine codeAny_builtin F.entry_set_update_loop ?_
    rw [Around.under_plainId F.plain_set_update_loop _]
    show wpAny _ A.in1 (pyNext (.ref I) >>= _) _ _ s
    refine wpAny_bind (W.item i s _ _ hlt hst fun v s' hP hst' hm => ?_)
    obtain ⟨z, hz, hv⟩ := hval i v hP
    have hS' : SetM w s'.heap S (fun j => decide (j ∈ ns.take i)) c := hS.at fun o e => hm.heap S o hSw e
    show wpAny _ A.in1 (holding [v] (setAdd S v) >>= _) _ _ s'
    refine wpAny_bind (wpAny_holding ?_)
    unfold setAdd
    refine wpAny_holding ?_
    refine wpAny_bind ((mixKind P w).pyHash hv ?_)
    refine setM_add_hashed (s := { s' with toks := s'.toks + 1 }) hv hS' (by omega) fun h' hsb hS2 => ?_
    have hS3 : SetM w h' S (fun j => decide (j ∈ ns.take (i + 1))) (if decide (z ∈ ns.take i) = true then c else c + 1) := hS2.congr fun j => by
      rw [List.take_add_one, hz]
      simp [List.mem_append]
    have hc3 : (if decide (z ∈ ns.take i) = true then c else c + 1) ≤ i + 1 := by
      split <;> omega
    refine wpAny_pure ⟨plainId_quiet F.plain_set_update_loop _, ih (i + 1) _ (by omega) hlt (W.frame _ s' _ _ hst' (Nat.le_succ _) fun b hb o e => ?_) ⟨_, hc3, hS3⟩ fun s'' c2 hm'' hc'' hS'' => ?_⟩
    · rw [hsb.2 b (fun h : b = S => hSf (by rw [← h]; exact hb))]; exact e
    · refine hR s'' c2 (Moved.trans W.gtrans ((hm.mono hsub).then_heap (Nat.le_succ _) fun b o hb e => ?_) hm'') hc'' hS''
      rw [hsb.2 b (fun h : b = S => hb (by rw [h]; exact List.mem_cons_self))]; exact e

/-- set(xs) -/
theorem call_set_keys {l : Addr} {items : Array Value} (ks : List Key) {Q : Value → Shared → Prop} (hh : A.handled = none) (hl : s.heap.IsList l items) (hisz : items.size = ks.length) (hval : ∀ (i : Nat) (v : Value), items[i]? = some v → ∃ k, ks[i]? = some k ∧ (mixKind P w).is k v = true)
    (hb : ks.length + 1 < scanBound)
    (h : ∀ (h' : Heap) (tk c : Nat), SetM w h' s.heap.objs.size (fun j => decide (j ∈ ks)) c → c ≤ ks.length → (∀ b o, s.heap.get? b = some o → h'.get? b = some o) → Q (.ref s.heap.objs.size) { s with heap := h', toks := tk }) :
    wpAny (model P w) A (call (.type "set") [.ref l]) Q E s := by
  obtain ⟨c, tl, hmro⟩ := F.called_set.mro
  have hmade := F.called_set.made
  have hsub := F.called_set.sub
  refine wpAny_call (codeAny_of_tree ?_)
  show wpAny _ _ (callAny (.type "set") _) _ _ _
  refine wpAny_pure ⟨Code.quiet_builtin _ (by decide +kernel), codeAny_builtin F.entry_type_call ?_⟩
  rw [Around.under_plain (weight_type_call_type "set" [.ref l] []) rfl]
  have h1 := F.called_set.notType
  have h2 := F.called_set.canCreate
  have hct := F.typeCall_set_1 (.ref l)
  repeat (any_goals (first | assumption | wp_step))

  refine codeAny_mono (code_set_led1 (.ref l) (E := E) (Q₁ := fun obj s₁ => obj = .ref s.heap.objs.size ∧ s₁ = { s with heap := s.heap.push { cls := .type "set", dict := none, data := .set #[] 0 (.fresh 0 0 (!w.params.followText "set-order")) } }) ⟨rfl, rfl⟩) fun r s₁ hr => ?_
  cases r with
  | error e => exact hr
  | ok fl =>
    cases fl with
    | ret obj =>
      obtain ⟨rfl, rfl⟩ := hr
      have hS : (s.heap.push { cls := .type "set", dict := none, data := .set #[] 0 (.fresh 0 0 (!w.params.followText "set-order")) }).get? s.heap.objs.size = some { cls := .type "set", dict := none, data := .set #[] 0 (.fresh 0 0 (!w.params.followText "set-order")) } := Heap.get?_push_size _ rfl
      have hT : Shared.TypeIs { s with heap := s.heap.push { cls := .type "set", dict := none, data := .set #[] 0 (.fresh 0 0 (!w.params.followText "set-order")) } } (.ref s.heap.objs.size) "set" := ⟨_, hS, rfl⟩
      have hli := F.called_set.init.lookup
      have hbi := F.called_set.init.bind (.ref s.heap.objs.size)
      repeat (any_goals (first | assumption | wp_step))

      refine codeAny_mono (codeAny_call_builtin (R := wants (fun r s₂ => r = .none ∧ ∃ h' tk c, s₂ = { s with heap := h', toks := tk } ∧ SetM w h' s.heap.objs.size (fun j => decide (j ∈ ks)) c ∧ c ≤ ks.length ∧
          (∀ b o, s.heap.get? b = some o → h'.get? b = some o)) E) F.called_set.init.plain F.entry_set_init (check_set_init_1 hT ?_)) fun r₂ s₂ hr₂ => ?_
      · obtain ⟨ol, hol, hcl, nl, hdl⟩ := hl
        obtain ⟨ocls, odict, odata, oslots⟩ := ol
        simp only at hcl hdl
        subst hcl; subst hdl
        have hol' : (s.heap.push { cls := .type "set", dict := none, data := .set #[] 0 (.fresh 0 0 (!w.params.followText "set-order")) }).get? l = some { cls := .type "list", dict := odict, data := .seq items nl, slots := oslots } := Heap.get?_push_of_some _ hol
        have hsls := F.sub_list_set
        have hslf := F.sub_list_frozenset
        have hne : (Value.type "list" == Value.type "dict") = false := by decide
        have hl1 : (s.heap.push { cls := .type "set", dict := none, data := .set #[] 0 (.fresh 0 0 (!w.params.followText "set-order")) }).IsList l items := ⟨_, hol', rfl, nl, rfl⟩
        unfold Builtin.«set.__init__» noKeywords Builtin.Frozenset.updateFrom
        generalize hPI : pyIter = PI
        wp_walk
        subst hPI

        refine wpAny_pyIter_list hl1 ?_
        refine wpAny_bind (wpAny_runValue ?_)
        have hlS : l < s.heap.objs.size := Heap.lt_size hol
        have hh3 : A.in1.in1.in1.handled = none := by simp [hh]
        have hz1 : (s.heap.push { cls := .type "set", dict := none, data := .set #[] 0 (.fresh 0 0 (!w.params.followText "set-order")) }).objs.size = s.heap.objs.size + 1 := Heap.size_push ..
        have hneI : l ≠ (s.heap.push { cls := .type "set", dict := none, data := .set #[] 0 (.fresh 0 0 (!w.params.followText "set-order")) }).objs.size := by
          rw [Heap.size_push]; exact Nat.ne_of_lt (Nat.lt_succ_of_lt hlS)
        have hSf : s.heap.objs.size ∉ [(s.heap.push { cls := .type "set", dict := none, data := .set #[] 0 (.fresh 0 0 (!w.params.followText "set-order")) }).objs.size, l] := by
          rw [Heap.size_push]; simp only [List.mem_cons, List.mem_singleton, List.not_mem_nil, or_false, not_or]
          exact ⟨Nat.ne_of_lt (Nat.lt_succ_self _), Nat.ne_of_gt hlS⟩
        have none_of : ∀ b, s.heap.objs.size ≤ b → s.heap.get? b = none := fun b hb => by
          cases q : s.heap.get? b with
          | none => rfl
          | some o => exact absurd (Nat.lt_of_lt_of_le (Heap.lt_size q) hb) (Nat.lt_irrefl _)
        refine set_update_keys ((Walks.list hh3 _ l hneI items).toS) s.heap.objs.size hSf ks hisz hb hval (items.size - 0) 0 _ (by omega) (Nat.zero_le _)
          ⟨⟨_, Heap.get?_push_size _ rfl, rfl, rfl⟩, (hl1.push _)⟩ ?hS0 ?hR
        case hS0 =>
          have hget : ((s.heap.push { cls := .type "set", dict := none, data := .set #[] 0 (.fresh 0 0 (!w.params.followText "set-order")) }).push { cls := .type "list_iterator", data := .fields #[.ref l, .int 0 0] }).get? s.heap.objs.size
              = some { cls := .type "set", dict := none, data := .set #[] 0 (.fresh 0 0 (!w.params.followText "set-order")) } := Heap.get?_push_of_some _ hS
          exact ⟨0, Nat.le_refl _, setM_new_at hget⟩
        case hR =>
          intro s' c hm hc hS'
          have hkp : ∀ b o, s.heap.get? b = some o → s'.heap.get? b = some o := fun b o e => hm.heap b o (fun hb => by
            rcases List.mem_cons.mp hb with z | z
            · rw [z, none_of _ (Nat.le_refl _)] at e; cases e
            · rw [List.mem_singleton.mp z, none_of _ (by rw [Heap.size_push]; exact Nat.le_succ _)] at e; cases e) (Heap.get?_push_of_some _ (Heap.get?_push_of_some _ e))
          obtain ⟨h', g2, d', tk', os'⟩ := s'
          have eg : g2 = s.gens := hm.gens
          have ed : d' = s.drawn := hm.drawn
          have eo : os' = s.os := hm.os
          subst eg; subst ed; subst eo
          show wpAny _ _ _ _ _ _
          refine wpAny_pure ?_
          show wpAny _ _ (ret Value.none) _ _ _
          exact wpAny_pure ⟨rfl, h', tk', c, rfl, hS', by rw [← hisz]; exact hc, hkp⟩

      · cases r₂ with
        | error e => exact hr₂
        | ok fl₂ =>
          cases fl₂ with
          | ret r =>
            obtain ⟨rfl, h', tk, c, rfl, hS', g', hk'⟩ := hr₂
            repeat (any_goals (first | assumption | wp_step))
            exact h _ _ _ hS' g' hk'
          | _ => exact hr₂.elim
    | _ => exact hr.elim

end
end SxKs

/-! SxSetR: sorted(set(xs)) of a list of ints, of fewer than 64 texts. -/
namespace Sx
open PySem L2
/-! ### strictly rising lists -/
theorem rise_eq {τ : Type} {lt : τ → τ → Prop} (irr : ∀ x, ¬ lt x x) (asy : ∀ x y, lt x y → ¬ lt y x) : ∀ {xs ys : List τ}, xs.Pairwise lt → ys.Pairwise lt → (∀ k, k ∈ xs ↔ k ∈ ys) → xs = ys
  | [], [], _, _, _ => rfl
  | [], y :: ys, _, _, h => absurd ((h y).mpr List.mem_cons_self) (by simp)
  | x :: xs, [], _, _, h => absurd ((h x).mp List.mem_cons_self) (by simp)
  | x :: xs, y :: ys, h1, h2, h => by
    rw [List.pairwise_cons] at h1 h2
    have e : x = y := by
      rcases List.mem_cons.mp ((h x).mp List.mem_cons_self) with a | a
      · exact a
      · rcases List.mem_cons.mp ((h y).mpr List.mem_cons_self) with b | b
        · exact b.symm
        · exact absurd (h2.1 x a) (asy _ _ (h1.1 y b))
    subst e
    rw [rise_eq irr asy h1.2 h2.2 fun k => ⟨fun hk => ?_, fun hk => ?_⟩]
    · rcases List.mem_cons.mp ((h k).mp (List.mem_cons_of_mem _ hk)) with rfl | z
      · exact absurd (h1.1 _ hk) (irr _)
      · exact z
    · rcases List.mem_cons.mp ((h k).mpr (List.mem_cons_of_mem _ hk)) with rfl | z
      · exact absurd (h2.1 _ hk) (irr _)
      · exact z
/-- each once, rising -/
def riseI : List Int → List Int
  | [] => []
  | n :: ns => put n (riseI ns)
where put (n : Int) : List Int → List Int
  | [] => [n]
  | m :: ms => if n < m then n :: m :: ms else if n = m then m :: ms else m :: put n ms
theorem put_mem {n x : Int} : ∀ {ms : List Int}, x ∈ riseI.put n ms ↔ x = n ∨ x ∈ ms
  | [] => by simp [riseI.put]
  | m :: ms => by
    unfold riseI.put
    split
    · simp
    · split
      · rename_i h; subst h; simp
      · simp only [List.mem_cons, put_mem (ms := ms)]
        constructor
        · rintro (h | h | h) <;> simp [h]
        · rintro (h | h | h) <;> simp [h]
theorem put_rise {n : Int} : ∀ {ms : List Int}, ms.Pairwise (· < ·) → (riseI.put n ms).Pairwise (· < ·)
  | [], _ => by simp [riseI.put]
  | m :: ms, h => by
    have h' := List.pairwise_cons.mp h
    unfold riseI.put
    split
    · rename_i hn
      refine List.pairwise_cons.mpr ⟨fun x hx => ?_, h⟩
      rcases List.mem_cons.mp hx with rfl | hx
      · exact hn
      · exact Int.lt_trans hn (h'.1 x hx)
    · split
      · exact h
      · refine List.pairwise_cons.mpr ⟨fun x hx => ?_, put_rise h'.2⟩
        rcases put_mem.mp hx with rfl | hx
        · omega
        · exact h'.1 x hx
theorem riseI_mem {x : Int} : ∀ {ns : List Int}, x ∈ riseI ns ↔ x ∈ ns
  | [] => by simp [riseI]
  | n :: ns => by simp only [riseI, put_mem, riseI_mem (ns := ns), List.mem_cons]
theorem riseI_rise : ∀ ns : List Int, (riseI ns).Pairwise (· < ·)
  | [] => .nil
  | n :: ns => put_rise (riseI_rise ns)
theorem riseI_eq {ns ys : List Int} (h : ys.Pairwise (· < ·)) (m : ∀ k, k ∈ ys ↔ k ∈ ns) : ys = riseI ns :=
  rise_eq (fun x => Int.lt_irrefl x) (fun x y h => by omega) h (riseI_rise ns) fun k => (m k).trans riseI_mem.symm
/-! texts -/
abbrev ltS (x y : Str) : Prop := x.cps.toList < y.cps.toList
theorem ltS_irr (x : Str) : ¬ ltS x x := List.lt_irrefl _
theorem ltS_asy (x y : Str) (h : ltS x y) : ¬ ltS y x := fun g => List.lt_irrefl _ (List.lt_trans h g)
theorem str_cps {x y : Str} (h : x.cps.toList = y.cps.toList) : x = y := by
  obtain ⟨⟨a⟩⟩ := x
  obtain ⟨⟨b⟩⟩ := y
  simp at h
  rw [h]
theorem ltS_tri {x y : Str} (h : ¬ ltS y x) (n : x ≠ y) : ltS x y := by
  rcases Decidable.em (x.cps.toList < y.cps.toList) with h1 | h1
  · exact h1
  · exact absurd (str_cps (List.le_antisymm (List.not_lt.mp h) (List.not_lt.mp h1))) n
def riseS : List Str → List Str
  | [] => []
  | n :: ns => put n (riseS ns)
where put (n : Str) : List Str → List Str
  | [] => [n]
  | m :: ms => if ltS n m then n :: m :: ms else if n = m then m :: ms else m :: put n ms
theorem putS_mem {n x : Str} : ∀ {ms : List Str}, x ∈ riseS.put n ms ↔ x = n ∨ x ∈ ms
  | [] => by simp [riseS.put]
  | m :: ms => by
    unfold riseS.put
    split
    · simp
    · split
      · rename_i h; subst h; simp
      · simp only [List.mem_cons, putS_mem (ms := ms)]
        constructor
        · rintro (h | h | h) <;> simp [h]
        · rintro (h | h | h) <;> simp [h]
theorem putS_rise {n : Str} : ∀ {ms : List Str}, ms.Pairwise ltS → (riseS.put n ms).Pairwise ltS
  | [], _ => by simp [riseS.put]
  | m :: ms, h => by
    have h' := List.pairwise_cons.mp h
    unfold riseS.put
    split
    · rename_i hn
      refine List.pairwise_cons.mpr ⟨fun x hx => ?_, h⟩
      rcases List.mem_cons.mp hx with rfl | hx
      · exact hn
      · exact List.lt_trans hn (h'.1 x hx)
    · rename_i hn
      split
      · exact h
      · rename_i hne
        refine List.pairwise_cons.mpr ⟨fun x hx => ?_, putS_rise h'.2⟩
        rcases putS_mem.mp hx with rfl | hx
        · exact ltS_tri hn fun z => hne z.symm
        · exact h'.1 x hx
theorem riseS_mem {x : Str} : ∀ {ns : List Str}, x ∈ riseS ns ↔ x ∈ ns
  | [] => by simp [riseS]
  | n :: ns => by simp only [riseS, putS_mem, riseS_mem (ns := ns), List.mem_cons]
theorem riseS_rise : ∀ ns : List Str, (riseS ns).Pairwise ltS
  | [] => .nil
  | n :: ns => putS_rise (riseS_rise ns)
theorem riseS_eq {ns ys : List Str} (h : ys.Pairwise ltS) (m : ∀ k, k ∈ ys ↔ k ∈ ns) : ys = riseS ns :=
  rise_eq ltS_irr ltS_asy h (riseS_rise ns) fun k => (m k).trans riseS_mem.symm
theorem rising_pair : ∀ {l : List Str} {p : Str}, PyProof.Rows.risingS p l = true → (p :: l).Nodup → (p :: l).Pairwise ltS
  | [], p, _, _ => by simp
  | x :: r, p, h, nd => by
    simp only [PyProof.Rows.risingS, Bool.and_eq_true, Bool.not_eq_true'] at h
    have nd' := List.nodup_cons.mp nd
    have ih := rising_pair h.2 nd'.2
    have hx : ltS p x := ltS_tri (fun z => by
      have := h.1
      rw [PyProof.Rows.ltCps_eq, decide_eq_false_iff_not] at this
      exact this z) fun e => nd'.1 (e ▸ List.mem_cons_self)
    refine List.pairwise_cons.mpr ⟨fun y hy => ?_, ih⟩
    rcases List.mem_cons.mp hy with rfl | hy
    · exact hx
    · exact List.lt_trans hx ((List.pairwise_cons.mp ih).1 y hy)
theorem sorted_pair {l : List Str} (h : PyProof.Rows.sortedS l = true) (nd : l.Nodup) : l.Pairwise ltS := by
  cases l with
  | nil => exact .nil
  | cons x r => exact rising_pair h nd
end Sx
namespace SxKs
open PySem PySem.Spec PyProof.Rows L2
section
variable {P : Program} {w : World} {A : Around} {E : Value → Shared → Prop} {s : Shared} {a : Addr} {n : Nat}
theorem keys_ints : ∀ {vs : List Value}, (∀ v ∈ vs, ∃ i t, v = Value.int i t) → IntsAre vs (vs.map SrtO.iv) := SrtO.ints_iv
theorem sorted_setI {ns : List Int} {Q : Value → Shared → Prop} (R : SetM w s.heap a (fun j => decide (j ∈ ns.map (Sum.inl : Int → Key))) n) (hh : A.handled = none)
    (hQ : ∀ s' p (out : Array Value) (c : Nat), (∀ b o, s.heap.get? b = some o → s'.heap.get? b = some o) → s'.gens = s.gens → s'.os = s.os → s.heap.objs.size ≤ p →
      s'.heap.get? p = some (seqObj "list" out c) → IntsAre out.toList (Sx.riseI ns) → Q (.ref p) s') :
    wpAny (model P w) A (call (.builtin "sorted") [.ref a]) Q E s := by
  obtain ⟨o, es, ep, t, ho, hex, hd, g, nd, hm, hb, hf, hn, hr, hl⟩ := R
  refine Calls.call_function_entry kind_sorted plain_sorted entry_sorted (args_sorted1 _) ?_
  unfold Builtin.«sorted»
  refine wpAny_bind (m := checkCount "sorted" 1 1 _) (wpAny_pure ?_)
  refine wpAny_bind (collect_set (A := A.in1) hh ⟨o, ho, hex.1, hd⟩ hf hb hr hl fun s1 vs k1 hz g1 o1 pm => ?_)
  have hkey : ∀ e ∈ es.toList, ∃ i t, e.2 = Value.int i t := fun e he => by
    have z := (hm (keyE e)).mpr (List.mem_map.mpr ⟨e, he, rfl⟩)
    rw [decide_eq_true_eq] at z
    obtain ⟨i, _, hi⟩ := List.mem_map.mp z
    obtain ⟨k, h1, _⟩ := g e he
    rcases keyIs_shape h1 with ⟨j, u, rfl, q⟩ | ⟨x, u, rfl, q⟩
    · exact ⟨j, u, q⟩
    · have : keyE e = Sum.inr x := by unfold keyE; rw [q]; rfl
      rw [this] at hi; cases hi
  have hvi : ∀ v ∈ vs, ∃ i t, v = Value.int i t := fun v hv => by
    obtain ⟨e, he, q⟩ := List.mem_map.mp (pm.mem_iff.mp hv)
    obtain ⟨i, t, h⟩ := hkey e he
    exact ⟨i, t, q ▸ h⟩
  have hI := SrtO.ints_iv hvi
  have pk : (vs.map SrtO.iv).Perm (es.toList.map fun e => SrtO.iv e.2) := by
    have q := pm.map SrtO.iv
    rw [List.map_map] at q
    exact q
  have ek : es.toList.map keyE = (es.toList.map fun e => SrtO.iv e.2).map Sum.inl := by
    rw [List.map_map]
    refine List.map_congr_left fun e he => ?_
    obtain ⟨i, t, h⟩ := hkey e he
    simp only [Function.comp_apply, keyE, h, keyV, SrtO.iv]
  have ndI : (es.toList.map fun e => SrtO.iv e.2).Nodup := by
    rw [ek] at nd
    exact List.Pairwise.imp (fun h e => h (congrArg Sum.inl e)) (List.pairwise_map.mp nd)
  have memI : ∀ i, i ∈ (es.toList.map fun e => SrtO.iv e.2) ↔ i ∈ ns := fun i => by
    have z := hm (Sum.inl i)
    rw [decide_eq_true_eq, ek] at z
    have inj : ∀ l : List Int, (Sum.inl i : Key) ∈ l.map Sum.inl ↔ i ∈ l := fun l => ⟨fun h => by
      obtain ⟨j, hj, e⟩ := List.mem_map.mp h
      cases e; exact hj, fun h => List.mem_map.mpr ⟨i, h, rfl⟩⟩
    rw [inj, inj] at z
    exact z.symm
  have hvl : vs.length ≤ sizeLine := by
    rw [pm.length_eq, List.length_map, Array.length_toList, sizeLine_eq]
    unfold scanBound at hb
    omega
  refine wpAny_bind (wpAny_newList ?_ hvl)
  have hoL : (s1.heap.push (seqObj "list" vs.toArray 0)).get? s1.heap.objs.size = some (seqObj "list" vs.toArray 0) := Heap.get?_push_size _ rfl
  show wpAny _ _ _ _ _ { s1 with heap := s1.heap.push (seqObj "list" vs.toArray 0) }
  refine wpAny_bind (wpAny_holding (wpAny_call_entry slot_list_sort ⟨_, hoL, rfl⟩ entry_list_sort
    (SrtO.list_sort_ord (s := { s1 with heap := s1.heap.push (seqObj "list" vs.toArray 0) }) SrtO.swo_int hoL hvl (fun h2 => SrtO.ints_sortable hI h2) fun out h1 h2 => ⟨_, rfl, ?_⟩) (args_list_sort _)))
  obtain ⟨q1, q2, q3⟩ := SrtO.ints_out hI h1 h2
  have q4 : (out.map SrtO.iv).Perm (es.toList.map fun e => SrtO.iv e.2) := q2.trans pk
  have e : out.map SrtO.iv = Sx.riseI ns := Sx.riseI_eq (lt_of_le_nodup _ q3 (q4.nodup_iff.mpr ndI)) fun k => q4.mem_iff.trans (memI k)
  rw [e] at q1
  obtain ⟨c, hc⟩ := sortedHeap_at (vs := vs) (out := out.toArray) hoL
  refine wpAny_pure ⟨_, rfl, hQ _ s1.heap.objs.size out.toArray c (fun b u eb => ?_) g1 o1 hz hc (by simpa using q1)⟩
  have q := k1 b u eb
  have hlt := Heap.lt_size q
  show (sortedHeap (s1.heap.push (seqObj "list" vs.toArray 0)) s1.heap.objs.size vs out.toArray).get? b = some u
  rw [sortedHeap_old (Nat.ne_of_lt hlt) (by rw [size_push']; exact Nat.lt_succ_of_lt hlt)]
  exact Heap.get?_push_of_some _ q
def sv : Value → Str
  | .str x _ => x
  | _ => Str.empty
theorem strs_sv : ∀ {vs : List Value}, (∀ v ∈ vs, ∃ i t, v = Value.str i t) → StrsAre vs (vs.map sv)
  | [], _ => .nil
  | v :: vs, h => by
    obtain ⟨i, t, e⟩ := h v List.mem_cons_self
    subst e
    exact .cons i t (strs_sv fun u hu => h u (List.mem_cons_of_mem _ hu))
theorem sorted_setS {ns : List Str} {Q : Value → Shared → Prop} (R : SetM w s.heap a (fun j => decide (j ∈ ns.map (Sum.inr : Str → Key))) n) (hh : A.handled = none) (h64 : n < 64)
    (hQ : ∀ s' p (out : Array Value) (c : Nat), (∀ b o, s.heap.get? b = some o → s'.heap.get? b = some o) → s'.gens = s.gens → s'.os = s.os → s.heap.objs.size ≤ p →
      s'.heap.get? p = some (seqObj "list" out c) → StrsAre out.toList (Sx.riseS ns) → Q (.ref p) s') :
    wpAny (model P w) A (call (.builtin "sorted") [.ref a]) Q E s := by
  obtain ⟨o, es, ep, t, ho, hex, hd, g, nd, hm, hb, hf, hn, hr, hl⟩ := R
  refine Calls.call_function_entry kind_sorted plain_sorted entry_sorted (args_sorted1 _) ?_
  unfold Builtin.«sorted»
  refine wpAny_bind (m := checkCount "sorted" 1 1 _) (wpAny_pure ?_)
  refine wpAny_bind (collect_set (A := A.in1) hh ⟨o, ho, hex.1, hd⟩ hf hb hr hl fun s1 vs k1 hz g1 o1 pm => ?_)
  have hkey : ∀ e ∈ es.toList, ∃ i t, e.2 = Value.str i t := fun e he => by
    have z := (hm (keyE e)).mpr (List.mem_map.mpr ⟨e, he, rfl⟩)
    rw [decide_eq_true_eq] at z
    obtain ⟨i, _, hi⟩ := List.mem_map.mp z
    obtain ⟨k, h1, _⟩ := g e he
    rcases keyIs_shape h1 with ⟨j, u, rfl, q⟩ | ⟨x, u, rfl, q⟩
    · have : keyE e = Sum.inl j := by unfold keyE; rw [q]; rfl
      rw [this] at hi; cases hi
    · exact ⟨x, u, q⟩
  have hvi : ∀ v ∈ vs, ∃ i t, v = Value.str i t := fun v hv => by
    obtain ⟨e, he, q⟩ := List.mem_map.mp (pm.mem_iff.mp hv)
    obtain ⟨i, t, h⟩ := hkey e he
    exact ⟨i, t, q ▸ h⟩
  have hI := strs_sv hvi
  have pk : (vs.map sv).Perm (es.toList.map fun e => sv e.2) := by
    have q := pm.map sv
    rw [List.map_map] at q
    exact q
  have ek : es.toList.map keyE = (es.toList.map fun e => sv e.2).map Sum.inr := by
    rw [List.map_map]
    refine List.map_congr_left fun e he => ?_
    obtain ⟨i, t, h⟩ := hkey e he
    simp only [Function.comp_apply, keyE, h, keyV, sv]
  have ndI : (es.toList.map fun e => sv e.2).Nodup := by
    rw [ek] at nd
    exact List.Pairwise.imp (fun h e => h (congrArg Sum.inr e)) (List.pairwise_map.mp nd)
  have memI : ∀ i, i ∈ (es.toList.map fun e => sv e.2) ↔ i ∈ ns := fun i => by
    have z := hm (Sum.inr i)
    rw [decide_eq_true_eq, ek] at z
    have inj : ∀ l : List Str, (Sum.inr i : Key) ∈ l.map Sum.inr ↔ i ∈ l := fun l => ⟨fun h => by
      obtain ⟨j, hj, e⟩ := List.mem_map.mp h
      cases e; exact hj, fun h => List.mem_map.mpr ⟨i, h, rfl⟩⟩
    rw [inj, inj] at z
    exact z.symm
  have hv64 : vs.length < 64 := by rw [pm.length_eq, List.length_map, Array.length_toList, hn]; exact h64
  have hvl : vs.length ≤ sizeLine := by rw [sizeLine_eq]; omega
  refine wpAny_bind (wpAny_newList ?_ hvl)
  have hoL : (s1.heap.push (seqObj "list" vs.toArray 0)).get? s1.heap.objs.size = some (seqObj "list" vs.toArray 0) := Heap.get?_push_size _ rfl
  show wpAny _ _ _ _ _ { s1 with heap := s1.heap.push (seqObj "list" vs.toArray 0) }
  refine wpAny_bind (wpAny_holding (wpAny_call_entry slot_list_sort ⟨_, hoL, rfl⟩ entry_list_sort
    (list_sort_treeK strKind_oneLt (s := { s1 with heap := s1.heap.push (seqObj "list" vs.toArray 0) }) hoL hI.keysOf (fun v₁ v₂ rest e => keyKind_strs (by rw [← e]; exact hI)) hv64 fun st' hp hs => ⟨_, rfl, ?_⟩) (args_list_sort _)))
  obtain ⟨ys, q1, q2, q3⟩ := sorted_out_str hI hp hs
  have q4 : ys.Perm (es.toList.map fun e => sv e.2) := q2.trans pk
  have e : ys = Sx.riseS ns := Sx.riseS_eq (Sx.sorted_pair q3 (q4.nodup_iff.mpr ndI)) fun k => q4.mem_iff.trans (memI k)
  rw [e] at q1
  obtain ⟨c, hc⟩ := sortedHeap_at (vs := vs) (out := (arrOf st').map (·.2)) hoL
  refine wpAny_pure ⟨_, rfl, hQ _ s1.heap.objs.size ((arrOf st').map (·.2)) c (fun b u eb => ?_) g1 o1 hz hc q1⟩
  have q := k1 b u eb
  have hlt := Heap.lt_size q
  show (sortedHeap (s1.heap.push (seqObj "list" vs.toArray 0)) s1.heap.objs.size vs _).get? b = some u
  rw [sortedHeap_old (Nat.ne_of_lt hlt) (by rw [size_push']; exact Nat.lt_succ_of_lt hlt)]
  exact Heap.get?_push_of_some _ q
end
end SxKs
namespace Sx
open PySem PySem.Spec PyProof.Rows L2 SxKs
section
variable {X : Cx} {Z : Wd} {W : WX} {a : Expr} {f : SE} {p p2 q pos : Pos}
theorem put_len (n : Int) : ∀ ms : List Int, (riseI.put n ms).length ≤ ms.length + 1
  | [] => by simp [riseI.put]
  | m :: ms => by
    have := put_len n ms
    unfold riseI.put
    split
    · simp
    · split <;> simp <;> omega
theorem riseI_len : ∀ ns : List Int, (riseI ns).length ≤ ns.length
  | [] => Nat.le_refl _
  | n :: ns => by
    have h1 := put_len n (riseI ns)
    have h2 := riseI_len ns
    simp only [riseI, List.length_cons]
    omega
theorem putS_len (n : Str) : ∀ ms : List Str, (riseS.put n ms).length ≤ ms.length + 1
  | [] => by simp [riseS.put]
  | m :: ms => by
    have := putS_len n ms
    unfold riseS.put
    split
    · simp
    · split <;> simp <;> omega
theorem riseS_len : ∀ ns : List Str, (riseS ns).length ≤ ns.length
  | [] => Nat.le_refl _
  | n :: ns => by
    have h1 := putS_len n (riseS ns)
    have h2 := riseS_len ns
    simp only [riseS, List.length_cons]
    omega
/-- the state behind a call that laid a list -/
theorem laid_list {X : Cx} {pins : List (Addr × Obj)} {σ : L2.St} {H : Hp} {s s' : Shared} {p : Addr} {out : Array Value} {c : Nat} {xs : List V} {Q : VK} (I : Inv X pins σ H s) (k : ∀ b o, s.heap.get? b = some o → s'.heap.get? b = some o) (g : s'.gens = s.gens) (o : s'.os = s.os)
    (hp : s.heap.objs.size ≤ p) (hg : s'.heap.get? p = some (seqObj "list" out c)) (hl : xs.length ≤ sizeLine) (hv : Vals xs out.toList) (q : ∀ p, H p = none → Q (.ref p) (upd H p (.lst xs))) : EP X pins σ Q (.ref p) s' := by
  have hn : H p = none := I.hok.fresh hp
  have J : Inv X pins σ (upd H p (.lst xs)) { s with heap := s'.heap, gens := s'.gens, drawn := s'.drawn, toks := s'.toks } :=
    I.call (ch := []) (Un.laid k hp hn) (I.hok.laid k hp ⟨hl, out.toList, c, hv, hg⟩) (by rw [g]; exact I.bare) (fun _ z => nomatch z)
  have e : s' = { s with heap := s'.heap, gens := s'.gens, drawn := s'.drawn, toks := s'.toks } := by
    cases s'
    cases s
    cases o
    rfl
  rw [e]
  exact ⟨.ref p, _, J, rfl, q p hn⟩
/-- sorted(set(xs)): a list of ints, of texts -/
def riseD (ds : List D) : Option (List D) := match intsD ds with
  | some ns => if ns.length + 1 < 4096 then some ((riseI ns).map .int) else none
  | none => match strsD ds with
    | some xs => if xs.length < 64 then some ((riseS xs).map .str) else none
    | none => none
def sSortSet (f : SE) : SE := fun ρ μ => opd (f ρ μ) fun v μ1 => match rdL μ1 v with
  | some ds => match riseD ds with
    | some es => .ok (.new (.lst es)) μ1
    | none => .stuck
  | none => .stuck
theorem rpL_strs {H : Hp} {F : Addr → Prop} : ∀ ns : List Str, RpL H F (ns.map V.str) (ns.map D.str)
  | [] => .nil
  | n :: ns => .cons (.str n) (rpL_strs ns)
theorem int_is {P : Program} {w : World} {i : Int} {u : Value} (r : RelV (.int i) u) : (mixKind P w).is (Sum.inl i) u = true := kV_is (k := Sum.inl i) r
theorem str_is {P : Program} {w : World} {i : Str} {u : Value} (r : RelV (.str i) u) : (mixKind P w).is (Sum.inr i) u = true := kV_is (k := Sum.inr i) r
theorem vals_get {τ : Type} {mk : τ → V} : ∀ {xs : List τ} {us : List Value}, Vals (xs.map mk) us → ∀ (i : Nat) (v : Value), us[i]? = some v → ∃ x, xs[i]? = some x ∧ RelV (mk x) v
  | [], _, r, i, v, h => by cases r; simp at h
  | x :: xs, _, r, i, v, h => by
    cases r with
    | cons r t =>
      cases i with
      | zero => simp at h; subst h; exact ⟨x, rfl, r⟩
      | succ i => simp at h; simpa using vals_get t i v h
theorem d_sortSet (hc : X.calm = true) (hg : Gl X "sorted") (hm : X.mg "sorted" = none) (hg2 : Gl X "set") (hm2 : X.mg "set" = none) (ha : PE X a (tD Z W f))
    (na : starEach [a] X.env = (false, eval a X.env) :: starEach [] X.env := by rfl) (nb : starEach [.Call (.Name "set" p2) [a] [] q] X.env = (false, eval (.Call (.Name "set" p2) [a] [] q) X.env) :: starEach [] X.env := by rfl) :
    PE X (.Call (.Name "sorted" p) [.Call (.Name "set" p2) [a] [] q] [] pos) (tD Z W (sSortSet f)) := by
  let t : TE := fun σ H Q => (tD Z W f) σ H fun x H1 => ∃ (l : Addr) (xs : List V), x = .ref l ∧ SqL X.K H1 l xs ∧ ((∃ ns : List Int, xs = ns.map V.int ∧ ns.length + 1 < 4096 ∧ ∀ p, H1 p = none → Q (.ref p) (upd H1 p (.lst ((riseI ns).map V.int)))) ∨
    (∃ ns : List Str, xs = ns.map V.str ∧ ns.length < 64 ∧ ∀ p, H1 p = none → Q (.ref p) (upd H1 p (.lst ((riseS ns).map V.str)))))
  have base : PE X (.Call (.Name "sorted" p) [.Call (.Name "set" p2) [a] [] q] [] pos) t := by
    refine ⟨fun pins s σ H Q I h => ?_⟩
    refine Call_ (ld_blt I hg hm PyProof.Rows.boot_sorted ?_)
    refine PyProof.Rows.callWith_builtin1 (PyProof.Rows.args_cons ?_ nb) nb rfl
    refine Call_ (ld_blt I hg2 hm2 PyProof.Rows.boot_set ?_)
    refine PyProof.Rows.callWith_type1 (PyProof.Rows.args_cons (thn (ha.run pins s σ H _ I h) fun v s1 ⟨x, H1, I1, r1, q1⟩ => PyProof.Rows.args_nil ?_) na) na rfl
    obtain ⟨l, xs, rfl, hq, q1⟩ := q1
    cases r1
    obtain ⟨its, r, pl, hz⟩ := I1.list hq
    have big := I1.big
    rcases q1 with ⟨ns, rfl, hn, q1⟩ | ⟨ns, rfl, hn, q1⟩
    · have hlen : its.toArray.size = (ns.map (Sum.inl : Int → Key)).length := by rw [List.size_toArray, ← r.length, List.length_map, List.length_map]
      refine call_set_keys (P := X.prog) (w := X.w) (ns.map Sum.inl) (I1.ok.hd hc) pl.isList hlen (fun i v hv => ?_) (by rw [List.length_map]; unfold scanBound; omega) fun h' tk c hS hcl hk => ?_
      · obtain ⟨n, e1, e2⟩ := vals_get r i v (by simpa using hv)
        exact ⟨Sum.inl n, by rw [List.getElem?_map, e1]; rfl, int_is e2⟩
      refine PyProof.Rows.args_nil ?_
      have I2 : Inv X pins σ H1 { s1 with heap := h', toks := tk } := I1.kept hk
      refine sorted_setI (s := { s1 with heap := h', toks := tk }) hS (I1.ok.hd hc) fun s' p' out cc hk' hg' ho' hz' hp' hI => ?_
      have hl2 : ((riseI ns).map V.int).length ≤ sizeLine := by
        have := riseI_len ns
        rw [List.length_map, sizeLine_eq]; omega
      exact laid_list I2 hk' hg' ho' hz' hp' hl2 (vals_of_ints hI) q1
    · have hlen : its.toArray.size = (ns.map (Sum.inr : Str → Key)).length := by rw [List.size_toArray, ← r.length, List.length_map, List.length_map]
      refine call_set_keys (P := X.prog) (w := X.w) (ns.map Sum.inr) (I1.ok.hd hc) pl.isList hlen (fun i v hv => ?_) (by rw [List.length_map]; unfold scanBound; omega) fun h' tk c hS hcl hk => ?_
      · obtain ⟨n, e1, e2⟩ := vals_get r i v (by simpa using hv)
        exact ⟨Sum.inr n, by rw [List.getElem?_map, e1]; rfl, str_is e2⟩
      refine PyProof.Rows.args_nil ?_
      have I2 : Inv X pins σ H1 { s1 with heap := h', toks := tk } := I1.kept hk
      rw [List.length_map] at hcl
      refine sorted_setS (s := { s1 with heap := h', toks := tk }) hS (I1.ok.hd hc) (by omega) fun s' p' out cc hk' hg' ho' hz' hp' hI => ?_
      have hl2 : ((riseS ns).map V.str).length ≤ sizeLine := by
        have := riseS_len ns
        rw [List.length_map, sizeLine_eq]; omega
      exact laid_list I2 hk' hg' ho' hz' hp' hl2 (vals_of_strs hI) q1
  refine PEimp base ?_
  rintro σ H Q ⟨G, α, ρ, μ, S, E, w⟩
  refine ⟨G, α, ρ, μ, S, E, wE.opd w fun x H1 α1 μ1 v p1 S1 r1 w1 => ?_⟩
  cases h1 : rdL μ1 v with
  | none => simp only [h1] at w1; exact w1.elim
  | some ds =>
    simp only [h1] at w1
    obtain ⟨pp, xs, rfl, e2, e3⟩ := rdL_ok S1 r1 h1
    unfold riseD at w1
    cases h2 : intsD ds with
    | some ns =>
      simp only [h2] at w1
      by_cases hn : ns.length + 1 < 4096
      · simp only [if_pos hn] at w1
        rw [intsD_ok h2 e3] at e2
        exact ⟨pp, _, rfl, .inl e2, .inl ⟨ns, rfl, hn, fun l hl => w1.lst S1 (rpL_ints _) hl⟩⟩
      · simp only [if_neg hn] at w1
        exact w1.elim
    | none =>
      simp only [h2] at w1
      cases h3 : strsD ds with
      | none => simp only [h3] at w1; exact w1.elim
      | some ns =>
        simp only [h3] at w1
        by_cases hn : ns.length < 64
        · simp only [if_pos hn] at w1
          rw [strsD_ok h3 e3] at e2
          exact ⟨pp, _, rfl, .inl e2, .inr ⟨ns, rfl, hn, fun l hl => w1.lst S1 (rpL_strs _) hl⟩⟩
        · simp only [if_neg hn] at w1
          exact w1.elim
end
end Sx

/-! SxRev: xs[::-1] of a list or a tuple. -/
namespace L2
open PySem PySem.Spec PyProof.Rows HT
section
variable {prog : Program} {w : World} {A : Around} {E : Value → Shared → Prop} {s : Shared}
theorem adjust_rev (n : Nat) : Builtin.Slice.sliceAdjust none none (-1) (n : Int) = ((n : Int) - 1, -1) := by
  have h1 : ((-1 : Int) < 0) := by omega
  unfold Builtin.Slice.sliceAdjust
  simp only [h1, if_true]
theorem places_rev (n : Nat) : Builtin.Slice.slicePlaces ((n : Int) - 1) (-1) (-1) = n := by
  have h1 : ¬ ((-1 : Int) > 0) := by omega
  unfold Builtin.Slice.slicePlaces
  simp only [h1, if_false, Int.neg_neg, Int.ediv_one]
  split <;> omega
theorem filterMap_like {τ υ : Type} {f g : τ → Option υ} : ∀ {l : List τ}, (∀ m ∈ l, f m = g m) → l.filterMap f = l.filterMap g
  | [], _ => rfl
  | x :: l, h => by
    rw [List.filterMap_cons, List.filterMap_cons, h x List.mem_cons_self, filterMap_like fun m hm => h m (List.mem_cons_of_mem _ hm)]
theorem rev_picks (xs : List Value) : (List.range xs.length).filterMap (fun (m : Nat) => xs[(((xs.length : Int) - 1) + (m : Int) * (-1)).toNat]?) = xs.reverse := by
  apply List.ext_getElem?
  have e : (List.range xs.length).filterMap (fun (m : Nat) => xs[(((xs.length : Int) - 1) + (m : Int) * (-1)).toNat]?) = (List.range xs.length).filterMap (fun m => xs.reverse[m]?) := by
    refine filterMap_like fun m hm => ?_
    have hm := List.mem_range.mp hm
    rw [List.getElem?_reverse hm]
    congr 1
    omega
  rw [e]
  intro i
  have q : (List.range xs.reverse.length).filterMap (fun m => xs.reverse[m]?) = xs.reverse := by
    generalize xs.reverse = ys
    induction ys with
    | nil => rfl
    | cons y ys ih =>
      rw [List.length_cons, List.range_succ_eq_map, List.filterMap_cons]
      simp only [List.getElem?_cons_zero, List.filterMap_map]
      congr 1
  rw [List.length_reverse] at q
  rw [q]
theorem getItem_tuple_rev {t sl : Addr} {items : Array Value} {vs : Value} {Q : Value → Shared → Prop} (ht : IsTup s.heap t items) (hs : s.heap.IsSliceOf sl .none .none vs) (ps : IsPart vs (some (-1)))
    (h : Q (.ref s.heap.objs.size) { s with heap := s.heap.push { cls := .type "tuple", data := .seq items.toList.reverse.toArray } })
    (hsz : items.size ≤ sizeLine) : wpAny (model prog w) A (getItem (.ref t) (.ref sl)) Q E s := by
  have htake : sizeOk (.seq items.toList.reverse.toArray) := by
    show items.toList.reverse.toArray.size ≤ sizeLine
    rw [List.size_toArray, List.length_reverse, Array.length_toList]
    exact hsz
  obtain ⟨os, hos, hcs, hds⟩ := id hs
  have hTs : s.TypeIs (.ref sl) "slice" := ⟨os, hos, hcs⟩
  unfold getItem
  try with_reducible refine wpAny_holding ?_
  first | refine wpAny_bind (wpAny_pure ?_) | skip
  refine wpAny_bind (wpAny_sequenceKey ht.typeIs (by decide) ?_)
  refine wpAny_bind (wpAny_callSpecial?_slot (name := Str.ofString "__getitem__") ht.typeIs PyProof.Rows.slot_tuple_getitem
    (wpAny_call_entry PyProof.Rows.slot_tuple_getitem ht.typeIs entry_tuple_getitem ?_ (args_tuple_getitem _ _)))
  show wpAny _ _ (Builtin.Tuple.tupleItemsOf (.ref t) >>= _) _ _ s
  refine wpAny_bind (tupleItemsOf_ ht ?_)
  refine wpAny_bind (wpAny_typeOf hTs ?_)
  rw [if_pos (by decide)]
  have ap : ∀ {Q : Int × Int × Nat → Shared → Prop}, Q ((items.size : Int) - 1, -1, items.size) s → wpAny (model prog w) A.in1 (Builtin.Slice.sliceApplied (.ref sl) (pure (items.size : Int))) Q E s := fun {Q} h => by
    unfold Builtin.Slice.sliceApplied Builtin.Slice.sliceFields
    refine wpAny_bind (wpAny_bind (wpAny_field hos hds (x := .none) rfl (wpAny_bind (wpAny_field hos hds (x := .none) rfl (wpAny_bind (wpAny_field hos hds (x := vs) rfl (wpAny_pure ?_)))))))
    refine wpAny_bind (slicePart_ ps ?_)
    show wpAny _ _ (if ((-1 : Int) == 0) = true then _ else _) _ _ s
    rw [if_neg (by decide)]
    refine wpAny_bind (slicePart_none (wpAny_bind (slicePart_none (wpAny_bind (wpAny_pure ?_)))))
    show wpAny _ _ (match Builtin.Slice.sliceAdjust none none (-1) (items.size : Int) with | (lo, hi) => pure (lo, (-1 : Int), Builtin.Slice.slicePlaces lo hi (-1))) _ _ s
    rw [adjust_rev]
    show wpAny _ _ (pure ((items.size : Int) - 1, (-1 : Int), Builtin.Slice.slicePlaces ((items.size : Int) - 1) (-1) (-1))) _ _ s
    rw [places_rev]
    exact wpAny_pure h
  refine wpAny_bind (ap ?_)
  show wpAny _ _ (if (((items.size : Int) - 1) == 0 && (-1 : Int) == 1 && items.size == items.size) = true then _ else _) _ _ s
  have hno : ¬ ((((items.size : Int) - 1) == 0 && (-1 : Int) == 1 && items.size == items.size) = true) := by
    intro q
    rw [Bool.and_eq_true, Bool.and_eq_true] at q
    exact absurd q.1.2 (by decide)
  rw [if_neg hno]
  have pk : ((List.range items.size).filterMap fun (m : Nat) => items[((items.size : Int) - 1 + (m : Int) * (-1)).toNat]?).toArray = items.toList.reverse.toArray := by
    have q := rev_picks items.toList
    rw [Array.length_toList] at q
    simp only [Array.getElem?_toList] at q
    rw [q]
  rw [pk]
  first
    | exact wpAny_bind (m := Builtin.Tuple.tupleExact _) (wpAny_newObj_type (wpAny_pure ⟨_, rfl, wpAny_pure h⟩) htake)
    | exact wpAny_bind (m := Builtin.Tuple.tupleExact _) (wpAny_newObj_type (wpAny_bind (wpAny_pure (wpAny_pure ⟨_, rfl, wpAny_pure h⟩))) htake)
    | exact wpAny_bind (wpAny_bind (m := Builtin.Tuple.tupleExact _) (wpAny_newObj_type (wpAny_pure (wpAny_pure ⟨_, rfl, wpAny_pure h⟩)) htake))
    | exact wpAny_bind (wpAny_bind (m := Builtin.Tuple.tupleExact _) (wpAny_newObj_type (wpAny_pure ⟨_, rfl, wpAny_pure h⟩) htake))
end
def tRevA (K : PySem.W.Frag) (te : TE) : TE := fun σ H Q => te σ H fun x H1 => (∃ a xs, x = .ref a ∧ SqL K H1 a xs ∧ ∀ p, H1 p = none → Q (.ref p) (upd H1 p (.lst xs.reverse))) ∨ (∃ a xs, x = .ref a ∧ SqT K H1 a xs ∧ NewT H1 xs.reverse Q)
theorem pe_revA {X : Cx} {e : Expr} {te : TE} {k : Nat} {p1 p2 p3 pos : Pos} (he : PE X e te) : PE X (.Subscript e (.Slice none none (some (.UnaryOp .USub (.Constant (.int 1) k p1) p2)) p3) pos) (tRevA X.K te) := by
  refine ⟨fun pins s σ H Q I h => ?_⟩
  refine Subscript_ (thn (he.run pins s σ H _ I h) fun v s1 ⟨x, H1, I1, r1, q1⟩ => ?_)
  have hst : PO X (some (.UnaryOp .USub (.Constant (.int 1) k p1) p2)) (tPart (tUn (rU fun i => .int (-i)) (tC (.int 1)))) := po_some (pe_un un_neg pe_int)
  refine wpAny_Slice (thn (po_none.run pins s1 σ H1 (fun o H2 => o = none ∧ H2 = H1) I1 ⟨rfl, rfl⟩) fun vl s2 ⟨l, H2, I2, pl, el, e2⟩ => ?_)
  subst el e2
  refine thn (po_none.run pins s2 σ H2 (fun o H3 => o = none ∧ H3 = H2) I2 ⟨rfl, rfl⟩) fun vu s3 ⟨u, H3, I3, pu, eu, e3⟩ => ?_
  subst eu e3
  refine thn (hst.run pins s3 σ H3 (fun o H4 => o = some (-1) ∧ H4 = H3) I3 ⟨1, rfl, -1, rfl, rfl, rfl⟩) fun vs s4 ⟨o, H4, I4, ps, eo, e4⟩ => ?_
  subst eo e4
  have I5 : Inv X pins σ H4 { s4 with heap := s4.heap.push { cls := .type "slice", data := .fields #[vl, vu, vs] } } := I4.kept (t' := s4.toks) fun b ob q => Heap.get?_push_of_some _ q
  rcases q1 with ⟨a, xs, ex, hx, q⟩ | ⟨a, xs, ex, hx, q⟩
  · subst ex
    cases r1
    obtain ⟨its, r, ht, hz⟩ := I5.list hx
    have hlen := r.length
    show wpAny (model X.prog X.w) X.A (subscriptTail e (.Slice none none (some (.UnaryOp .USub (.Constant (.int 1) k p1) p2)) p3) (.ref a) (.ref s4.heap.objs.size)) (EP X pins σ Q) X.xe { s4 with heap := s4.heap.push { cls := .type "slice", data := .fields #[vl, vu, vs] } }
    refine tail_any (ops := [.ref a, .ref s4.heap.objs.size]) ht.isList.typeIs (PySem.slot_list_getitem.lookup) ?_ (by with_unfolding_all rfl)
    refine wpAny_getItem_list_slice ht.isList (Heap.IsSliceOf.new _ vl vu vs) pl pu ps (by decide) ?_ (by rw [List.size_toArray]; omega)
    rw [PySem.W.krv_pick]
    refine ⟨.ref _, _, I5.laid (t' := s4.toks) (o := .lst xs.reverse) (fun b ob q => Heap.get?_push_of_some _ q) (Nat.le_refl _) ?_, rfl, q _ (I5.hok.fresh (Nat.le_refl _))⟩
    exact ⟨by rw [List.length_reverse]; exact hz, _, 0, r.reverse, Heap.get?_push_size _ rfl⟩
  · subst ex
    cases r1
    obtain ⟨its, r, ht, hz⟩ := I5.tuple hx
    have hlen := r.length
    cases pl
    cases pu
    show wpAny (model X.prog X.w) X.A (subscriptTail e (.Slice none none (some (.UnaryOp .USub (.Constant (.int 1) k p1) p2)) p3) (.ref a) (.ref s4.heap.objs.size)) (EP X pins σ Q) X.xe { s4 with heap := s4.heap.push { cls := .type "slice", data := .fields #[.none, .none, vs] } }
    refine tail_any (ops := [.ref a, .ref s4.heap.objs.size]) ht.typeIs PyProof.Rows.slot_tuple_getitem.lookup ?_ (by with_unfolding_all rfl)
    refine getItem_tuple_rev ht (Heap.IsSliceOf.new _ _ _ vs) ps ?_ (by rw [List.size_toArray]; omega)
    exact laidTn I5 (fun b ob q => Heap.get?_push_of_some _ q) (by rw [List.length_reverse]; exact hz) r.reverse (Heap.get?_push_size _ rfl) q
end L2
namespace Sx
open PySem L2
section
variable {X : Cx} {Z : Wd} {W : WX} {e : Expr} {f : SE} {pos : Pos}
def sRevA (f : SE) : SE := fun ρ μ => opd (f ρ μ) fun v μ1 => match rdL μ1 v with
  | some ds => .ok (.new (.lst ds.reverse)) μ1
  | none => match rdT v with
    | some ds => .ok (.dat (.tup ds.reverse)) μ1
    | none => .stuck
theorem d_revA {j : Nat} {p1 p2 p3 : Pos} (he : PE X e (tD Z W f)) : PE X (.Subscript e (.Slice none none (some (.UnaryOp .USub (.Constant (.int 1) j p1) p2)) p3) pos) (tD Z W (sRevA f)) := by
  refine PEimp (pe_revA he) ?_
  rintro σ H Q ⟨G, α, ρ, μ, S, E, w⟩
  refine ⟨G, α, ρ, μ, S, E, wE.opd w fun x H1 α1 μ1 v p1 S1 r1 w1 => ?_⟩
  cases q : rdL μ1 v with
  | some ds =>
    simp only [q] at w1
    obtain ⟨p, xs, rfl, e2, e3⟩ := rdL_ok S1 r1 q
    exact .inl ⟨p, xs, rfl, .inl e2, fun l hl => w1.lst S1 (rpL_rev e3) hl⟩
  | none =>
    cases q2 : rdT v with
    | some ds =>
      simp only [q, q2] at w1
      obtain ⟨p, xs, rfl, e2, e3⟩ := rdT_ok r1 q2
      exact .inr ⟨p, xs, rfl, e2.sq, w1.tup S1 (rpL_rev e3)⟩
    | none =>
      simp only [q, q2] at w1
      exact w1.elim
end
end Sx

/-! SxEval: the plain functions of Sx by simp: each step as an equation whose continuation is closed. -/
namespace Sx
open PySem L2

/-- an equation that simp is not to see through -/
theorem nr {α : Sort _} {a b : α} (h : a = b) : a = b := h
/-! ### statements -/
def sqO (o : SOut) (h : SS) : SOut := match o with
  | .next ρ μ => h ρ μ
  | r => r
section
variable {ρ ρ1 : Env} {μ μ1 : Sto} {g h b : SS} {f f1 f2 f3 c : SE} {fs : List SE} {x : Exn} {r : Res} {d d1 d2 : D} {i j k n : Nat} {v a : Val} {md : List Bool} {F : FD} {as : List Val}
@[simp] theorem sqO_next : sqO (.next ρ μ) h = h ρ μ := nr rfl
@[simp] theorem sqO_ret : sqO (.ret r μ) h = .ret r μ := nr rfl
@[simp] theorem sqO_exc : sqO (.exc x ρ μ) h = .exc x ρ μ := nr rfl
@[simp] theorem sqO_brk : sqO (.brk ρ μ) h = .brk ρ μ := nr rfl
@[simp] theorem sqO_cnt : sqO (.cnt ρ μ) h = .cnt ρ μ := nr rfl
@[simp] theorem sqO_ite {p : Prop} [Decidable p] {o o' : SOut} : sqO (if p then o else o') h = if p then sqO o h else sqO o' h := by split <;> rfl
@[simp] theorem sSeq_ap : sSeq g h ρ μ = sqO (g ρ μ) h := nr rfl
@[simp] theorem sNext_ap : sNext ρ μ = .next ρ μ := nr rfl
@[simp] theorem sBrk_ap : sBrk ρ μ = .brk ρ μ := nr rfl
@[simp] theorem sCnt_ap : sCnt ρ μ = .cnt ρ μ := nr rfl
@[simp] theorem sRetN_ap : sRetN ρ μ = .ret (.dat .non) μ := nr rfl
@[simp] theorem eS_ok {k : Val → Sto → SOut} : eS (.ok r μ) ρ k = k r.val μ := nr rfl
@[simp] theorem eS_exc {k : Val → Sto → SOut} : eS (.exc x μ) ρ k = .exc x ρ μ := nr rfl
@[simp] theorem eC_dat {k : Val → Sto → SOut} : eC (.ok (.dat d) μ) ρ k = k (.dat d) μ := nr rfl
@[simp] theorem eC_loc {k : Val → Sto → SOut} : eC (.ok (.loc n) μ) ρ k = k (.loc n) μ := nr rfl
@[simp] theorem eC_new {k : Val → Sto → SOut} {c : Cell} : eC (.ok (.new c) μ) ρ k = k (.loc μ.length) (μ ++ [c]) := nr rfl
@[simp] theorem eC_exc {k : Val → Sto → SOut} : eC (.exc x μ) ρ k = .exc x ρ μ := nr rfl
@[simp] theorem val_dat : (Res.dat d).val = .dat d := nr rfl
@[simp] theorem val_loc : (Res.loc n).val = .loc n := nr rfl
@[simp] theorem val_new {c : Cell} : (Res.new c).val = .dat c.frz := nr rfl
@[simp] theorem res_dat : (Val.dat d).res = .dat d := nr rfl
@[simp] theorem res_loc : (Val.loc n).res = .loc n := nr rfl
@[simp] theorem frz_lst {ds : List D} : (Cell.lst ds).frz = .lst ds := nr rfl
@[simp] theorem frz_dic {ds : List (Key × D)} : (Cell.dic ds).frz = .dic ds := nr rfl
@[simp] theorem frz_dct {ds : List (List Key × D)} : (Cell.dct ds).frz = .dct ds := nr rfl
def ifK (ρ : Env) (g h : SS) (v : Val) (μ : Sto) : SOut := onS v (g ρ μ) (h ρ μ)
@[simp] theorem ifK_bl {b : Bool} : ifK ρ g h (.dat (.bl b)) μ = if b = true then g ρ μ else h ρ μ := by cases b <;> rfl
@[simp] theorem sIfS_ap : sIfS c g h ρ μ = eS (c ρ μ) ρ (ifK ρ g h) := nr rfl
def setK (ρ : Env) (i : Nat) (v : Val) (μ : Sto) : SOut := .next (ρ.set i (some v)) μ
@[simp] theorem setK_ap : setK ρ i v μ = .next (ρ.set i (some v)) μ := nr rfl
@[simp] theorem sSet_ap : sSet i f ρ μ = eS (f ρ μ) ρ (setK ρ i) := nr rfl
@[simp] theorem sSetC_ap : sSetC i f ρ μ = eC (f ρ μ) ρ (setK ρ i) := nr rfl
def dropS (ρ : Env) (_ : Val) (μ : Sto) : SOut := .next ρ μ
@[simp] theorem dropS_ap : dropS ρ v μ = .next ρ μ := nr rfl
@[simp] theorem sDrop_ap : sDrop f ρ μ = eS (f ρ μ) ρ (dropS ρ) := nr rfl
def retO (ρ : Env) : Out Res → SOut
  | .ok r μ => .ret r μ
  | .exc x μ => .exc x ρ μ
  | .stuck => .stuck
@[simp] theorem retO_ok : retO ρ (.ok r μ) = .ret r μ := nr rfl
@[simp] theorem retO_exc : retO ρ (.exc x μ) = .exc x ρ μ := nr rfl
@[simp] theorem retO_ite {p : Prop} [Decidable p] {o o' : Out Res} : retO ρ (if p then o else o') = if p then retO ρ o else retO ρ o' := by split <;> rfl
@[simp] theorem sRet_ap : sRet f ρ μ = retO ρ (f ρ μ) := nr rfl
def optS (ρ : Env) : Option Sto → SOut
  | some μ => .next ρ μ
  | none => .stuck
@[simp] theorem optS_some : optS ρ (some μ) = .next ρ μ := nr rfl
def subK3 (ρ : Env) (k : Nat) (d : D) (i : Val) (μ : Sto) : SOut := optS ρ (setC μ k i d)
@[simp] theorem subK3_ap : subK3 ρ k d v μ = optS ρ (setC μ k v d) := nr rfl
def subK2 (fi : SE) (ρ : Env) (d : D) (x : Val) (μ : Sto) : SOut := match x with
  | .dat _ => .stuck
  | .loc k => eS (fi ρ μ) ρ (subK3 ρ k d)
@[simp] theorem subK2_loc : subK2 f ρ d (.loc k) μ = eS (f ρ μ) ρ (subK3 ρ k d) := nr rfl
def subK1 (fx fi : SE) (ρ : Env) (v : Val) (μ : Sto) : SOut := match v with
  | .loc _ => .stuck
  | .dat d => eS (fx ρ μ) ρ (subK2 fi ρ d)
@[simp] theorem subK1_dat : subK1 f f1 ρ (.dat d) μ = eS (f ρ μ) ρ (subK2 f1 ρ d) := nr rfl
theorem sSub_eq : sSub f f1 f2 ρ μ = eS (f2 ρ μ) ρ (subK1 f f1 ρ) := by
  unfold sSub
  congr 1
@[simp] theorem sSub_ap : sSub f f1 f2 ρ μ = eS (f2 ρ μ) ρ (subK1 f f1 ρ) := sSub_eq
def envO (μ : Sto) : Option Env → SOut
  | some ρ => .next ρ μ
  | none => .stuck
@[simp] theorem envO_some : envO μ (some ρ) = .next ρ μ := nr rfl
def asgK (g : SG) (ρ : Env) (v : Val) (μ : Sto) : SOut := envO μ (g v ρ)
@[simp] theorem asgK_ap {g : SG} : asgK g ρ v μ = envO μ (g v ρ) := nr rfl
theorem sAsg_eq {g : SG} : sAsg g f ρ μ = eS (f ρ μ) ρ (asgK g ρ) := by
  unfold sAsg
  congr 1
@[simp] theorem sAsg_ap {g : SG} : sAsg g f ρ μ = eS (f ρ μ) ρ (asgK g ρ) := sAsg_eq
/-! ### targets -/
@[simp] theorem gN_ap : gN i v ρ = some (ρ.set i (some v)) := nr rfl
def gsB (gs : List D → Env → Option Env) (ds : List D) : Option Env → Option Env
  | some ρ => gs ds ρ
  | none => none
@[simp] theorem gsB_some {gs : List D → Env → Option Env} {ds : List D} : gsB gs ds (some ρ) = gs ds ρ := nr rfl
@[simp] theorem gsCons_ap {g : SG} {gs : List D → Env → Option Env} {ds : List D} : gsCons g gs (d :: ds) ρ = gsB gs ds (g (.dat d) ρ) := by
  unfold gsCons gsB
  rfl
@[simp] theorem gsNil_ap : gsNil [] ρ = some ρ := nr rfl
@[simp] theorem gT_ap {gs : List D → Env → Option Env} {ds : List D} : gT n gs (.dat (.tup ds)) ρ = if ds.length = n then gs ds ρ else none := nr rfl
/-! ### for -/
def forO (g : SG) (b : SS) (ρ : Env) : Out (List D) → SOut
  | .ok ds μ => forL g b ds ρ μ
  | .exc x μ => .exc x ρ μ
  | .stuck => .stuck
@[simp] theorem forO_ok {g : SG} {ds : List D} : forO g b ρ (.ok ds μ) = forL g b ds ρ μ := nr rfl
theorem sFor_eq {f : SI} {g : SG} : sFor f g b ρ μ = forO g b ρ (f ρ μ) := by
  unfold sFor forO
  rfl
@[simp] theorem sFor_ap {f : SI} {g : SG} : sFor f g b ρ μ = forO g b ρ (f ρ μ) := sFor_eq
@[simp] theorem forL_nil {g : SG} : forL g b [] ρ μ = .next ρ μ := nr rfl

/-! ### expressions -/
@[simp] theorem opd_ok {τ : Type} {k : Val → Sto → Out τ} : opd (.ok r μ) k = k r.val μ := nr rfl
@[simp] theorem opd_exc {τ : Type} {k : Val → Sto → Out τ} : opd (.exc x μ) k = .exc x μ := nr rfl
@[simp] theorem gv_zero {o : Option Val} : gv (o :: ρ) 0 = o := nr rfl
@[simp] theorem gv_succ {o : Option Val} : gv (o :: ρ) (i + 1) = gv ρ i := nr rfl
def varO (μ : Sto) : Option Val → Out Res
  | some v => .ok v.res μ
  | none => .stuck
@[simp] theorem varO_some : varO μ (some v) = .ok v.res μ := nr rfl
theorem sVar_eq : sVar i ρ μ = varO μ (gv ρ i) := by unfold sVar varO; rfl
@[simp] theorem sVar_ap : sVar i ρ μ = varO μ (gv ρ i) := sVar_eq
@[simp] theorem sC_ap : sC d ρ μ = .ok (.dat d) μ := nr rfl
@[simp] theorem outO_some : outO (some r) μ = .ok r μ := nr rfl
def binK2 (op : BOp) (a b : Val) (μ : Sto) : Out Res := outO (op μ a b) μ
@[simp] theorem binK2_ap {op : BOp} {a b : Val} : binK2 op a b μ = outO (op μ a b) μ := nr rfl
def binK (op : BOp) (g : SE) (ρ : Env) (a : Val) (μ : Sto) : Out Res := opd (g ρ μ) (binK2 op a)
@[simp] theorem binK_ap {op : BOp} : binK op f ρ a μ = opd (f ρ μ) (binK2 op a) := nr rfl
@[simp] theorem sBin_ap {op : BOp} : sBin op f f1 ρ μ = opd (f ρ μ) (binK op f1 ρ) := nr rfl
def andK (g : SE) (ρ : Env) (v : Val) (μ : Sto) : Out Res := onB v (g ρ μ) (.ok (.dat (.bl false)) μ)
@[simp] theorem andK_bl {b : Bool} : andK f ρ (.dat (.bl b)) μ = if b = true then f ρ μ else .ok (.dat (.bl false)) μ := by cases b <;> rfl
@[simp] theorem sAnd_ap : sAnd f f1 ρ μ = opd (f ρ μ) (andK f1 ρ) := nr rfl
def orK (g : SE) (ρ : Env) (v : Val) (μ : Sto) : Out Res := onB v (.ok (.dat (.bl true)) μ) (g ρ μ)
@[simp] theorem orK_bl {b : Bool} : orK f ρ (.dat (.bl b)) μ = if b = true then .ok (.dat (.bl true)) μ else f ρ μ := by cases b <;> rfl
@[simp] theorem sOr_ap : sOr f f1 ρ μ = opd (f ρ μ) (orK f1 ρ) := nr rfl
def notK (v : Val) (μ : Sto) : Out Res := onB v (.ok (.dat (.bl false)) μ) (.ok (.dat (.bl true)) μ)
@[simp] theorem notK_bl {b : Bool} : notK (.dat (.bl b)) μ = .ok (.dat (.bl (!b))) μ := by cases b <;> rfl
@[simp] theorem sNot_ap : sNot f ρ μ = opd (f ρ μ) notK := nr rfl
def ifE (f g : SE) (ρ : Env) (v : Val) (μ : Sto) : Out Res := onB v (f ρ μ) (g ρ μ)
@[simp] theorem ifE_bl {b : Bool} : ifE f f1 ρ (.dat (.bl b)) μ = if b = true then f ρ μ else f1 ρ μ := by cases b <;> rfl
@[simp] theorem sIf_ap : sIf c f f1 ρ μ = opd (c ρ μ) (ifE f f1 ρ) := nr rfl
@[simp] theorem opd_ite {τ : Type} {p : Prop} [Decidable p] {o o' : Out Res} {k : Val → Sto → Out τ} : opd (if p then o else o') k = if p then opd o k else opd o' k := by split <;> rfl
@[simp] theorem eS_ite {p : Prop} [Decidable p] {o o' : Out Res} {k : Val → Sto → SOut} : eS (if p then o else o') ρ k = if p then eS o ρ k else eS o' ρ k := by split <;> rfl
@[simp] theorem eC_ite {p : Prop} [Decidable p] {o o' : Out Res} {k : Val → Sto → SOut} : eC (if p then o else o') ρ k = if p then eC o ρ k else eC o' ρ k := by split <;> rfl
def truK (v : Val) (μ : Sto) : Out Res := match truD μ v with
  | some k => .ok (.dat (.bl k)) μ
  | none => .stuck
@[simp] theorem truK_bl {b : Bool} : truK (.dat (.bl b)) μ = .ok (.dat (.bl b)) μ := nr rfl
@[simp] theorem truK_int {i : Int} : truK (.dat (.int i)) μ = .ok (.dat (.bl (i != 0))) μ := nr rfl
@[simp] theorem truK_lst {ds : List D} : truK (.dat (.lst ds)) μ = .ok (.dat (.bl (!ds.isEmpty))) μ := nr rfl
@[simp] theorem truK_tup {ds : List D} : truK (.dat (.tup ds)) μ = .ok (.dat (.bl (!ds.isEmpty))) μ := nr rfl
theorem sTru_eq : sTru f ρ μ = opd (f ρ μ) truK := nr rfl
@[simp] theorem sTru_ap : sTru f ρ μ = opd (f ρ μ) truK := sTru_eq
def negK (v : Val) (μ : Sto) : Out Res := match v with
  | .dat (.int i) => .ok (.dat (.int (-i))) μ
  | _ => .stuck
@[simp] theorem negK_int {i : Int} : negK (.dat (.int i)) μ = .ok (.dat (.int (-i))) μ := nr rfl
@[simp] theorem sNeg_ap : sNeg f ρ μ = opd (f ρ μ) negK := nr rfl
def chK3 (o : BOp) (b c : Val) (μ : Sto) : Out Res := outO (o μ b c) μ
@[simp] theorem chK3_ap {o : BOp} {b c : Val} : chK3 o b c μ = outO (o μ b c) μ := nr rfl
def chR (o' : BOp) (h : SE) (ρ : Env) (b : Val) (μ : Sto) : Option Res → Out Res
  | some (.dat (.bl true)) => opd (h ρ μ) (chK3 o' b)
  | some (.dat (.bl false)) => .ok (.dat (.bl false)) μ
  | _ => .stuck
@[simp] theorem chR_bl {o' : BOp} {b : Val} {t : Bool} : chR o' f ρ b μ (some (.dat (.bl t))) = if t = true then opd (f ρ μ) (chK3 o' b) else .ok (.dat (.bl false)) μ := by cases t <;> rfl
def chK2 (o o' : BOp) (h : SE) (ρ : Env) (a b : Val) (μ : Sto) : Out Res := chR o' h ρ b μ (o μ a b)
@[simp] theorem chK2_ap {o o' : BOp} {b : Val} : chK2 o o' f ρ a b μ = chR o' f ρ b μ (o μ a b) := nr rfl
def chK1 (o o' : BOp) (g h : SE) (ρ : Env) (a : Val) (μ : Sto) : Out Res := opd (g ρ μ) (chK2 o o' h ρ a)
@[simp] theorem chK1_ap {o o' : BOp} : chK1 o o' f f1 ρ a μ = opd (f ρ μ) (chK2 o o' f1 ρ a) := nr rfl
theorem sChain_eq {o o' : BOp} : sChain o o' f f1 f2 ρ μ = opd (f ρ μ) (chK1 o o' f1 f2 ρ) := nr rfl
@[simp] theorem sChain_ap {o o' : BOp} : sChain o o' f f1 f2 ρ μ = opd (f ρ μ) (chK1 o o' f1 f2 ρ) := sChain_eq
/-! ### arguments -/
def consA (a : Val) : Out (List Val) → Out (List Val)
  | .ok as μ => .ok (a :: as) μ
  | .exc x μ => .exc x μ
  | .stuck => .stuck
@[simp] theorem consA_ok : consA a (.ok as μ) = .ok (a :: as) μ := nr rfl
@[simp] theorem consA_exc : consA a (.exc x μ) = .exc x μ := nr rfl
def argK (fs : List SE) (ρ : Env) (a : Val) (μ : Sto) : Out (List Val) := consA a (sArgs fs ρ μ)
@[simp] theorem argK_ap : argK fs ρ a μ = consA a (sArgs fs ρ μ) := nr rfl
@[simp] theorem sArgs_nil : sArgs [] ρ μ = .ok [] μ := nr rfl
theorem sArgs_cons_eq : sArgs (f :: fs) ρ μ = opd (f ρ μ) (argK fs ρ) := by
  simp only [sArgs]
  congr 1
@[simp] theorem sArgs_cons : sArgs (f :: fs) ρ μ = opd (f ρ μ) (argK fs ρ) := sArgs_cons_eq
def datO (mk : List D → Res) (μ : Sto) : Option (List D) → Out Res
  | some ds => .ok (mk ds) μ
  | none => .stuck
@[simp] theorem datO_some {mk : List D → Res} {ds : List D} : datO mk μ (some ds) = .ok (mk ds) μ := nr rfl
def disO (mk : List D → Res) : Out (List Val) → Out Res
  | .ok as μ => datO mk μ (dats as)
  | .exc x μ => .exc x μ
  | .stuck => .stuck
@[simp] theorem disO_ok {mk : List D → Res} : disO mk (.ok as μ) = datO mk μ (dats as) := nr rfl
@[simp] theorem disO_exc {mk : List D → Res} : disO mk (.exc x μ) = .exc x μ := nr rfl
@[simp] theorem sTup_ap : sTup fs ρ μ = disO (fun ds => .dat (.tup ds)) (sArgs fs ρ μ) := by
  unfold sTup disO
  cases sArgs fs ρ μ with
  | ok as μ => cases h : dats as <;> simp [h, datO]
  | _ => rfl
@[simp] theorem sLst_ap : sLst fs ρ μ = disO (fun ds => .new (.lst ds)) (sArgs fs ρ μ) := by
  unfold sLst disO
  cases sArgs fs ρ μ with
  | ok as μ => cases h : dats as <;> simp [h, datO]
  | _ => rfl
@[simp] theorem dats_nil : dats [] = some [] := nr rfl
@[simp] theorem dats_cons : dats (.dat d :: as) = (dats as).map (d :: ·) := nr rfl
def callO (op : Sto → List Val → Option Res) : Out (List Val) → Out Res
  | .ok as μ => outO (op μ as) μ
  | .exc x μ => .exc x μ
  | .stuck => .stuck
@[simp] theorem callO_ok {op : Sto → List Val → Option Res} : callO op (.ok as μ) = outO (op μ as) μ := nr rfl
@[simp] theorem callO_exc {op : Sto → List Val → Option Res} : callO op (.exc x μ) = .exc x μ := nr rfl
theorem sCall_eq {op : Sto → List Val → Option Res} : sCall op fs ρ μ = callO op (sArgs fs ρ μ) := by unfold sCall callO; rfl
@[simp] theorem sCall_ap {op : Sto → List Val → Option Res} : sCall op fs ρ μ = callO op (sArgs fs ρ μ) := sCall_eq
/-! ### calls of defs -/
def callFO (md : List Bool) (F : FD) : Out (List Val) → Out Res
  | .ok as μ => callF md F as μ
  | .exc x μ => .exc x μ
  | .stuck => .stuck
@[simp] theorem callFO_ok : callFO md F (.ok as μ) = callF md F as μ := nr rfl
@[simp] theorem callFO_exc : callFO md F (.exc x μ) = .exc x μ := nr rfl
theorem sCallF_eq : sCallF md F fs ρ μ = callFO md F (sArgs fs ρ μ) := by unfold sCallF callFO; rfl
@[simp] theorem sCallF_ap : sCallF md F fs ρ μ = callFO md F (sArgs fs ρ μ) := sCallF_eq
/-- behind the callee: no cell was handed in as data -/
def putO (μ : Sto) (ks : List Nat) : Out Res → Out Res
  | .ok (.dat d) cs => .ok (.dat d) (putC μ ks cs)
  | .ok (.new c) cs => .ok (.new c) (putC μ ks cs)
  | .exc x cs => .exc x (putC μ ks cs)
  | _ => .stuck
@[simp] theorem putO_dat {ks : List Nat} {cs : List Cell} : putO μ ks (.ok (.dat d) cs) = .ok (.dat d) (putC μ ks cs) := nr rfl
@[simp] theorem putO_new {ks : List Nat} {cs : List Cell} {c : Cell} : putO μ ks (.ok (.new c) cs) = .ok (.new c) (putC μ ks cs) := nr rfl
@[simp] theorem putO_exc {ks : List Nat} {cs : List Cell} : putO μ ks (.exc x cs) = .exc x (putC μ ks cs) := nr rfl
@[simp] theorem putO_ite {p : Prop} [Decidable p] {ks : List Nat} {o o' : Out Res} : putO μ ks (if p then o else o') = if p then putO μ ks o else putO μ ks o' := by split <;> rfl
theorem callF_plain {ks : List Nat} {ds : List D} {cs : List Cell} (h1 : splitA μ md as = some (ks, ds)) (h2 : lentK md as = []) (h3 : ks.Nodup) (h4 : cellsOf μ ks = some cs) : callF md F as μ = putO μ ks (F cs ds) := by
  unfold callF
  simp only [h1, h2, List.append_nil, if_pos h3, h4]
  cases F cs ds with
  | ok r cs' => cases r <;> simp [Res.noLoc, putO]
  | exc x cs' => simp [putO]
  | stuck => rfl
@[simp] theorem callF_1 : callF [false] F [.dat d] μ = putO μ [] (F [] [d]) := callF_plain rfl rfl (by simp) rfl
@[simp] theorem callF_2 : callF [false, false] F [.dat d, .dat d1] μ = putO μ [] (F [] [d, d1]) := callF_plain rfl rfl (by simp) rfl
@[simp] theorem callF_3 : callF [false, false, false] F [.dat d, .dat d1, .dat d2] μ = putO μ [] (F [] [d, d1, d2]) := callF_plain rfl rfl (by simp) rfl
@[simp] theorem callF_4 {d3 : D} : callF [false, false, false, false] F [.dat d, .dat d1, .dat d2, .dat d3] μ = putO μ [] (F [] [d, d1, d2, d3]) := callF_plain rfl rfl (by simp) rfl
@[simp] theorem callF_5 {d3 d4 : D} : callF [false, false, false, false, false] F [.dat d, .dat d1, .dat d2, .dat d3, .dat d4] μ = putO μ [] (F [] [d, d1, d2, d3, d4]) := callF_plain rfl rfl (by simp) rfl
/-- a cell at k -/
def atC (μ : Sto) (k : Nat) (F : Cell → Out Res) : Out Res := match μ[k]? with
  | some c => F c
  | none => .stuck
theorem atC_some {F : Cell → Out Res} {c : Cell} (h : μ[k]? = some c) : atC μ k F = F c := by unfold atC; rw [h]
theorem callF_c {md : List Bool} {as : List Val} {ds : List D} (h1 : splitA μ (true :: md) (.loc k :: as) = some ([k], ds)) (h2 : lentK (true :: md) (.loc k :: as) = []) : callF (true :: md) F (.loc k :: as) μ = atC μ k fun c => putO μ [k] (F [c] ds) := by
  unfold atC
  cases h : μ[k]? with
  | none => unfold callF; simp only [h1, h2, List.append_nil]; simp [cellsOf, h]
  | some c => exact callF_plain h1 h2 (by simp) (by simp [cellsOf, h])
@[simp] theorem callF_c0 : callF [true] F [.loc k] μ = atC μ k fun c => putO μ [k] (F [c] []) := callF_c rfl rfl
@[simp] theorem callF_c1 : callF [true, false] F [.loc k, .dat d] μ = atC μ k fun c => putO μ [k] (F [c] [d]) := callF_c rfl rfl
@[simp] theorem callF_c2 : callF [true, false, false] F [.loc k, .dat d, .dat d1] μ = atC μ k fun c => putO μ [k] (F [c] [d, d1]) := callF_c rfl rfl
@[simp] theorem callF_c3 : callF [true, false, false, false] F [.loc k, .dat d, .dat d1, .dat d2] μ = atC μ k fun c => putO μ [k] (F [c] [d, d1, d2]) := callF_c rfl rfl
@[simp] theorem atC_0 {F : Cell → Out Res} {c : Cell} : atC (c :: μ) 0 F = F c := nr rfl
@[simp] theorem atC_succ {F : Cell → Out Res} {c : Cell} : atC (c :: μ) (k + 1) F = atC μ k F := by unfold atC; simp
@[simp] theorem putC_nil {cs : List Cell} : putC μ [] cs = μ := by cases cs <;> rfl
@[simp] theorem putC_cons {ks : List Nat} {c : Cell} {cs : List Cell} : putC μ (k :: ks) (c :: cs) = putC (μ.set k c) ks cs := nr rfl
/-- fin by its cases -/
@[simp] theorem fin_dat {own : Bool} {nb : Nat} : fin own nb (.ret (.dat d) μ) = .ok (.dat d) (μ.take nb) := nr rfl
@[simp] theorem fin_new {own : Bool} {nb : Nat} {c : Cell} : fin own nb (.ret (.new c) μ) = .ok (if own then .new c else .dat c.frz) (μ.take nb) := nr rfl
def finL (own : Bool) (nb : Nat) (μ : Sto) : Option Cell → Out Res
  | some c => .ok (if own then .new c else .dat c.frz) (μ.take nb)
  | none => .stuck
@[simp] theorem finL_some {own : Bool} {nb : Nat} {c : Cell} : finL own nb μ (some c) = .ok (if own then .new c else .dat c.frz) (μ.take nb) := nr rfl
@[simp] theorem fin_loc {own : Bool} {nb : Nat} : fin own nb (.ret (.loc k) μ) = if k < nb then .stuck else finL own nb μ μ[k]? := by
  show (if k < nb then Out.stuck else _) = _
  congr 1
@[simp] theorem fin_next {own : Bool} {nb : Nat} : fin own nb (.next ρ μ) = .ok (.dat .non) (μ.take nb) := nr rfl
@[simp] theorem fin_exc {own : Bool} {nb : Nat} : fin own nb (.exc x ρ μ) = .exc x (μ.take nb) := nr rfl
@[simp] theorem fin_ite {p : Prop} [Decidable p] {own : Bool} {nb : Nat} {o o' : SOut} : fin own nb (if p then o else o') = if p then fin own nb o else fin own nb o' := by split <;> rfl
theorem fnS_ap {own : Bool} {cs : List Cell} {ds : List D} : fnS n md own g cs ds = fin own cs.length (g (startE n md ds) cs) := rfl
@[simp] theorem mix_t {ds : List D} : mix (true :: md) k ds = .loc k :: mix md (k + 1) ds := nr rfl
@[simp] theorem mix_f {ds : List D} : mix (false :: md) k (d :: ds) = .dat d :: mix md k ds := nr rfl
@[simp] theorem mix_n {ds : List D} : mix [] k ds = [] := nr rfl
theorem startE_ap {ds : List D} : startE n md ds = (mix md 0 ds).map some ++ List.replicate (n - md.length) none := rfl
end
end Sx

/-! SxEvalOp: what the operations give on values of known kinds. -/
namespace Sx
open PySem L2
section
variable {μ : Sto} {i j : Int} {s t : Str} {ds es : List D} {a b : Bool} {d e : D} {k n : Nat} {v w : Val} {c : Cell}
@[simp] theorem add_ii : opAdd μ (.dat (.int i)) (.dat (.int j)) = some (.dat (.int (i + j))) := nr rfl
@[simp] theorem add_tt (h : ds.length + es.length ≤ sizeLine) : opAdd μ (.dat (.tup ds)) (.dat (.tup es)) = some (.dat (.tup (ds ++ es))) := by
  show (gd _ _).or _ = _
  rw [gd_ok h]; rfl
@[simp] theorem add_ll (h : ds.length + es.length ≤ sizeLine) : opAdd μ (.dat (.lst ds)) (.dat (.lst es)) = some (.new (.lst (ds ++ es))) := gd_ok h
@[simp] theorem sub_ii : opSub μ (.dat (.int i)) (.dat (.int j)) = some (.dat (.int (i - j))) := nr rfl
theorem big_eq : big = 2 ^ 4096 := nr rfl
theorem lt_big {x : Int} (h : x < 2 ^ 256) : x < big := Int.lt_trans h (by unfold big; decide +kernel)
theorem gt_big {x : Int} (h : -(2 ^ 256) < x) : -big < x := Int.lt_trans (by unfold big; decide +kernel) h
theorem mul_ii (h : GMul i j) : opMul μ (.dat (.int i)) (.dat (.int j)) = some (.dat (.int (i * j))) := by
  show (gd _ _).or _ = _
  rw [gd_ok h]; rfl
@[simp] theorem mul_big (h : -big < i) (h1 : i < big) (h2 : -big < j) (h3 : j < big) : opMul μ (.dat (.int i)) (.dat (.int j)) = some (.dat (.int (i * j))) := mul_ii ⟨⟨h, h1⟩, h2, h3⟩
theorem mul_small (h : -(2 ^ 256) < i ∧ i < 2 ^ 256) (h2 : -(2 ^ 256) < j ∧ j < 2 ^ 256) : opMul μ (.dat (.int i)) (.dat (.int j)) = some (.dat (.int (i * j))) := mul_ii ⟨⟨gt_big h.1, lt_big h.2⟩, gt_big h2.1, lt_big h2.2⟩
@[simp] theorem lit_lt_big {n : Nat} (h : n < 2 ^ 62) : (no_index (OfNat.ofNat n) : Int) < big := lt_big (by
  show (n : Int) < 2 ^ 256
  have : ((2 : Nat) ^ 62 : Int) < 2 ^ 256 := by decide
  omega)
@[simp] theorem neg_lt_lit {n : Nat} : -big < (no_index (OfNat.ofNat n) : Int) := gt_big (by
  show -(2 ^ 256) < (n : Int)
  omega)
@[simp] theorem neg_big_lt_neg {n : Nat} (h : n < 2 ^ 62) : -big < -(no_index (OfNat.ofNat n) : Int) := by
  have := lit_lt_big h
  omega
theorem div_ii (h : GDiv i j) : opDiv μ (.dat (.int i)) (.dat (.int j)) = some (.dat (.int (i / j))) := gd_ok h
@[simp] theorem div_big (h : 0 < j) (h2 : j < big) : opDiv μ (.dat (.int i)) (.dat (.int j)) = some (.dat (.int (i / j))) := div_ii ⟨h, h2⟩
@[simp] theorem mod_ii (h : 0 < j) : opMod μ (.dat (.int i)) (.dat (.int j)) = some (.dat (.int (i % j))) := gd_ok h
@[simp] theorem pow_ii (h : CPow i j) : opPow μ (.dat (.int i)) (.dat (.int j)) = some (.dat (.int (i ^ j.toNat))) := gd_ok h
theorem pow_10n (n : Nat) (h : n ≤ 1000) : opPow μ (.dat (.int 10)) (.dat (.int (n : Int))) = some (.dat (.int (10 ^ n))) := by
  rw [pow_ii (by unfold CPow; exact ⟨by omega, by omega, by decide⟩)]
  rfl
@[simp] theorem pow_10 {n : Nat} (h : n ≤ 1000) : opPow μ (.dat (.int 10)) (.dat (.int (no_index (OfNat.ofNat n)))) = some (.dat (.int (10 ^ n))) := pow_10n n h
@[simp] theorem lt_ii : opLt μ (.dat (.int i)) (.dat (.int j)) = some (.dat (.bl (decide (i < j)))) := nr rfl
@[simp] theorem le_ii : opLe μ (.dat (.int i)) (.dat (.int j)) = some (.dat (.bl (decide (i ≤ j)))) := nr rfl
@[simp] theorem gt_ii : opGt μ (.dat (.int i)) (.dat (.int j)) = some (.dat (.bl (decide (j < i)))) := nr rfl
@[simp] theorem ge_ii : opGe μ (.dat (.int i)) (.dat (.int j)) = some (.dat (.bl (decide (j ≤ i)))) := nr rfl
/-! equality -/
theorem eq_data {x y : D} {p q : PyData} (hx : D.py 30 x = some p) (hy : D.py 30 y = some q) (hs : ∀ s t, x = .str s → y = .str t → False) : opEq μ (.dat x) (.dat y) = some (.dat (.bl (PyData.eqv p q))) := by
  have z : ssO (fun i j => decide (i = j)) μ (.dat x) (.dat y) = none := by
    unfold ssO
    split
    · rename_i h1 h2; cases h1; cases h2; exact (hs _ _ rfl rfl).elim
    · rfl
  show (ssO _ _ _ _).or (eqData false μ _ _) = _
  rw [z, Option.none_or]
  unfold eqData
  simp only [toD, hx, hy]
  rfl
theorem ne_data {x y : D} {p q : PyData} (hx : D.py 30 x = some p) (hy : D.py 30 y = some q) (hs : ∀ s t, x = .str s → y = .str t → False) : opNe μ (.dat x) (.dat y) = some (.dat (.bl (!PyData.eqv p q))) := by
  have z : ssO (fun i j => !decide (i = j)) μ (.dat x) (.dat y) = none := by
    unfold ssO
    split
    · rename_i h1 h2; cases h1; cases h2; exact (hs _ _ rfl rfl).elim
    · rfl
  show (ssO _ _ _ _).or (eqData true μ _ _) = _
  rw [z, Option.none_or]
  unfold eqData
  simp only [toD, hx, hy]
  rfl
@[simp] theorem eq_ii : opEq μ (.dat (.int i)) (.dat (.int j)) = some (.dat (.bl (decide (i = j)))) := by
  rw [eq_data (p := .int i) (q := .int j) rfl rfl (by intros; contradiction)]
  rfl
@[simp] theorem ne_ii : opNe μ (.dat (.int i)) (.dat (.int j)) = some (.dat (.bl (!decide (i = j)))) := by
  rw [ne_data (p := .int i) (q := .int j) rfl rfl (by intros; contradiction)]
  rfl
@[simp] theorem eq_bb : opEq μ (.dat (.bl a)) (.dat (.bl b)) = some (.dat (.bl (a == b))) := by
  rw [eq_data (p := .bool a) (q := .bool b) rfl rfl (by intros; contradiction)]
  cases a <;> cases b <;> rfl
@[simp] theorem eq_ss : opEq μ (.dat (.str s)) (.dat (.str t)) = some (.dat (.bl (decide (s = t)))) := nr rfl
@[simp] theorem ne_ss : opNe μ (.dat (.str s)) (.dat (.str t)) = some (.dat (.bl (!decide (s = t)))) := nr rfl
@[simp] theorem isN_dat {x : Bool} : isN x μ (.dat d) (.dat .non) = some (.dat (.bl (if x then !d.isNon else d.isNon))) := nr rfl
@[simp] theorem isB_bb {x : Bool} : isB x μ (.dat (.bl a)) (.dat (.bl b)) = some (.dat (.bl (if x then a != b else a == b))) := nr rfl
/-! lists, tuples by place -/
@[simp] theorem rdL_lst : rdL μ (.dat (.lst ds)) = some ds := nr rfl
@[simp] theorem rdL_scr {ns : List Int} : rdL μ (.dat (.scr ns)) = some (ns.map .int) := nr rfl
@[simp] theorem rdL_tup : rdL μ (.dat (.tup ds)) = none := nr rfl
@[simp] theorem rdT_tup : rdT (.dat (.tup ds)) = some ds := nr rfl
@[simp] theorem rdS_lst : rdS μ (.dat (.lst ds)) = some ds := nr rfl
@[simp] theorem rdS_scr {ns : List Int} : rdS μ (.dat (.scr ns)) = some (ns.map .int) := nr rfl
@[simp] theorem rdS_tup : rdS μ (.dat (.tup ds)) = some ds := nr rfl
theorem rdL_loc (h : μ[k]? = some (.lst ds)) : rdL μ (.loc k) = some ds := by simp [rdL, h]
theorem rdS_loc (h : μ[k]? = some (.lst ds)) : rdS μ (.loc k) = some ds := by unfold rdS; rw [rdL_loc h]; rfl
@[simp] theorem rdL_loc0 : rdL (.lst ds :: μ) (.loc 0) = some ds := nr rfl
@[simp] theorem rdL_locs : rdL (c :: μ) (.loc (k + 1)) = rdL μ (.loc k) := by simp [rdL]
@[simp] theorem rdS_loc0 : rdS (.lst ds :: μ) (.loc 0) = some ds := nr rfl
@[simp] theorem rdS_locs : rdS (c :: μ) (.loc (k + 1)) = rdS μ (.loc k) := by simp [rdS, rdT]
theorem ix_sq (h : rdS μ v = some ds) (h2 : atI ds i = some d) : opIx μ v (.dat (.int i)) = some (.dat d) := by
  show (ixL _ _ _).or _ = _
  have e : ixL μ v (.dat (.int i)) = some (.dat d) := by unfold ixL; simp [h, h2]
  rw [e]; rfl
def ixO (o : Option D) : Option Res := o.map .dat
@[simp] theorem ixO_some : ixO (some d) = some (.dat d) := nr rfl
@[simp] theorem atI_0 : atI (d :: ds) 0 = some d := by simp [atI, ixN]
theorem atI_nat (h : n < ds.length) : atI ds (n : Int) = some ds[n] := by simp [atI, ixN, h]
theorem atI_in (h0 : 0 ≤ i) (h : i < ds.length) : atI ds i = some (ds.getD i.toNat .non) := by
  have h2 : i.toNat < ds.length := by omega
  simp [atI, ixN, h0, h, h2, List.getD_eq_getElem?_getD]
theorem atI_1 {d1 : D} : atI (d :: d1 :: ds) 1 = some d1 := atI_nat (n := 1) (ds := d :: d1 :: ds) (by simp)
theorem atI_2 {d1 d2 : D} : atI (d :: d1 :: d2 :: ds) 2 = some d2 := atI_nat (n := 2) (ds := d :: d1 :: d2 :: ds) (by simp)
/-- read at a place that stands -/
@[simp] theorem ix_t1 : opIx μ (.dat (.tup (d :: ds))) (.dat (.int 0)) = some (.dat d) := ix_sq rfl (by simp)
@[simp] theorem ix_t2 {d1 : D} : opIx μ (.dat (.tup (d :: d1 :: ds))) (.dat (.int 1)) = some (.dat d1) := ix_sq rfl atI_1
@[simp] theorem ix_t3 {d1 d2 : D} : opIx μ (.dat (.tup (d :: d1 :: d2 :: ds))) (.dat (.int 2)) = some (.dat d2) := ix_sq rfl atI_2
@[simp] theorem ix_l1 : opIx μ (.dat (.lst (d :: ds))) (.dat (.int 0)) = some (.dat d) := ix_sq rfl (by simp)
@[simp] theorem ix_c1 (h : rdS μ (.loc k) = some (d :: ds)) : opIx μ (.loc k) (.dat (.int 0)) = some (.dat d) := ix_sq h (by simp)
@[simp] theorem ix_c2 {d1 : D} (h : rdS μ (.loc k) = some (d :: d1 :: ds)) : opIx μ (.loc k) (.dat (.int 1)) = some (.dat d1) := ix_sq h atI_1
@[simp] theorem ix_cc1 {μ : Sto} : opIx (.lst (d :: ds) :: μ) (.loc 0) (.dat (.int 0)) = some (.dat d) := ix_sq rfl (by simp)
@[simp] theorem ix_cc2 {μ : Sto} {d1 : D} : opIx (.lst (d :: d1 :: ds) :: μ) (.loc 0) (.dat (.int 1)) = some (.dat d1) := ix_sq rfl atI_1
/-! built-ins -/
@[simp] theorem len_l : opLen μ [.dat (.lst ds)] = some (.dat (.int ds.length)) := nr rfl
@[simp] theorem len_t : opLen μ [.dat (.tup ds)] = some (.dat (.int ds.length)) := nr rfl
@[simp] theorem len_scr {ns : List Int} : opLen μ [.dat (.scr ns)] = some (.dat (.int ns.length)) := by
  show some (Res.dat (.int (ns.map D.int).length)) = _
  simp
theorem len_sq (h : rdS μ v = some ds) : opLen μ [v] = some (.dat (.int ds.length)) := by
  unfold opLen
  simp [lenS, c1, h]
theorem len_loc (h : μ[k]? = some (.lst ds)) : opLen μ [.loc k] = some (.dat (.int ds.length)) := len_sq (rdS_loc h)
@[simp] theorem max_ii : opMax2 μ [.dat (.int i), .dat (.int j)] = some (.dat (.int (max i j))) := by
  show some (Res.dat (.int (if j > i then j else i))) = _
  congr 3
  split <;> omega
@[simp] theorem min_ii : opMin2 μ [.dat (.int i), .dat (.int j)] = some (.dat (.int (min i j))) := by
  show some (Res.dat (.int (if j < i then j else i))) = _
  congr 3
  split <;> omega
@[simp] theorem tuple_l : opTuple μ [.dat (.lst ds)] = some (.dat (.tup ds)) := nr rfl
@[simp] theorem tuple_t : opTuple μ [.dat (.tup ds)] = some (.dat (.tup ds)) := nr rfl
@[simp] theorem list_l : opList μ [.dat (.lst ds)] = some (.new (.lst ds)) := nr rfl
@[simp] theorem list_t : opList μ [.dat (.tup ds)] = some (.new (.lst ds)) := nr rfl
theorem tuple_sq (h : rdS μ v = some ds) : opTuple μ [v] = some (.dat (.tup ds)) := by simp [opTuple, c1, h]
theorem list_sq (h : rdS μ v = some ds) : opList μ [v] = some (.new (.lst ds)) := by simp [opList, c1, h]
/-! kinds -/
def D.noDct : D → Bool
  | .dct _ => false
  | _ => true
def D.isA (d : D) (t : Ty) : Bool := d.kd.isT t
theorem isi_dat {t : Ty} (h : d.noDct = true) : isiV t μ (.dat d) = some (d.isA t) := by
  cases d <;> first | rfl | cases h
def isiO (μ : Sto) : Option Bool → Out Res
  | some b => .ok (.dat (.bl b)) μ
  | none => .stuck
@[simp] theorem isiO_some : isiO μ (some a) = .ok (.dat (.bl a)) μ := nr rfl
def isiK (t : Ty) (v : Val) (μ : Sto) : Out Res := isiO μ (isiV t μ v)
@[simp] theorem isiK_ap {t : Ty} : isiK t v μ = isiO μ (isiV t μ v) := nr rfl
theorem sIsi_eq {t : Ty} {f : SE} {ρ : Env} : sIsi t f ρ μ = opd (f ρ μ) (isiK t) := nr rfl
@[simp] theorem sIsi_ap {t : Ty} {f : SE} {ρ : Env} : sIsi t f ρ μ = opd (f ρ μ) (isiK t) := sIsi_eq
@[simp] theorem isi_int {t : Ty} : isiV t μ (.dat (.int i)) = some (Kd.isT .int t) := nr rfl
@[simp] theorem isi_bl {t : Ty} : isiV t μ (.dat (.bl a)) = some (Kd.isT .bl t) := nr rfl
@[simp] theorem isi_str {t : Ty} : isiV t μ (.dat (.str s)) = some (Kd.isT .str t) := nr rfl
@[simp] theorem isi_non {t : Ty} : isiV t μ (.dat .non) = some (Kd.isT .non t) := nr rfl
@[simp] theorem isi_tup {t : Ty} : isiV t μ (.dat (.tup ds)) = some (Kd.isT .tup t) := nr rfl
@[simp] theorem isi_lst {t : Ty} : isiV t μ (.dat (.lst ds)) = some (Kd.isT .lst t) := nr rfl
@[simp] theorem isi_dic {t : Ty} {x : List (Key × D)} : isiV t μ (.dat (.dic x)) = some (Kd.isT .dic t) := nr rfl
@[simp] theorem isi_scr {t : Ty} {x : List Int} : isiV t μ (.dat (.scr x)) = some (Kd.isT .lst t) := nr rfl
def isi2O (μ : Sto) : Option Bool → Option Bool → Out Res
  | some b, some c => .ok (.dat (.bl (b || c))) μ
  | _, _ => .stuck
@[simp] theorem isi2O_some : isi2O μ (some a) (some b) = .ok (.dat (.bl (a || b))) μ := nr rfl
def isi2K (t u : Ty) (v : Val) (μ : Sto) : Out Res := isi2O μ (isiV t μ v) (isiV u μ v)
@[simp] theorem isi2K_ap {t u : Ty} : isi2K t u v μ = isi2O μ (isiV t μ v) (isiV u μ v) := nr rfl
theorem sIsi2_eq {t u : Ty} {f : SE} {ρ : Env} : sIsi2 t u f ρ μ = opd (f ρ μ) (isi2K t u) := by
  unfold sIsi2
  congr 1
@[simp] theorem sIsi2_ap {t u : Ty} {f : SE} {ρ : Env} : sIsi2 t u f ρ μ = opd (f ρ μ) (isi2K t u) := sIsi2_eq
/-! slices -/
@[simp] theorem sOpt_none {ρ : Env} {kk : Option Int → Sto → Out Res} : sOpt none ρ μ kk = kk none μ := nr rfl
def optV (kk : Option Int → Sto → Out Res) (v : Val) (μ : Sto) : Out Res := match v with
  | .dat (.int i) => kk (some i) μ
  | _ => .stuck
@[simp] theorem optV_int {kk : Option Int → Sto → Out Res} : optV kk (.dat (.int i)) μ = kk (some i) μ := nr rfl
@[simp] theorem sOpt_some {ρ : Env} {g : SE} {kk : Option Int → Sto → Out Res} : sOpt (some g) ρ μ kk = opd (g ρ μ) (optV kk) := nr rfl
def slK3 (a : Val) (l h : Option Int) (μ : Sto) : Out Res := outO (opSl μ a l h) μ
@[simp] theorem slK3_ap {l h : Option Int} : slK3 v l h μ = outO (opSl μ v l h) μ := nr rfl
def slK2 (hi : Option SE) (ρ : Env) (a : Val) (l : Option Int) (μ : Sto) : Out Res := sOpt hi ρ μ (slK3 a l)
@[simp] theorem slK2_ap {hi : Option SE} {ρ : Env} {l : Option Int} : slK2 hi ρ v l μ = sOpt hi ρ μ (slK3 v l) := nr rfl
def slK1 (lo hi : Option SE) (ρ : Env) (a : Val) (μ : Sto) : Out Res := sOpt lo ρ μ (slK2 hi ρ a)
@[simp] theorem slK1_ap {lo hi : Option SE} {ρ : Env} : slK1 lo hi ρ v μ = sOpt lo ρ μ (slK2 hi ρ v) := nr rfl
theorem sSl_eq {f : SE} {lo hi : Option SE} {ρ : Env} : sSl f lo hi ρ μ = opd (f ρ μ) (slK1 lo hi ρ) := nr rfl
@[simp] theorem sSl_ap {f : SE} {lo hi : Option SE} {ρ : Env} : sSl f lo hi ρ μ = opd (f ρ μ) (slK1 lo hi ρ) := sSl_eq
@[simp] theorem sl_tup {l h : Option Int} : opSl μ (.dat (.tup ds)) l h = some (.dat (.tup (cut ds l h))) := nr rfl
@[simp] theorem sl_lst {l h : Option Int} : opSl μ (.dat (.lst ds)) l h = some (.new (.lst (cut ds l h))) := nr rfl
theorem sl_rd {l h : Option Int} (q : rdL μ (.loc k) = some ds) : opSl μ (.loc k) l h = some (.new (.lst (cut ds l h))) := by
  simp [opSl, slT, slL, rdT, q]
theorem cut_to {τ : Type} {xs : List τ} {i : Int} (h : 0 ≤ i) : cut xs none (some i) = xs.take i.toNat := by
  unfold cut HT.sIx
  simp only [if_neg (Int.not_lt.mpr h), Nat.sub_zero, List.drop_zero]
  rw [Nat.min_comm, ← List.take_take]
  exact List.take_of_length_le (by rw [List.length_take]; omega)
theorem cut_from {τ : Type} {xs : List τ} {i : Int} (h : 0 ≤ i) : cut xs (some i) none = xs.drop i.toNat := by
  unfold cut HT.sIx
  simp only [if_neg (Int.not_lt.mpr h)]
  by_cases hl : i.toNat ≤ xs.length
  · rw [Nat.min_eq_left hl]
    exact List.take_of_length_le (by simp)
  · rw [Nat.min_eq_right (by omega), List.drop_eq_nil_of_le (by omega : xs.length ≤ i.toNat)]
    simp
theorem cut_mid {τ : Type} {xs : List τ} {i j : Int} (h : 0 ≤ i) (h2 : 0 ≤ j) : cut xs (some i) (some j) = (xs.take j.toNat).drop i.toNat := by
  unfold cut HT.sIx
  simp only [if_neg (Int.not_lt.mpr h), if_neg (Int.not_lt.mpr h2)]
  rw [List.drop_take]
  by_cases hl : i.toNat ≤ xs.length
  · rw [Nat.min_eq_left hl]
    by_cases hj : j.toNat ≤ xs.length
    · rw [Nat.min_eq_left hj]
    · rw [Nat.min_eq_right (by omega), List.take_of_length_le (by simp), List.take_of_length_le (by simp; omega)]
  · rw [List.drop_eq_nil_of_le (by omega : xs.length ≤ i.toNat), List.drop_eq_nil_of_le (by omega)]
    simp
@[simp] theorem cut_to2 {τ : Type} {a b : τ} {xs : List τ} : cut (a :: b :: xs) none (some 2) = [a, b] := by rw [cut_to (by decide)]; rfl
@[simp] theorem cut_from1 {τ : Type} {a : τ} {xs : List τ} : cut (a :: xs) (some 1) none = xs := by rw [cut_from (by decide)]; rfl
/-! reversed -/
def revK (v : Val) (μ : Sto) : Out Res := match rdL μ v with
  | some ds => .ok (.new (.lst ds.reverse)) μ
  | none => match rdT v with
    | some ds => .ok (.dat (.tup ds.reverse)) μ
    | none => .stuck
theorem revK_rd (h : rdL μ v = some ds) : revK v μ = .ok (.new (.lst ds.reverse)) μ := by simp [revK, h]
@[simp] theorem revK_lst : revK (.dat (.lst ds)) μ = .ok (.new (.lst ds.reverse)) μ := nr rfl
@[simp] theorem revK_tup : revK (.dat (.tup ds)) μ = .ok (.dat (.tup ds.reverse)) μ := nr rfl
theorem sRevA_eq {f : SE} {ρ : Env} : sRevA f ρ μ = opd (f ρ μ) revK := nr rfl
@[simp] theorem sRevA_ap {f : SE} {ρ : Env} : sRevA f ρ μ = opd (f ρ μ) revK := sRevA_eq
/-! sorted(set(..)) -/
def riO (μ : Sto) : Option (List D) → Out Res
  | some es => .ok (.new (.lst es)) μ
  | none => .stuck
@[simp] theorem riO_some : riO μ (some ds) = .ok (.new (.lst ds)) μ := nr rfl
def riK (v : Val) (μ : Sto) : Out Res := match rdL μ v with
  | some ds => riO μ (riseD ds)
  | none => .stuck
theorem riK_rd (h : rdL μ v = some ds) : riK v μ = riO μ (riseD ds) := by simp [riK, h]
@[simp] theorem riK_lst : riK (.dat (.lst ds)) μ = riO μ (riseD ds) := nr rfl
theorem sSortSet_eq {f : SE} {ρ : Env} : sSortSet f ρ μ = opd (f ρ μ) riK := by
  unfold sSortSet
  congr 1
@[simp] theorem sSortSet_ap {f : SE} {ρ : Env} : sSortSet f ρ μ = opd (f ρ μ) riK := sSortSet_eq
theorem intsD_map (ns : List Int) : intsD (ns.map .int) = some ns := by
  induction ns with
  | nil => rfl
  | cons n ns ih => simp [intsD, ih]
theorem riseD_ints {ns : List Int} (h : ns.length < 4095) : riseD (ns.map .int) = some ((riseI ns).map .int) := by
  unfold riseD
  rw [intsD_map]
  exact if_pos (by omega)
/-! all -/
theorem blsD_map {τ : Type} (p : τ → Bool) (xs : List τ) : blsD (xs.map fun d => .bl (p d)) = some (xs.map p) := by
  induction xs with
  | nil => rfl
  | cons x xs ih => simp [blsD, ih]
theorem all_map {τ : Type} (p : τ → Bool) (xs : List τ) : opAll μ [.dat (.lst (xs.map fun d => .bl (p d)))] = some (.dat (.bl (xs.all p))) := by
  simp [opAll, c1, blsD_map]
/-! lists against [] -/
theorem mapM_py {n : Nat} (h : ∀ d ∈ ds, ∃ p, D.py n d = some p) : ∃ ps, ds.mapM (D.py n) = some ps ∧ ps.length = ds.length := by
  induction ds with
  | nil => exact ⟨[], rfl, rfl⟩
  | cons d ds ih =>
    obtain ⟨p, e⟩ := h d List.mem_cons_self
    obtain ⟨ps, e2, l⟩ := ih fun d hd => h d (List.mem_cons_of_mem _ hd)
    exact ⟨p :: ps, by rw [List.mapM_cons, e, e2]; rfl, by simp [l]⟩
theorem eqv_nil {ps : List PyData} : PyData.eqv (.list ps) (.list []) = ps.isEmpty := by cases ps <;> rfl
theorem ne_nil (h : ∀ d ∈ ds, ∃ p, D.py 29 d = some p) : opNe μ (.dat (.lst ds)) (.dat (.lst [])) = some (.dat (.bl (!ds.isEmpty))) := by
  obtain ⟨ps, e, l⟩ := mapM_py h
  rw [ne_data (p := .list ps) (q := .list []) (by simp [D.py, e]) rfl (by intros; contradiction), eqv_nil]
  cases ps <;> cases ds <;> first | rfl | simp at l
theorem eq_nil (h : ∀ d ∈ ds, ∃ p, D.py 29 d = some p) : opEq μ (.dat (.lst ds)) (.dat (.lst [])) = some (.dat (.bl ds.isEmpty)) := by
  obtain ⟨ps, e, l⟩ := mapM_py h
  rw [eq_data (p := .list ps) (q := .list []) (by simp [D.py, e]) rfl (by intros; contradiction), eqv_nil]
  cases ps <;> cases ds <;> first | rfl | simp at l
/-- well made: no dicts, not too long, not too deep -/
def D.fine (N : Nat) : Nat → D → Prop
  | _, .non => True
  | _, .bl _ => True
  | _, .int _ => True
  | _, .str s => PyData.strOk s = true ∧ s.cps.size ≤ 1000
  | k + 1, .tup ds => ds.length ≤ N ∧ ∀ d ∈ ds, D.fine N k d
  | k + 1, .lst ds => ds.length ≤ N ∧ ∀ d ∈ ds, D.fine N k d
  | _, _ => False
theorem fine_nd {N : Nat} (h : D.fine N k d) : d.noDct = true := by
  cases d <;> first | rfl | (cases k <;> exact h.elim)
theorem fine_up {N M : Nat} (hM : N ≤ M) : ∀ {k j : Nat} {d : D}, k ≤ j → D.fine N k d → D.fine M j d
  | _, _, .non, _, _ => by unfold D.fine; trivial
  | _, _, .bl _, _, _ => by unfold D.fine; trivial
  | _, _, .int _, _, _ => by unfold D.fine; trivial
  | k, j, .str s, _, h => by
    have h : PyData.strOk s = true ∧ s.cps.size ≤ 1000 := by cases k <;> simpa [D.fine] using h
    cases j <;> simpa [D.fine] using h
  | 0, _, .tup ds, _, h => by simp [D.fine] at h
  | 0, _, .lst ds, _, h => by simp [D.fine] at h
  | k + 1, 0, .tup ds, hk, _ => by omega
  | k + 1, 0, .lst ds, hk, _ => by omega
  | k + 1, j + 1, .tup ds, hk, h => by
    simp only [D.fine] at h ⊢
    exact ⟨by omega, fun d hd => fine_up hM (by omega) (h.2 d hd)⟩
  | k + 1, j + 1, .lst ds, hk, h => by
    simp only [D.fine] at h ⊢
    exact ⟨by omega, fun d hd => fine_up hM (by omega) (h.2 d hd)⟩
  | k, _, .dic x, _, h => by cases k <;> simp [D.fine] at h
  | k, _, .dct x, _, h => by cases k <;> simp [D.fine] at h
  | k, _, .scr x, _, h => by cases k <;> simp [D.fine] at h
theorem fine_py {N : Nat} : ∀ {k : Nat} {d : D}, D.fine N k d → ∃ p, D.py k d = some p
  | k, .non, _ => ⟨.none, by cases k <;> rfl⟩
  | k, .bl b, _ => ⟨.bool b, by cases k <;> rfl⟩
  | k, .int i, _ => ⟨.int i, by cases k <;> rfl⟩
  | k, .str s, h => ⟨.str s, by
    have hs : PyData.strOk s = true ∧ s.cps.size ≤ 1000 := by cases k <;> simpa [D.fine] using h
    cases k <;> simp [D.py, hs.1]⟩
  | 0, .tup ds, h => by simp [D.fine] at h
  | 0, .lst ds, h => by simp [D.fine] at h
  | k + 1, .tup ds, h => by
    simp only [D.fine] at h
    obtain ⟨ps, e, _⟩ := mapM_py fun d hd => fine_py (h.2 d hd)
    exact ⟨.tuple ps, by simp [D.py, e]⟩
  | k + 1, .lst ds, h => by
    simp only [D.fine] at h
    obtain ⟨ps, e, _⟩ := mapM_py fun d hd => fine_py (h.2 d hd)
    exact ⟨.list ps, by simp [D.py, e]⟩
  | k, .dic x, h => by cases k <;> simp [D.fine] at h
  | k, .dct x, h => by cases k <;> simp [D.fine] at h
  | k, .scr x, h => by cases k <;> simp [D.fine] at h
/-! dicts -/
@[simp] theorem sNewK_ap {ρ : Env} : sNewK ρ μ = .ok (.new (.dic [])) μ := nr rfl
@[simp] theorem sNewT_ap {ρ : Env} : sNewT ρ μ = .ok (.new (.dct [])) μ := nr rfl
def getR (z : Val) (μ : Sto) : Option (Option D) → Out Res
  | some (some d) => .ok (.dat d) μ
  | some none => match z with
    | .dat d => .ok (.dat d) μ
    | .loc _ => .stuck
  | none => .stuck
@[simp] theorem getR_some {z : Val} : getR z μ (some (some d)) = .ok (.dat d) μ := nr rfl
@[simp] theorem getR_none : getR (.dat d) μ (some none) = .ok (.dat d) μ := nr rfl
theorem getR_getD {o : Option D} : getR (.dat e) μ (some o) = .ok (.dat (o.getD e)) μ := by cases o <;> rfl
def getK3 (v i z : Val) (μ : Sto) : Out Res := getR z μ (getD μ v i)
@[simp] theorem getK3_ap {i z : Val} : getK3 v i z μ = getR z μ (getD μ v i) := nr rfl
def getK2 (h : SE) (ρ : Env) (v i : Val) (μ : Sto) : Out Res := opd (h ρ μ) (getK3 v i)
@[simp] theorem getK2_ap {h : SE} {ρ : Env} {i : Val} : getK2 h ρ v i μ = opd (h ρ μ) (getK3 v i) := nr rfl
def getK1 (g h : SE) (ρ : Env) (v : Val) (μ : Sto) : Out Res := if isDicV μ v = true then opd (g ρ μ) (getK2 h ρ v) else .stuck
@[simp] theorem getK1_ap {g h : SE} {ρ : Env} : getK1 g h ρ v μ = if isDicV μ v = true then opd (g ρ μ) (getK2 h ρ v) else .stuck := nr rfl
theorem sGet2_eq {f g h : SE} {ρ : Env} : sGet2 f g h ρ μ = opd (f ρ μ) (getK1 g h ρ) := by
  unfold sGet2
  congr 1
@[simp] theorem sGet2_ap {f g h : SE} {ρ : Env} : sGet2 f g h ρ μ = opd (f ρ μ) (getK1 g h ρ) := sGet2_eq
@[simp] theorem rdD_dic {x : List (Key × D)} : rdD μ (.dat (.dic x)) = some x := nr rfl
@[simp] theorem rdD_loc0 {μ : Sto} {x : List (Key × D)} : rdD (.dic x :: μ) (.loc 0) = some x := nr rfl
@[simp] theorem rdD_locs {μ : Sto} : rdD (c :: μ) (.loc (k + 1)) = rdD μ (.loc k) := by simp [rdD]
theorem rdD_loc {x : List (Key × D)} (h : μ[k]? = some (.dic x)) : rdD μ (.loc k) = some x := by simp [rdD, h]
@[simp] theorem isDicV_rd {x : List (Key × D)} (h : rdD μ v = some x) : isDicV μ v = true := by simp [isDicV, h]
@[simp] theorem keyD_int : keyD (.dat (.int i)) = some (.inl i) := nr rfl
@[simp] theorem keyD_str : keyD (.dat (.str s)) = some (.inr s) := nr rfl
theorem getD_rd {x : List (Key × D)} {key : Key} (h : rdD μ v = some x) (h2 : keyD w = some key) : getD μ v w = some (dGet x key) := by simp [getD, h, h2]
@[simp] theorem getD_int {x : List (Key × D)} (h : rdD μ v = some x) : getD μ v (.dat (.int i)) = some (dGet x (.inl i)) := getD_rd h rfl
@[simp] theorem setC_d0 {μ : Sto} {x : List (Key × D)} (h : x.length < sizeLine) : setC (.dic x :: μ) 0 (.dat (.int i)) d = some (.dic (dPut x (.inl i) d) :: μ) := by
  simp [setC, h]
theorem ix_dic {x : List (Key × D)} {key : Key} (h : rdD μ v = some x) (h2 : keyD w = some key) (h3 : dGet x key = some d) : opIx μ v w = some (.dat d) := by
  have nl : rdS μ v = none := by
    cases v with
    | dat z => cases z <;> simp [rdD] at h <;> rfl
    | loc z =>
      simp only [rdD] at h
      split at h
      · rename_i q; simp [rdS, rdL, rdT, q]
      · cases h
  have e1 : ixL μ v w = none := by
    unfold ixL
    split
    · rw [nl]
    · rfl
  have e2 : ixStr μ v w = none := by
    cases v with
    | dat z => cases z <;> simp [rdD] at h <;> rfl
    | loc z => rfl
  have e3 : ixD μ v w = some (.dat d) := by simp [ixD, h, h2, h3]
  simp [opIx, orO, e1, e2, e3]
/-! append -/
def metR (x : Exn) : Option (Res × Sto) → Out Res
  | some (r, μ) => .ok r μ
  | none => .stuck
theorem sMet_loc {op : MOp} {f : SE} {fs : List SE} {ρ : Env} {μ1 μ2 μ3 : Sto} {as : List Val} {r : Res} (h1 : f ρ μ = .ok (.loc k) μ1) (h2 : μ1[k]? = some (.lst ds)) (h3 : sArgs fs ρ μ1 = .ok as μ2) (h4 : op μ2 k as = some (r, μ3)) : sMetL op f fs ρ μ = .ok r μ3 := by
  unfold sMetL
  simp only [h1, opd, Res.val, h2, h3, h4]
theorem append_ok (h : μ[k]? = some (.lst ds)) (h2 : ds.length < sizeLine) : opAppend μ k [.dat d] = some (.dat .non, μ.set k (.lst (ds ++ [d]))) := by
  simp [opAppend, h, h2]
/-! stores -/
@[simp] theorem setC_0 {μ : Sto} (h : ixN ds.length i = some n) : setC (.lst ds :: μ) 0 (.dat (.int i)) d = some (.lst (ds.set n d) :: μ) := by
  simp [setC, h]
theorem setC_l (h : μ[k]? = some (.lst ds)) (h2 : ixN ds.length i = some n) : setC μ k (.dat (.int i)) d = some (μ.set k (.lst (ds.set n d))) := by
  simp [setC, h, h2]
@[simp] theorem ixN_0 : ixN (n + 1) 0 = some 0 := by unfold ixN; rw [if_pos (by omega), if_pos (by omega)]; rfl
@[simp] theorem ixN_1 : ixN (n + 1 + 1) 1 = some 1 := by unfold ixN; rw [if_pos (by omega), if_pos (by omega)]; rfl
end
end Sx

/-! SxRun: what loops and comprehensions come to. -/
namespace Sx
open PySem L2
/-- where a statement comes to, and what holds there -/
def SOut.sat (N B C : Env → Sto → Prop) (R : Res → Sto → Prop) : SOut → Prop
  | .next ρ μ => N ρ μ
  | .brk ρ μ => B ρ μ
  | .cnt ρ μ => C ρ μ
  | .ret r μ => R r μ
  | _ => False
def Out.sat {τ : Type} (Q : τ → Sto → Prop) : Out τ → Prop
  | .ok a μ => Q a μ
  | _ => False
abbrev noE : Env → Sto → Prop := fun _ _ => False
section
variable {N N' B B' C C' : Env → Sto → Prop} {R R' : Res → Sto → Prop} {ρ : Env} {μ : Sto} {g : SG} {b h : SS} {o : SOut} {ds : List D}
theorem SOut.sat.imp (w : o.sat N B C R) (h1 : ∀ ρ μ, N ρ μ → N' ρ μ) (h2 : ∀ ρ μ, B ρ μ → B' ρ μ) (h3 : ∀ ρ μ, C ρ μ → C' ρ μ) (h4 : ∀ r μ, R r μ → R' r μ) : o.sat N' B' C' R' := by
  cases o with
  | next ρ μ => exact h1 _ _ w
  | brk ρ μ => exact h2 _ _ w
  | cnt ρ μ => exact h3 _ _ w
  | ret r μ => exact h4 _ _ w
  | exc x ρ μ => exact w
  | stuck => exact w
theorem sat_seq (w : o.sat (fun ρ μ => (h ρ μ).sat N B C R) B C R) : (sqO o h).sat N B C R := by cases o <;> exact w
theorem forL_sat (P : List D → Env → Sto → Prop) (hs : ∀ d ds ρ μ, P (d :: ds) ρ μ → ∃ ρ1, g (.dat d) ρ = some ρ1 ∧ (b ρ1 μ).sat (P ds) N (P ds) R) (h0 : ∀ ρ μ, P [] ρ μ → N ρ μ) :
    ∀ {ds : List D} {ρ : Env} {μ : Sto}, P ds ρ μ → (forL g b ds ρ μ).sat N B C R
  | [], ρ, μ, p => h0 _ _ p
  | d :: ds, ρ, μ, p => by
    obtain ⟨ρ1, e, w⟩ := hs d ds ρ μ p
    simp only [forL, e]
    cases q : b ρ1 μ with
    | next ρ2 μ2 => rw [q] at w; exact forL_sat P hs h0 w
    | cnt ρ2 μ2 => rw [q] at w; exact forL_sat P hs h0 w
    | brk ρ2 μ2 => rw [q] at w; exact w
    | ret r μ2 => rw [q] at w; exact w
    | exc x ρ2 μ2 => rw [q] at w; exact w
    | stuck => rw [q] at w; exact w
theorem fin_sat {own : Bool} {nb : Nat} {Q : Res → Sto → Prop} (w : o.sat (fun _ μ => Q (.dat .non) (μ.take nb)) noE noE (fun r μ => (retR own nb r μ).sat Q)) : (fin own nb o).sat Q := by
  cases o with
  | next ρ μ => exact w
  | brk ρ μ => exact w.elim
  | cnt ρ μ => exact w.elim
  | ret r μ => exact w
  | exc x ρ μ => exact w.elim
  | stuck => exact w.elim
theorem Out.sat.ex {τ : Type} {Q : τ → Sto → Prop} {o : Out τ} (w : o.sat Q) : ∃ a μ, o = .ok a μ ∧ Q a μ := by
  cases o with
  | ok a μ => exact ⟨a, μ, rfl, w⟩
  | exc x μ => exact w.elim
  | stuck => exact w.elim
/-! ### comprehensions -/
def compO (g : SG) (t : Option SE) (e : SE) (ρ : Env) : Out (List D) → Out Res
  | .ok ds μ => lstO (compL g t e ρ ds μ)
  | .exc x μ => .exc x μ
  | .stuck => .stuck
where lstO : Out (List D) → Out Res
  | .ok ds μ => .ok (.new (.lst ds)) μ
  | _ => .stuck
theorem sComp_eq {f : SI} {t : Option SE} {e : SE} {vs : List Nat} : sComp f g t e vs ρ μ = compO g t e (wipeE ρ vs) (f ρ μ) := by
  unfold sComp compO
  cases f ρ μ with
  | ok ds μ => show _ = compO.lstO _; unfold compO.lstO; rfl
  | exc x μ => rfl
  | stuck => rfl
@[simp] theorem sComp_ap {f : SI} {t : Option SE} {e : SE} {vs : List Nat} : sComp f g t e vs ρ μ = compO g t e (wipeE ρ vs) (f ρ μ) := sComp_eq
@[simp] theorem compO_ok {t : Option SE} {e : SE} : compO g t e ρ (.ok ds μ) = compO.lstO (compL g t e ρ ds μ) := nr rfl
@[simp] theorem lstO_ok : compO.lstO (.ok ds μ) = .ok (.new (.lst ds)) μ := nr rfl
@[simp] theorem wipeE_nil : wipeE ρ [] = ρ := nr rfl
@[simp] theorem wipeE_cons {v : Nat} {vs : List Nat} : wipeE ρ (v :: vs) = (wipeE ρ vs).set v none := nr rfl
/-- no test, the item by a function, nothing changed -/
theorem compL_map {e : SE} (k : D → D) (h : ∀ d ∈ ds, ∃ ρ1, g (.dat d) ρ = some ρ1 ∧ e ρ1 μ = .ok (.dat (k d)) μ) : compL g none e ρ ds μ = .ok (ds.map k) μ := by
  induction ds with
  | nil => rfl
  | cons d ds ih =>
    obtain ⟨ρ1, h1, h2⟩ := h d List.mem_cons_self
    simp only [compL, h1, turnC, tsts, opd, Res.val, onB, h2, ih fun d hd => h d (List.mem_cons_of_mem _ hd), consO, List.map_cons]
/-- a test -/
theorem compL_filter {c e : SE} (p : D → Bool) (k : D → D) (h : ∀ d ∈ ds, ∃ ρ1, g (.dat d) ρ = some ρ1 ∧ c ρ1 μ = .ok (.dat (.bl (p d))) μ ∧ (p d = true → e ρ1 μ = .ok (.dat (k d)) μ)) : compL g (some c) e ρ ds μ = .ok ((ds.filter p).map k) μ := by
  induction ds with
  | nil => rfl
  | cons d ds ih =>
    obtain ⟨ρ1, h1, h2, h3⟩ := h d List.mem_cons_self
    have ih := ih fun d hd => h d (List.mem_cons_of_mem _ hd)
    cases hp : p d with
    | true =>
      rw [hp] at h2
      simp only [compL, h1, turnC, tsts, h2, opd, Res.val, onB, h3 hp, ih, consO, List.filter_cons, hp, if_true, List.map_cons]
    | false =>
      rw [hp] at h2
      simp only [compL, h1, turnC, tsts, h2, opd, Res.val, onB, ih, List.filter_cons, hp, Bool.false_eq_true, if_false]
/-- the store changes: what holds of the items, of the store -/
theorem compL_sat {e : SE} (I : Sto → Prop) (J : D → Prop) (h : ∀ d μ, d ∈ ds → I μ → ∃ ρ1, g (.dat d) ρ = some ρ1 ∧ ∃ r μ', e ρ1 μ = .ok r μ' ∧ (∀ n, r ≠ .loc n) ∧ J (match r.val with | .dat x => x | .loc _ => .non) ∧ I μ') (h0 : I μ) :
    ∃ xs μ', compL g none e ρ ds μ = .ok xs μ' ∧ (∀ x ∈ xs, J x) ∧ I μ' ∧ xs.length = ds.length := by
  induction ds generalizing μ with
  | nil => exact ⟨[], μ, rfl, by simp, h0, rfl⟩
  | cons d ds ih =>
    obtain ⟨ρ1, h1, r, μ', h2, h3, h4, h5⟩ := h d μ List.mem_cons_self h0
    obtain ⟨xs, μ2, e1, e2, e3, e4⟩ := ih (fun d μ hd => h d μ (List.mem_cons_of_mem _ hd)) h5
    cases r with
    | dat x => exact ⟨x :: xs, μ2, by simp only [compL, h1, turnC, tsts, opd, Res.val, onB, h2, e1, consO], fun y hy => (List.mem_cons.mp hy).elim (fun z => z ▸ h4) (e2 y), e3, by simp [e4]⟩
    | new c => exact ⟨c.frz :: xs, μ2, by simp only [compL, h1, turnC, tsts, opd, Res.val, onB, h2, e1, consO], fun y hy => (List.mem_cons.mp hy).elim (fun z => z ▸ h4) (e2 y), e3, by simp [e4]⟩
    | loc n => exact (h3 n rfl).elim
end
/-! ### what is walked -/
section
variable {ρ : Env} {μ : Sto} {ds es : List D} {i j : Int} {ns : List Int}
def iO (k : Val → Sto → Option (List D)) (v : Val) (μ : Sto) : Out (List D) := match k v μ with
  | some ds => .ok ds μ
  | none => .stuck
def lsO (μ : Sto) : Option (List D) → Out (List D)
  | some ds => .ok ds μ
  | none => .stuck
@[simp] theorem lsO_some : lsO μ (some ds) = .ok ds μ := nr rfl
@[simp] theorem opdI_ok {k : Val → Sto → Option (List D)} {r : Res} : opdI (.ok r μ) k = lsO μ (k r.val μ) := by
  unfold opdI lsO
  rfl
@[simp] theorem sIt_ap {f : SE} : sIt f ρ μ = opdI (f ρ μ) itA := nr rfl
@[simp] theorem itA_lst : itA (.dat (.lst ds)) μ = some ds := nr rfl
@[simp] theorem itA_tup : itA (.dat (.tup ds)) μ = some ds := nr rfl
@[simp] theorem itA_scr : itA (.dat (.scr ns)) μ = some (ns.map .int) := nr rfl
def argO (k : List Val → Option (List D)) : Out (List Val) → Out (List D)
  | .ok as μ => lsO μ (k as)
  | .exc x μ => .exc x μ
  | .stuck => .stuck
@[simp] theorem argO_ok {k : List Val → Option (List D)} {as : List Val} : argO k (.ok as μ) = lsO μ (k as) := nr rfl
theorem argI_eq {k : List Val → Option (List D)} {fs : List SE} : argI k fs ρ μ = argO k (sArgs fs ρ μ) := by
  unfold argI argO lsO
  rfl
@[simp] theorem argI_ap {k : List Val → Option (List D)} {fs : List SE} : argI k fs ρ μ = argO k (sArgs fs ρ μ) := argI_eq
@[simp] theorem k1I_ap {k : Val → Option (List D)} {a : Val} : k1I k [a] = k a := nr rfl
@[simp] theorem k2I_ap {k : Val → Val → Option (List D)} {a b : Val} : k2I k [a, b] = k a b := nr rfl
theorem rng1_ok (h : j ≤ 2 ^ 24) (h0 : -(2 ^ 62) ≤ j) : rng1 (.dat (.int j)) = some (rngD 0 j.toNat) := by
  exact if_pos ⟨h0, by omega, by rw [sizeLine_eq]; omega⟩
@[simp] theorem rng1_nat {n : Nat} (h : n ≤ 2 ^ 24) : rng1 (.dat (.int n)) = some (rngD 0 n) := by
  rw [rng1_ok (by omega) (by omega)]
  rfl
theorem rng2_ok (h1 : -(2 ^ 62) ≤ i) (h2 : i < 2 ^ 62) (h3 : -(2 ^ 62) ≤ j) (h4 : j < 2 ^ 62) (h5 : j - i ≤ 2 ^ 24) : rng2 (.dat (.int i)) (.dat (.int j)) = some (rngD i (j - i).toNat) := by
  exact if_pos ⟨h1, h2, h3, h4, by rw [sizeLine_eq]; omega⟩
theorem mem_rng {d : D} {lo : Int} {n : Nat} (h : d ∈ rngD lo n) : ∃ k : Nat, k < n ∧ d = .int (lo + k) := by
  obtain ⟨k, hk, rfl⟩ := List.mem_map.mp h
  exact ⟨k, List.mem_range.mp hk, rfl⟩
@[simp] theorem rngD_zero {lo : Int} : rngD lo 0 = [] := nr rfl
theorem rngD_succ {lo : Int} {n : Nat} : rngD lo (n + 1) = .int lo :: rngD (lo + 1) n := by
  unfold rngD
  rw [List.range_succ_eq_map, List.map_cons, List.map_map]
  congr 1
  · simp
  · apply List.map_congr_left
    intro k _
    simp only [Function.comp_apply, D.int.injEq]
    omega
@[simp] theorem zipL_t : zipL (.dat (.tup ds)) (.dat (.tup es)) = some (zipD ds es) := nr rfl
@[simp] theorem zipL_l : zipL (.dat (.lst ds)) (.dat (.lst es)) = some (zipD ds es) := nr rfl
end
end Sx

/-! SxSc2: a set comprehension of two clauses without tests, its items ints. -/
namespace SxKs
open PySem PySem.Spec PyProof.Rows L2
section
variable {P : Program} {w : World} {A : Around} {E : Value → Shared → Prop} {s : Shared} {a : Addr} {S : Key → Bool} {n : Nat}
theorem setM_of (R : SetM w s.heap a S n) : s.TypeIs (.ref a) "set" := by
  have ⟨o, _, _, _, ho, hx, _⟩ := R
  exact ⟨o, ho, hx.1⟩
/-- one more key is put in -/
theorem setM_put {k : Key} {u : Value} {Q : Value → Shared → Prop} (hk : (mixKind P w).is k u = true) (R : SetM w s.heap a S n) (room : n + 1 < scanBound)
    (hQ : ∀ h' tk, Heap.SameBut a s.heap h' → SetM w h' a (fun j => S j || decide (j = k)) (if S k = true then n else n + 1) → Q .none { s with heap := h', toks := tk }) :
    wpAny (model P w) A (call (.builtin "set.add") [.ref a, u]) Q E s := by
  have ty := setM_of R
  refine wpAny_call_entry F.slot_set_add ty F.entry_set_add ?_ (F.args_set_add_2 _ _)
  unfold Builtin.«set.add» Builtin.Frozenset.oneOther
  simp only [List.isEmpty_nil, bind_assoc]
  unfold Builtin.Frozenset.addrOf setAdd
  refine wpAny_bind (wpAny_pure ?_)
  try dsimp only
  refine wpAny_bind (wpAny_pure ?_)
  try dsimp only
  refine wpAny_bind (wpAny_holding (wpAny_bind ((mixKind P w).pyHash hk ?_)))
  refine setM_add_hashed hk (s := { s with toks := s.toks + 1 }) R room fun h' sb r => ?_
  exact wpAny_pure ⟨_, rfl, hQ h' _ sb r⟩
end
/-- the set of keys at a, as a tracked thing -/
def SetMO (w : World) (a : Addr) (S : Key → Bool) (n : Nat) : HO := .ext fun h => SetM w h a S n
theorem setMO_new {w : World} {P : Program} {H : Hp} {h : Heap} {a : Addr} {S : Key → Bool} {n : Nat} (R : SetM w h a S n) : ObjOk P w H h a (SetMO w a S n) := by
  have ⟨o, _, _, _, ho, _⟩ := R
  exact ⟨R, ⟨o, ho⟩, fun h1 h2 p k => SetM.at p k⟩
section
variable {X : Cx}
theorem setMO_get {pins : List (Addr × Obj)} {σ : L2.St} {H : Hp} {s : Shared} {a : Addr} {S : Key → Bool} {n : Nat} (I : Inv X pins σ H s) (ha : H a = some (SetMO X.w a S n)) : SetM X.w s.heap a S n := (I.hok a _ ha).1
theorem putM_ok {pins : List (Addr × Obj)} {σ : L2.St} {H : Hp} {s : Shared} {E : Value → Shared → Prop} {D : Addr} {S : Key → Bool} {n : Nat} {i : Int} {u : Value} {Q : Value → Shared → Prop} (I : Inv X pins σ H s) (hD : H D = some (SetMO X.w D S n)) (r : RelV (.int i) u) (room : n + 1 < scanBound)
    (h : ∀ s', Inv X pins σ (upd H D (SetMO X.w D (fun j => S j || decide (j = .inl i)) (if S (.inl i) = true then n else n + 1))) s' → Q .none s') : wpAny (model X.prog X.w) X.A (call (.builtin "set.add") [.ref D, u]) Q E s := by
  refine setM_put (k := .inl i) (Sx.int_is r) (setMO_get I hD) room fun h' tk sb new => ?_
  have he : ∃ x, h'.get? D = some x := by
    have ⟨o, _, _, _, ho, _⟩ := new
    exact ⟨o, ho⟩
  exact h _ (I.write (e := D) (t' := tk) (by rw [hD]; trivial) (.inl rfl) (fun b x hb hx => (sb.2 b hb).trans hx) he (setMO_new new))
end
/-! ### the machine's turns -/
section
variable {prog : Program} {w : World} {A : Around} {R : Result → Shared → Prop} {s : Shared} {elt t0 i0 t1 i1 : Expr} {scope : Scope} {pos : Pos} {it acc : Value} {env : Env}
/-- the comprehension itself -/
abbrev sc2 (elt t0 i0 t1 i1 : Expr) (scope : Scope) (pos : Pos) : Expr := .SetComp elt [⟨t0, i0, [], 0⟩, ⟨t1, i1, [], 0⟩] scope pos
theorem turn_outer : compTurn (sc2 elt t0 i0 t1 i1 scope pos) 0 it acc env = (do
      standAt i0.pos
      let r ← pyNext it
      match r with
      | none => pure (.done .next)
      | some v => do
        letOwnedTupleGo t0 it v
        assign t0 env v
        let x ← eval i1 env
        standAt i1.pos
        let x ← foldedSetIterable i1 env x
        let j ← holding [x] (pyIter x)
        let _ ← runOwn (.compStart (sc2 elt t0 i0 t1 i1 scope pos) 1 j acc env) env
        again (.compLoop (sc2 elt t0 i0 t1 i1 scope pos) 0 it acc env)) := by rfl
theorem turn_inner : compTurn (sc2 elt t0 i0 t1 i1 scope pos) 1 it acc env = (do
      standAt i1.pos
      let r ← pyNext it
      match r with
      | none => pure (.done .next)
      | some v => do
        letOwnedTupleGo t1 it v
        assign t1 env v
        (do let y ← eval elt env; standAt elt.pos; let _ ← call (.builtin "set.add") [acc, y])
        again (.compLoop (sc2 elt t0 i0 t1 i1 scope pos) 1 it acc env)) := by rfl
abbrev nt (prog : Program) (w : World) (A : Around) (env : Env) (R : Result → Shared → Prop) : Value → Shared → Prop := notedBy (model prog w) A env fun e s' => R (.error e) s'
theorem loop_outer (hs : ∀ x, foldedSetIterable i1 env x = pure x) (I : Nat → Shared → Prop)
    (turn : ∀ n s, I n s → wpAny (model prog w) A (pyNext it) (fun r s₁ => match r with
      | none => R (.ok .next) s₁
      | some v => wpAny (model prog w) A (letOwnedTupleGo t0 it v) (fun _ s₂ => wpAny (model prog w) A (assign t0 env v) (fun _ s₃ => wpAny (model prog w) A (eval i1 env) (fun x s₄ => wpAny (model prog w) A (pyIter x) (fun j s₅ =>
          codeAny (model prog w) A (.compStart (sc2 elt t0 i0 t1 i1 scope pos) 1 j acc env) (fun r s' => match r with
            | .ok _ => ∃ m, m < n ∧ I m s'
            | .error _ => False) s₅) (nt prog w A env R) s₄) (nt prog w A env R) s₃) (nt prog w A env R) s₂) (nt prog w A env R) s₁) (nt prog w A env R) s)
    (n : Nat) (h : I n s) : codeAny (model prog w) A (.compLoop (sc2 elt t0 i0 t1 i1 scope pos) 0 it acc env) R s := by
  refine codeAny_loop rfl I (fun n s hI => ?_) n h
  show wpAny _ A ((compTurn (sc2 elt t0 i0 t1 i1 scope pos) 0 it acc env).onRaise fun x => do noteFrame x env; theTreesLotGoes x) _ _ s
  refine wpAny_noted ?_
  rw [turn_outer]
  refine wpAny_bind (wpAny_standAt (wpAny_bind (wpAny_mono (turn n s hI) (fun r s₁ g => ?_) fun _ _ q => q)))
  cases r with
  | none => exact wpAny_pure g
  | some v =>
    refine wpAny_bind (wpAny_mono g (fun _ s₂ g => wpAny_bind (wpAny_mono g (fun _ s₃ g => wpAny_bind (wpAny_mono g (fun x s₄ g => ?_) fun _ _ q => q)) fun _ _ q => q)) fun _ _ q => q)
    refine wpAny_bind (wpAny_standAt (wpAny_bind (wpAny_of_eq (hs x) (wpAny_bind (wpAny_holding (wpAny_mono g (fun j s₅ g => ?_) fun _ _ q => q))))))
    refine wpAny_bind (wpAny_runOwn ?_)
    rw [Around.mark_none]
    refine codeAny_mono g fun r s' hr => ?_
    cases r with
    | ok f =>
      first
        | exact wpAny_pure ⟨rfl, hr⟩
        | exact wpAny_bind (wpAny_pure (wpAny_pure ⟨rfl, hr⟩))
    | error e => exact hr.elim
theorem loop_inner (I : Nat → Shared → Prop)
    (turn : ∀ n s, I n s → wpAny (model prog w) A (pyNext it) (fun r s₁ => match r with
      | none => R (.ok .next) s₁
      | some v => wpAny (model prog w) A (letOwnedTupleGo t1 it v) (fun _ s₂ => wpAny (model prog w) A (assign t1 env v) (fun _ s₃ => wpAny (model prog w) A (eval elt env) (fun y s₄ =>
          wpAny (model prog w) A (call (.builtin "set.add") [acc, y]) (fun _ s₅ => ∃ m, m < n ∧ I m s₅) (nt prog w A env R) s₄) (nt prog w A env R) s₃) (nt prog w A env R) s₂) (nt prog w A env R) s₁) (nt prog w A env R) s)
    (n : Nat) (h : I n s) : codeAny (model prog w) A (.compLoop (sc2 elt t0 i0 t1 i1 scope pos) 1 it acc env) R s := by
  refine codeAny_loop rfl I (fun n s hI => ?_) n h
  show wpAny _ A ((compTurn (sc2 elt t0 i0 t1 i1 scope pos) 1 it acc env).onRaise fun x => do noteFrame x env; theTreesLotGoes x) _ _ s
  refine wpAny_noted ?_
  rw [turn_inner]
  refine wpAny_bind (wpAny_standAt (wpAny_bind (wpAny_mono (turn n s hI) (fun r s₁ g => ?_) fun _ _ q => q)))
  cases r with
  | none => exact wpAny_pure g
  | some v =>
    refine wpAny_bind (wpAny_mono g (fun _ s₂ g => wpAny_bind (wpAny_mono g (fun _ s₃ g => ?_) fun _ _ q => q)) fun _ _ q => q)
    exact wpAny_bind (wpAny_bind (wpAny_mono g (fun y s₄ g => wpAny_bind (wpAny_standAt (wpAny_bind (wpAny_mono g (fun _ s₅ g => wpAny_pure (wpAny_pure ⟨rfl, g⟩)) fun _ _ q => q)))) fun _ _ q => q))
theorem start_of {d : Nat} {j : Value} (hd : d < 2) (h0 : codeAny (model prog w) A (.compLoop (sc2 elt t0 i0 t1 i1 scope pos) d j acc env) R s)
    (h : wpAny (model prog w) A (pyIter j) (fun j' s' => codeAny (model prog w) A (.compLoop (sc2 elt t0 i0 t1 i1 scope pos) d j' acc env) R s') (nt prog w A env R) s) :
    codeAny (model prog w) A (.compStart (sc2 elt t0 i0 t1 i1 scope pos) d j acc env) R s := by
  have two : d = 0 ∨ d = 1 := by omega
  rcases two with rfl | rfl <;>
  · refine codeAny_of_tree ?_
    refine wpAny_notedAt ?_
    unfold compStart
    show wpAny _ _ (ask >>= _) _ _ s
    refine wpAny_bind (wpAny_askSetting (wpAny_ite ?_))
    split
    · first
        | exact wpAny_bind (wpAny_pure (wpAny_pure (And.intro rfl h0)))
        | exact wpAny_pure (And.intro rfl h0)
    · first
        | exact wpAny_bind (wpAny_rule (wpAny_bind (wpAny_standAt (wpAny_bind (wpAny_mono h (fun _ _ g => wpAny_pure (And.intro rfl g)) fun _ _ q => q)))))
        | (refine wpAny_bind (wpAny_rule ?_); show wpAny _ _ (standAt i0.pos >>= _) _ _ s; exact wpAny_bind (wpAny_standAt (wpAny_bind (wpAny_mono h (fun _ _ g => wpAny_pure (And.intro rfl g)) fun _ _ q => q))))
        | (refine wpAny_bind (wpAny_rule ?_); show wpAny _ _ (standAt i1.pos >>= _) _ _ s; exact wpAny_bind (wpAny_standAt (wpAny_bind (wpAny_mono h (fun _ _ g => wpAny_pure (And.intro rfl g)) fun _ _ q => q))))
end
/-! ### the reading -/
section
variable {X : Cx}
/-- D is the new set; the inner walk comes to Nx, the outer one to its next turn -/
def tSc2 (w : World) (wo : TI) (go : TG) (wn : TI) (gn : TG) (te : TE) (vs us : List Nat) : TE := fun σ H Q => wo σ H fun J H1 => ∀ D, H1 D = none → ∃ W : Nat → Nat → Hp → Prop, (∃ m, W 0 m (upd H1 D (SetMO w D (fun _ => false) 0))) ∧ ∀ i m H, W i m H →
  (J.stop i H ∧ Q (.ref D) H) ∨ (J.go i H ∧ ∃ Nx : Hp → Prop, (∀ H', Nx H' → ∃ m', m' < m ∧ W (i + 1) m' H') ∧ ∀ x H', J.yld i H x H' → go x (wipe σ vs) H' fun τ H2 => wipe τ vs = wipe σ vs ∧
    wn τ H2 fun K H3 => ∃ V : Nat → Nat → Hp → Prop, (∃ m, V 0 m H3) ∧ ∀ j k H, V j k H →
      (K.stop j H ∧ Nx H) ∨ (K.go j H ∧ ∃ Ny : Hp → Prop, (∀ H', Ny H' → ∃ k', k' < k ∧ V (j + 1) k' H') ∧ ∀ x H', K.yld j H x H' → gn x (wipe τ us) H' fun υ H4 => wipe υ us = wipe τ us ∧
        te υ H4 fun y H5 => ∃ (z : Int) (S : Key → Bool) (n : Nat), y = .int z ∧ H5 D = some (SetMO w D S n) ∧ n + 1 < scanBound ∧ Ny (upd H5 D (SetMO w D (fun j => S j || decide (j = .inl z)) (if S (.inl z) = true then n else n + 1)))))
theorem sc2_run {pins : List (Addr × Obj)} {s : Shared} {σ : L2.St} {H : Hp} {Q : VK} {elt t0 i0 t1 i1 : Expr} {scope : Scope} {own : List (PySem.Str × Nat)} {us : List Nat} {pos pos' : Pos} {wo wn : TI} {go gn : TG} {te : TE} {use : Option (Value → Sem Unit)} {Qf : Value → Shared → Prop}
    (calm : X.calm = true) (nd : X.N.Nodup) (I : Inv X pins σ H s) (po : PI X t0 i0 wo) (ok : BlkOk X.N X.env.scope scope own) (sub : ∀ i ∈ us, i ∈ own.map (·.2))
    (pg0 : ∀ (s : Shared) (H : Hp) (C : Addr) (cl : List (PySem.Str × Addr)) (fp : List Addr), PG (X.blk s H scope (compEnvC scope cl C X.env) fp) t0 go)
    (pn0 : ∀ (s : Shared) (H : Hp) (C : Addr) (cl : List (PySem.Str × Addr)) (fp : List Addr), PI (X.blk s H scope (compEnvC scope cl C X.env) fp) t1 i1 wn)
    (pg1 : ∀ (s : Shared) (H : Hp) (C : Addr) (cl : List (PySem.Str × Addr)) (fp : List Addr), PG (X.blk s H scope (compEnvC scope cl C X.env) fp) t1 gn)
    (pe0 : ∀ (s : Shared) (H : Hp) (C : Addr) (cl : List (PySem.Str × Addr)) (fp : List Addr), PE (X.blk s H scope (compEnvC scope cl C X.env) fp) elt te)
    (f0 : ∀ x, foldedSetIterable i0 X.env x = pure x) (f1 : ∀ env x, foldedSetIterable i1 env x = pure x)
    (h : tSc2 X.w wo go wn gn te (own.map (·.2)) us σ H Q)
    (fin : ∀ D C s' m H', Inv X pins σ H' s' → Q (.ref D) H' → s'.heap.Ns C m → FpOk X pins H' C → compPost (model X.prog X.w) X.A X.xe use Qf (.ref D) C (.ok .next) s') :
    wpAny (model X.prog X.w) X.A (comprehension (sc2 elt t0 i0 t1 i1 scope pos) scope X.env pos' (newSet (.type "set")) false (eval i0 X.env) use) Qf X.xe s := by
  have frees : ∀ y ∈ scope.names, y.2 = .free → ∃ c, X.env.cells.lookup y.1 = some c := fun y hy e => (ok.free y hy e).elim (fun k => I.ok.has _ (.inl k)) fun k => I.ok.has _ (.inr k)
  refine wpAny_comprehension_free (use := use) rfl f0 (closure_ok frees) ok.kind (fun y hy e => by rw [ok.uniq y hy, e]) (thn (po.run pins s σ H _ I h) fun xv s1 hx => thn hx fun itv s2 h2 => ?_)
  obtain ⟨it, fp, tn, J, H2, e, I2, T, st2, f2, q⟩ := h2
  subst e
  refine PpSet.newSet_ok (newEnv_comp ?_)
  generalize hD : s2.heap.objs.size = D
  have hDn : H2 D = none := I2.hok.fresh (Nat.le_of_eq hD)
  obtain ⟨W, ⟨m0, w0⟩, turn⟩ := q D hDn
  generalize hs3 : ({ s2 with heap := s2.heap.push { cls := .type "set", dict := none, data := .set #[] 0 (.fresh 0 0 (!X.w.params.followText "set-order")) } } : Shared) = s3
  have I3 : Inv X pins σ (upd H2 D (SetMO X.w D (fun _ => false) 0)) s3 := by
    rw [← hs3]
    refine I2.laid (t' := s2.toks) (fun b o e => Heap.get?_push_of_some _ e) (Nat.le_of_eq hD) ?_
    rw [← hD]
    refine setMO_new ((setM_new_at (ns := []) (Heap.get?_push_size _ rfl)).congr fun k => ?_)
    simp
  have e3 : s3.heap = s2.heap.push { cls := .type "set", dict := none, data := .set #[] 0 (.fresh 0 0 (!X.w.params.followText "set-order")) } := by rw [← hs3]
  have low : ∀ b ∈ fp, b < s2.heap.objs.size := fun b hb => let ⟨_, e, _⟩ := T.obj _ _ st2 b hb; Heap.lt_size e
  have f3 : ∀ b ∈ fp, FpOk X pins (upd H2 D (SetMO X.w D (fun _ => false) 0)) b ∧ b < s3.heap.objs.size := fun b hb => by
    have lt := low b hb
    refine ⟨⟨?_, (f2 b hb).2⟩, by rw [e3, Heap.size_push]; exact Nat.lt_succ_of_lt lt⟩
    rw [upd_ne (by rw [← hD]; exact Nat.ne_of_lt lt)]
    exact (f2 b hb).1
  have st3 : tn 0 s3.heap := T.keep _ _ _ st2 fun b _ o e => by rw [e3]; exact Heap.get?_push_of_some _ e
  have I4 := block_start I3 ok nd f3
  have rg0 := pg0 s3 (upd H2 D (SetMO X.w D (fun _ => false) 0)) s3.heap.objs.size (cellsFrom (s3.heap.objs.size + 1) scope.names (cloFrom X.env.cells scope.names [])) fp
  have rn0 := pn0 s3 (upd H2 D (SetMO X.w D (fun _ => false) 0)) s3.heap.objs.size (cellsFrom (s3.heap.objs.size + 1) scope.names (cloFrom X.env.cells scope.names [])) fp
  have rg1 := pg1 s3 (upd H2 D (SetMO X.w D (fun _ => false) 0)) s3.heap.objs.size (cellsFrom (s3.heap.objs.size + 1) scope.names (cloFrom X.env.cells scope.names [])) fp
  have re0 := pe0 s3 (upd H2 D (SetMO X.w D (fun _ => false) 0)) s3.heap.objs.size (cellsFrom (s3.heap.objs.size + 1) scope.names (cloFrom X.env.cells scope.names [])) fp
  show codeAny _ _ (.compStart (sc2 elt t0 i0 t1 i1 scope pos) 0 (.ref it) (.ref D) (compEnvC scope (cellsFrom (s3.heap.objs.size + 1) scope.names (cloFrom X.env.cells scope.names [])) s3.heap.objs.size X.env)) (compPost (model X.prog X.w) X.A X.xe use Qf (.ref D) s3.heap.objs.size) { s3 with heap := pushCells (s3.heap.push { cls := .type "dict", data := .dict #[] }) scope.names }
  have off0 : ∀ b ∈ fp, (upd H2 D (SetMO X.w D (fun _ => false) 0)) b = none := fun b hb => (f3 b hb).1.1
  generalize hce : compEnvC scope (cellsFrom (s3.heap.objs.size + 1) scope.names (cloFrom X.env.cells scope.names [])) s3.heap.objs.size X.env = ce at I4 rg0 rn0 rg1 re0 ⊢
  have cL : ce.locals = s3.heap.objs.size := by subst hce; rfl
  generalize hH3 : upd H2 D (SetMO X.w D (fun _ => false) 0) = H3 at I3 I4 rg0 rn0 rg1 re0 w0 off0 f3
  generalize hs4 : ({ s3 with heap := pushCells (s3.heap.push { cls := .type "dict", data := .dict #[] }) scope.names } : Shared) = s4 at I4 ⊢
  have st4 : tn 0 s4.heap := T.keep _ _ _ st3 fun b _ o e => by rw [← hs4]; exact pushCells_keeps _ _ _ _ (Heap.get?_push_of_some _ e)
  have still : ∀ {σ' : L2.St} {H' : Hp} {s' : Shared}, Inv (X.blk s3 H3 scope ce fp) [] σ' H' s' → (∀ b ∈ fp, H' b = none) → ∀ b ∈ fp, FpOk (X.blk s3 H3 scope ce fp) [] H' b := fun {σ' H' s'} I' hn b hb =>
    ⟨hn b hb, (I'.ok.exf b hb).1, I'.ok.exfs b hb, .inl hb, fun x c e => (I'.ok.exf b hb).2 x c e, fun p hp => absurd (show p ∈ ([] : List (Addr × Obj)) ++ [] from hp) (by simp)⟩
  have loop : codeAny (model X.prog X.w) X.A (.compLoop (sc2 elt t0 i0 t1 i1 scope pos) 0 (.ref it) (.ref D) ce) (compPost (model X.prog X.w) X.A X.xe use Qf (.ref D) s3.heap.objs.size) s4 := by
    refine loop_outer (f1 ce) (fun n s' => ∃ i H', Inv (X.blk s3 H3 scope ce fp) [] (wipe σ (own.map (·.2))) H' s' ∧ tn i s'.heap ∧ (∀ b ∈ fp, H' b = none) ∧ W i n H') ?_ m0 ⟨0, H3, I4, st4, off0, w0⟩
    rintro n s5 ⟨i, H5, I5, st5, n5, w5⟩
    rcases turn i n H5 w5 with ⟨stop, qq⟩ | ⟨goes, Nx, hNx, step⟩
    · refine thnF (T.done (X.blk s3 H3 scope ce fp) rfl rfl rfl calm i [] s5 _ H5 (fun _ _ => False) I5 (still I5 n5) st5 stop) fun r s6 ⟨hr, I6⟩ => ?_
      subst hr
      have I7 : Inv X pins σ H5 s6 := I3.call' (ch := fp) I6.os I6.base I6.hok I6.bare fun b hb => ⟨(f3 b hb).1.2.2.2.1, (f3 b hb).1.2.1, (f3 b hb).1.2.2.2.2.1, (f3 b hb).1.2.2.2.2.2⟩
      have nC : H5 s3.heap.objs.size = none := cL ▸ (show H5 ce.locals = none from I6.free)
      obtain ⟨m, hn, _⟩ := I6.loc
      have hn : s6.heap.Ns s3.heap.objs.size m := cL ▸ (show s6.heap.Ns ce.locals m from hn)
      exact fin D s3.heap.objs.size s6 m H5 I7 qq hn (I3.fpOk (Nat.le_refl _) nC)
    · refine thnF (T.item (X.blk s3 H3 scope ce fp) rfl rfl rfl calm i [] s5 _ H5 (fun _ _ => False) I5 (still I5 n5) st5 goes) fun r s6 ⟨u, hr, h6⟩ => ?_
      subst hr
      refine thnF h6 fun _ s7 ⟨x, H7, I7, r7, y7, st7, n7⟩ => ?_
      have I7' := I7.pinned (still I7 n7) (T.obj _ _ st7)
      refine thnF (rg0.run _ s7 _ H7 x u _ I7' r7 (step x H7 y7)) fun _ s8 ⟨τ, H8, I8, hw8, q8⟩ => ?_
      have turned : ∀ {τ' : L2.St} {s' : Shared} {H' : Hp}, Inv (X.blk s3 H3 scope ce fp) ([] ++ pinsAt fp s7.heap) τ' H' s' → (wipe σ (own.map (·.2))).length = τ'.length → (∀ (j : Nat) v, (wipe σ (own.map (·.2)))[j]? = some (some v) → τ'[j]? = some (some v)) → Nx H' →
          ∃ m, m < n ∧ ∃ i H', Inv (X.blk s3 H3 scope ce fp) [] (wipe σ (own.map (·.2))) H' s' ∧ tn i s'.heap ∧ (∀ b ∈ fp, H' b = none) ∧ W i m H' := fun {τ' s' H'} I' hl hk nx => by
        obtain ⟨m', hm, w'⟩ := hNx H' nx
        have pin' : ∀ b ∈ fp, ∀ o, s7.heap.get? b = some o → s'.heap.get? b = some o ∧ H' b = none := fun b hb o e => by
          have z := I'.pin (b, o) (List.mem_append_right _ (List.mem_append_right _ (mem_pinsAt hb e)))
          exact ⟨z.1, z.2.1⟩
        refine ⟨m', hm, i + 1, H', (I'.unpinned (pins := [])).weak hl hk, T.keep _ _ _ st7 fun b hb o e => (pin' b hb o e).1, fun b hb => ?_, w'⟩
        obtain ⟨o, e, _⟩ := T.obj _ _ st7 b hb
        exact (pin' b hb o e).2
      have hk8 : ∀ (j : Nat) v, (wipe σ (own.map (·.2)))[j]? = some (some v) → (wipe τ us)[j]? = some (some v) := fun j v e => by
        rw [← hw8] at e
        obtain ⟨e1, e2⟩ := wipe_some e
        rw [L2.wipe_out fun z => e2 (sub j z)]
        exact e1
      have hl8 : (wipe σ (own.map (·.2))).length = (wipe τ us).length := by rw [wipe_length τ us, ← hw8, wipe_length]
      refine thnF (rn0.run _ s8 τ H8 _ I8 q8) fun xv s9 hx => thnF hx fun itv s10 h10 => ?_
      obtain ⟨jt, fq, tq, K, H10, e10, I10, T1, st10, f10, V, ⟨m1, v1⟩, turn1⟩ := h10
      subst e10
      have still1 : ∀ {H' : Hp}, (∀ b ∈ fq, H' b = none) → ∀ b ∈ fq, FpOk (X.blk s3 H3 scope ce fp) ([] ++ pinsAt fp s7.heap) H' b := fun hn b hb => ⟨hn b hb, (f10 b hb).2⟩
      have inner : codeAny (model X.prog X.w) X.A (.compLoop (sc2 elt t0 i0 t1 i1 scope pos) 1 (.ref jt) (.ref D) ce)
          (fun r s' => match r with
            | .ok _ => ∃ m, m < n ∧ ∃ i H', Inv (X.blk s3 H3 scope ce fp) [] (wipe σ (own.map (·.2))) H' s' ∧ tn i s'.heap ∧ (∀ b ∈ fp, H' b = none) ∧ W i m H'
            | .error _ => False) s10 := by
        refine loop_inner (fun k s' => ∃ j H', Inv (X.blk s3 H3 scope ce fp) ([] ++ pinsAt fp s7.heap) (wipe τ us) H' s' ∧ tq j s'.heap ∧ (∀ b ∈ fq, H' b = none) ∧ V j k H') ?_ m1 ⟨0, H10, I10.weak (wipe_length _ _) (fun j v e => (wipe_some e).1), st10, fun b hb => (f10 b hb).1, v1⟩
        rintro k s12 ⟨j, H12, I12, st12, n12, w12⟩
        rcases turn1 j k H12 w12 with ⟨stop1, nx1⟩ | ⟨go1, Ny, hNy, step1⟩
        · refine thnF (T1.done (X.blk s3 H3 scope ce fp) rfl rfl rfl calm j _ s12 (wipe τ us) H12 (fun _ _ => False) I12 (still1 n12) st12 stop1) fun r s13 ⟨hr, I13⟩ => ?_
          subst hr
          exact turned I13 hl8 hk8 nx1
        · refine thnF (T1.item (X.blk s3 H3 scope ce fp) rfl rfl rfl calm j _ s12 (wipe τ us) H12 (fun _ _ => False) I12 (still1 n12) st12 go1) fun r s13 ⟨u1, hr, h13⟩ => ?_
          subst hr
          refine thnF h13 fun _ s14 ⟨x1, H14, I14, r14, y14, st14, n14⟩ => ?_
          have I14' := I14.pinned (still1 n14) (T1.obj _ _ st14)
          refine thnF (rg1.run _ s14 (wipe τ us) H14 x1 u1 _ I14' r14 (step1 x1 H14 y14)) fun _ s15 ⟨υ, H15, I15, hw15, q15⟩ => ?_
          refine thnF (re0.run _ s15 υ H15 _ I15 q15) fun y s16 ⟨yv, H16, I16, r16, z, S0, n0, ey, hD16, room, ny⟩ => ?_
          subst ey
          refine putM_ok (X := X.blk s3 H3 scope ce fp) I16 hD16 r16 room fun s17 I17 => ?_
          obtain ⟨m', hm, w'⟩ := hNy _ ny
          have pin' : ∀ b ∈ fq, ∀ o, s14.heap.get? b = some o → s17.heap.get? b = some o ∧ _ = none := fun b hb o e => by
            have z := I17.pin (b, o) (List.mem_append_right _ (List.mem_append_right _ (mem_pinsAt hb e)))
            exact ⟨z.1, z.2.1⟩
          refine ⟨m', hm, j + 1, _, I17.unpinned.weak (by rw [← hw15, wipe_length]) (fun j v e => by rw [← hw15] at e; exact (wipe_some e).1), T1.keep _ _ _ st14 fun b hb o e => (pin' b hb o e).1, fun b hb => ?_, w'⟩
          obtain ⟨o, e, _⟩ := T1.obj _ _ st14 b hb
          exact (pin' b hb o e).2
      exact start_of (by decide) inner (T1.self X.A 0 _ _ _ st10 inner)
  exact start_of (by decide) loop (T.self X.A 0 _ _ _ st4 loop)
theorem pe_sc2 {elt t0 i0 t1 i1 : Expr} {scope : Scope} {own : List (PySem.Str × Nat)} {us : List Nat} {pos : Pos} {wo wn : TI} {go gn : TG} {te : TE}
    (calm : X.calm = true) (nd : X.N.Nodup) (po : PI X t0 i0 wo) (ok : BlkOk X.N X.env.scope scope own) (sub : ∀ i ∈ us, i ∈ own.map (·.2))
    (pg0 : ∀ (s : Shared) (H : Hp) (C : Addr) (cl : List (PySem.Str × Addr)) (fp : List Addr), PG (X.blk s H scope (compEnvC scope cl C X.env) fp) t0 go)
    (pn0 : ∀ (s : Shared) (H : Hp) (C : Addr) (cl : List (PySem.Str × Addr)) (fp : List Addr), PI (X.blk s H scope (compEnvC scope cl C X.env) fp) t1 i1 wn)
    (pg1 : ∀ (s : Shared) (H : Hp) (C : Addr) (cl : List (PySem.Str × Addr)) (fp : List Addr), PG (X.blk s H scope (compEnvC scope cl C X.env) fp) t1 gn)
    (pe0 : ∀ (s : Shared) (H : Hp) (C : Addr) (cl : List (PySem.Str × Addr)) (fp : List Addr), PE (X.blk s H scope (compEnvC scope cl C X.env) fp) elt te)
    (f0 : ∀ x, foldedSetIterable i0 X.env x = pure x := by intro _; rfl) (f1 : ∀ env x, foldedSetIterable i1 env x = pure x := by intro _ _; rfl) :
    PE X (sc2 elt t0 i0 t1 i1 scope pos) (tSc2 X.w wo go wn gn te (own.map (·.2)) us) := by
  refine ⟨fun pins s σ H Q I h => ?_⟩
  rw [PpSet.eval_SetComp]
  refine sc2_run calm nd I po ok sub pg0 pn0 pg1 pe0 f0 f1 h fun D C s' m H' I' q hn f => ⟨m, hn, fun h'' sb => ?_⟩
  obtain ⟨g0, g1, _, g3, g4, g5⟩ := f
  exact ⟨.ref D, H', I'.turned (t' := s'.toks) (fun b o hb e => (sb.2 b hb).trans e) g0 g1 g3 g4 g5, rfl, q⟩
end
end SxKs

/-! SxTwo: comprehensions of two clauses. -/
namespace Sx
open PySem L2
def appO (xs : List D) : Out (List D) → Out (List D)
  | .ok ys μ => .ok (xs ++ ys) μ
  | _ => .stuck
def comp2L (g : SG) (f1 : SI) (g1 : SG) (e : SE) (us : List Nat) (ρ : Env) : List D → Sto → Out (List D)
  | [], μ => .ok [] μ
  | d :: ds, μ => match g (.dat d) ρ with
    | none => .stuck
    | some ρ1 => match f1 ρ1 μ with
      | .ok ds1 μ1 => match compL g1 none e (wipeE ρ1 us) ds1 μ1 with
        | .ok xs μ2 => appO xs (comp2L g f1 g1 e us ρ ds μ2)
        | _ => .stuck
      | _ => .stuck
/-- the reading of both kinds: D is the new object, at first o0; cont: what is asked of an item -/
def tGen2 (o0 : Addr → HO) (cont : Addr → V → Hp → (Hp → Prop) → Prop) (wo : TI) (go : TG) (wn : TI) (gn : TG) (te : TE) (vs us : List Nat) : TE := fun σ H Q => wo σ H fun J H1 => ∀ D, H1 D = none → ∃ W : Nat → Nat → Hp → Prop, (∃ m, W 0 m (upd H1 D (o0 D))) ∧ ∀ i m H, W i m H →
  (J.stop i H ∧ Q (.ref D) H) ∨ (J.go i H ∧ ∃ Nx : Hp → Prop, (∀ H', Nx H' → ∃ m', m' < m ∧ W (i + 1) m' H') ∧ ∀ x H', J.yld i H x H' → go x (wipe σ vs) H' fun τ H2 => wipe τ vs = wipe σ vs ∧
    wn τ H2 fun K H3 => ∃ V : Nat → Nat → Hp → Prop, (∃ m, V 0 m H3) ∧ ∀ j k H, V j k H →
      (K.stop j H ∧ Nx H) ∨ (K.go j H ∧ ∃ Ny : Hp → Prop, (∀ H', Ny H' → ∃ k', k' < k ∧ V (j + 1) k' H') ∧ ∀ x H', K.yld j H x H' → gn x (wipe τ us) H' fun υ H4 => wipe υ us = wipe τ us ∧
        te υ H4 fun y H5 => cont D y H5 Ny))
structure AccOk (B : Nat) (ok : D → Prop) (A : Hp → (Addr → Prop) → Addr → HO → List D → Prop) (o0 : Addr → HO) (cont : Addr → V → Hp → (Hp → Prop) → Prop) : Prop where
  zero : ∀ H F D, A H F D (o0 D) []
  nt : ∀ {H F D o acc}, A H F D o acc → ¬ IsT o
  mono : ∀ {H H' F F' D o acc}, (∀ a o, ¬ F a → H a = some o → (∃ o', H' a = some o' ∧ Kp o o') ∧ ¬ F' a) → A H F D o acc → A H' F' D o acc
  step : ∀ {D y d H F o acc Ny}, H D = some o → F D → A H F D o acc → Rp H F y d → ok d → acc.length < B → (∀ o', A (upd H D o') F D o' (acc ++ [d]) → Ny (upd H D o')) → cont D y H Ny
section
variable {G : Addr → Prop} {α α1 α2 : List Addr} {H H1 H2 : Hp} {μ : Sto} {D : Addr} {o : HO}
theorem PostG.refl : PostG G α H α H := Post.refl.g
theorem PostG.trans (p : PostG G α H α1 H1) (q : PostG G α1 H1 α2 H2) : PostG G α H α2 H2 := by
  obtain ⟨β, e⟩ := p.ext
  obtain ⟨γ, f⟩ := q.ext
  have nn : ∀ b o, H b = some o → b ∉ α → b ∉ α1 := fun b o h n h1 => by
    have z := p.fresh b h1 n
    rw [h] at z; cases z
  refine ⟨⟨β ++ γ, by rw [f, e, List.append_assoc]⟩, fun b hb n => ?_, fun b o h n g t => q.keep0 b o (p.keep0 b o h n g t) (nn b o h n) g t, fun b o h => ?_, fun b ps h n g => ?_⟩
  · by_cases h1 : b ∈ α1
    · exact p.fresh b h1 n
    · have z := q.fresh b hb h1
      cases hh : H b with
      | none => rfl
      | some o => obtain ⟨o', e'⟩ := p.dom b o hh; rw [e'] at z; cases z
  · obtain ⟨o', h'⟩ := p.dom b o h
    exact q.dom b o' h'
  · obtain ⟨ps', h'⟩ := p.tbl b ps h n g
    exact q.tbl b ps' h' (nn b _ h n) g
theorem PostG.kept (p : PostG G α H α1 H1) : ∀ a o, ¬ off G α a → H a = some o → (∃ o', H1 a = some o' ∧ Kp o o') ∧ ¬ off G α1 a := p.keptG fun _ h => .inl h
theorem PostG.at_ (p : PostG G α H α1 H1) {k : Nat} {a : Addr} (h : α[k]? = some a) : α1[k]? = some a := by
  obtain ⟨β, e⟩ := p.ext
  rw [e, List.getElem?_append_left (List.getElem?_eq_some_iff.mp h).1]
  exact h
theorem RepE.postG (p : PostG G α H α1 H1) {σ : St} {ρ : Env} (r : RepE G α H σ ρ) : RepE G α1 H1 σ ρ := by
  refine ⟨r.len, fun i v h => ?_⟩
  obtain ⟨x, h1, h2⟩ := r.get i v h
  refine ⟨x, h1, ?_⟩
  cases v with
  | dat d => exact Rp.mono p.kept h2
  | loc k => obtain ⟨a, h3, h4⟩ := h2; exact ⟨a, p.at_ h3, h4⟩
/-- a guarded thing is changed -/
theorem PostG.put (g : G D) (h : H D = some o) (o' : HO) : PostG G α H α (upd H D o') := by
  refine ⟨⟨[], by simp⟩, fun b hb n => absurd hb n, fun b u hb n ng _ => ?_, fun b u hb => ?_, fun b ps hb n ng => ⟨ps, ?_⟩⟩
  · rw [upd_ne fun e => ng (by rw [e]; exact g)]; exact hb
  · by_cases e : b = D
    · subst e; exact ⟨_, upd_same⟩
    · rw [upd_ne e]; exact ⟨_, hb⟩
  · rw [upd_ne fun e => ng (by rw [e]; exact g)]; exact hb
theorem RepS.put (S : RepS Z G α H μ) (g : G D) (h : H D = some o) (nt : ¬ IsT o) (o' : HO) : RepS Z G α (upd H D o') μ := by
  have nd : D ∉ α := (S.gd D g).1
  refine ⟨S.len, S.nd, fun b hb => ⟨(S.gd b hb).1, ?_⟩, fun k a c h1 h2 => ?_, tabs_upd S.tb fun u eu => by rw [h] at eu; cases eu; exact nt⟩
  · by_cases e : b = D
    · subst e; exact ⟨_, upd_same⟩
    · rw [upd_ne e]; exact (S.gd b hb).2
  · have ha : a ≠ D := fun z => nd (by rw [← z]; exact List.mem_of_getElem? h1)
    exact (S.cell k a c h1 h2).mono (PostG.put (α := α) g h o').kept (by rw [upd_ne ha])
theorem Post.putD (p : Post α H α1 H1) (hD : H D = none) (h : H1 D = some o) (o' : HO) : Post α H α1 (upd H1 D o') := by
  refine ⟨p.ext, p.fresh, fun b u hb n t => ?_, fun b u hb => ?_, fun b ps hb n => ?_⟩
  · have e : b ≠ D := fun e => by rw [e, hD] at hb; cases hb
    rw [upd_ne e]; exact p.keep0 b u hb n t
  · by_cases e : b = D
    · subst e; exact ⟨_, upd_same⟩
    · rw [upd_ne e]; exact p.dom b u hb
  · have e : b ≠ D := fun e => by rw [e, hD] at hb; cases hb
    rw [upd_ne e]; exact p.tbl b ps hb n
end
section
variable {Z : Wd} {B : Nat} {ok : D → Prop} {A : Hp → (Addr → Prop) → Addr → HO → List D → Prop} {o0 : Addr → HO} {cont : Addr → V → Hp → (Hp → Prop) → Prop}
theorem walk_in (K : AccOk B ok A o0 cont) {G : Addr → Prop} {Dd : Addr} (gd : G Dd) {gn : TG} {g1 : SG} {us : List Nat} (hG1 : GOk gn g1 us) {e : SE} {ds : List Sx.D} {pre out : List Sx.D} {μs μ2 : Sto} {ρ : Env} {τ : St} {αb αs : List Addr} {Hb Hs : Hp} {J : It} {o : HO}
    (wk : Walks G αs Hs J ds) (E : RepE G αs Hs (wipe τ us) ρ) (P0 : Post αb Hb αs Hs) (S : RepS Z G αs Hs μs) (hD : Hs Dd = some o) (a0 : A Hs (off G αs) Dd o pre) (hc : compL g1 none e ρ ds μs = .ok out μ2) (hB : pre.length + out.length ≤ B)
    (hok : ∀ d ∈ pre ++ out, ok d) (hDb : Hb Dd = none) {Nx : Hp → Prop} (hN : ∀ α' H' o', Post αb Hb α' H' → PostG G αs Hs α' H' → RepS Z G α' H' μ2 → H' Dd = some o' → A H' (off G α') Dd o' (pre ++ out) → Nx H') :
    ∃ V : Nat → Nat → Hp → Prop, (∃ m, V 0 m Hs) ∧ ∀ j k H, V j k H →
      (J.stop j H ∧ Nx H) ∨ (J.go j H ∧ ∃ Ny : Hp → Prop, (∀ H', Ny H' → ∃ k', k' < k ∧ V (j + 1) k' H') ∧ ∀ x H', J.yld j H x H' → gn x (wipe τ us) H' fun υ H4 => wipe υ us = wipe τ us ∧
        tD Z W0 e υ H4 fun y H5 => cont Dd y H5 Ny) := by
  refine ⟨fun j k H => k = ds.length - j ∧ j ≤ ds.length ∧ ∃ α' μ' o' acc rest, Post αb Hb α' H ∧ PostG G αs Hs α' H ∧ RepS Z G α' H μ' ∧ H Dd = some o' ∧ A H (off G α') Dd o' acc ∧ compL g1 none e ρ (ds.drop j) μ' = .ok rest μ2 ∧ acc ++ rest = pre ++ out,
    ⟨ds.length, by simp, Nat.zero_le _, αs, μs, o, pre, out, P0, PostG.refl, S, hD, a0, by simpa using hc, rfl⟩, ?_⟩
  rintro j k H ⟨rfl, hj, α', μ', o', acc, rest, p', q', S', hx, ha, hcm, hr⟩
  by_cases hlt : j < ds.length
  · refine .inr ⟨wk.go j α' H q' hlt, fun H => j + 1 ≤ ds.length ∧ ∃ α' μ' o' acc rest, Post αb Hb α' H ∧ PostG G αs Hs α' H ∧ RepS Z G α' H μ' ∧ H Dd = some o' ∧ A H (off G α') Dd o' acc ∧ compL g1 none e ρ (ds.drop (j + 1)) μ' = .ok rest μ2 ∧ acc ++ rest = pre ++ out,
      fun H' h => ⟨ds.length - (j + 1), by omega, rfl, h⟩, fun x H2 y => ?_⟩
    have hd : ds[j]? = some ds[j] := List.getElem?_eq_getElem hlt
    obtain ⟨p2, S2, r2⟩ := wk.yld G j α' H μ' x H2 ds[j] (fun _ h => .inl h) q' S' y hd
    rw [List.drop_eq_getElem_cons hlt] at hcm
    simp only [compL] at hcm
    have nD : ∀ {α' : List Addr} {H' : Hp} {μ' : Sto}, RepS Z G α' H' μ' → Dd ∉ α' := fun S' => (S'.gd Dd gd).1
    cases e1 : g1 (.dat ds[j]) ρ with
    | none => simp only [e1] at hcm; cases hcm
    | some ρ1 =>
      simp only [e1] at hcm
      have E2 : RepE G α' H2 (wipe τ us) ρ := E.postG (q'.trans p2.g)
      refine hG1 _ _ α' H2 μ' _ _ x (.dat ds[j]) ρ1 _ S2 E2 r2 e1 fun σ3 E3 hw => ⟨hw.trans (wipe_wipe τ us), ?_⟩
      refine ⟨_, α', ρ1, μ', S2, E3, ?_⟩
      simp only [turnC, tsts, opd, Res.val, onB] at hcm
      have hx2 : H2 Dd = some o' := p2.keep Dd _ hx (nD S') (fun ps z => K.nt ha (.inl ⟨ps, z⟩))
      have ha2 := K.mono p2.kept ha
      have fin : ∀ (v : V) (d : Sx.D) (H4 : Hp) (α4 : List Addr) (μ4 : Sto), Post α' H2 α4 H4 → RepS Z G α4 H4 μ4 → Rp H4 (off G α4) v d → consO d (compL g1 none e ρ (ds.drop (j + 1)) μ4) = .ok rest μ2 →
          cont Dd v H4 fun H => j + 1 ≤ ds.length ∧ ∃ α' μ' o' acc rest, Post αb Hb α' H ∧ PostG G αs Hs α' H ∧ RepS Z G α' H μ' ∧ H Dd = some o' ∧ A H (off G α') Dd o' acc ∧ compL g1 none e ρ (ds.drop (j + 1)) μ' = .ok rest μ2 ∧ acc ++ rest = pre ++ out := by
        intro v d H4 α4 μ4 p4 S4 r4 h4
        cases h5 : compL g1 none e ρ (ds.drop (j + 1)) μ4 with
        | stuck => rw [h5] at h4; cases h4
        | exc x μ5 => rw [h5] at h4; cases h4
        | ok ys μ5 =>
          rw [h5] at h4
          simp only [consO, Out.ok.injEq] at h4
          obtain ⟨rfl, rfl⟩ := h4
          have hx4 : H4 Dd = some o' := p4.keep Dd _ hx2 (nD S2) (fun ps z => K.nt ha (.inl ⟨ps, z⟩))
          have hle : acc.length < B := by
            have := congrArg List.length hr
            simp only [List.length_append, List.length_cons] at this
            omega
          have hdo : ok d := hok d (by rw [← hr]; simp)
          refine K.step hx4 (.inl gd) (K.mono p4.kept ha2) r4 hdo hle fun o'' ha'' => ?_
          exact ⟨hlt, α4, μ4, o'', acc ++ [d], ys, ((p'.trans p2).trans p4).putD hDb hx4 o'', (q'.trans (p2.trans p4).g).trans (PostG.put gd hx4 o''), S4.put gd hx4 (K.nt ha) o'', upd_same, ha'', h5, by rw [List.append_assoc]; exact hr⟩
      cases e3 : e ρ1 μ' with
      | stuck => simp only [e3] at hcm; cases hcm
      | exc x μ4 => simp only [e3] at hcm; cases hcm
      | ok r μ4 =>
        simp only [e3] at hcm
        cases r with
        | dat d => exact fun y H4 α4 p4 S4 r4 => fin y d H4 α4 μ4 p4 S4 r4 hcm
        | loc n => simp only [Res.val] at hcm; cases hcm
        | new c => exact fun z H4 α4 p4 n4 S4 => fin _ c.frz H4 α4 μ4 p4 S4.freeze.1 S4.freeze.2 hcm
  · have ei : j = ds.length := by omega
    subst ei
    rw [List.drop_length] at hcm
    simp only [compL, Out.ok.injEq] at hcm
    obtain ⟨rfl, rfl⟩ := hcm
    rw [List.append_nil] at hr
    subst hr
    exact .inl ⟨wk.stop _ α' H q' rfl, hN α' H o' p' q' S' hx ha⟩
theorem t_gen2 {W : WX} (K : AccOk B ok A o0 cont) {go gn : TG} {g g1 : SG} {vs us : List Nat} (hG : GOk go g vs) (hG1 : GOk gn g1 us) {f f1 : SI} {e : SE} : ∀ σ H Q, (∃ G α ρ μ, RepS Z G α H μ ∧ RepE G α H σ ρ ∧ match f ρ μ with
      | .ok ds μ1 => (match comp2L g f1 g1 e us (wipeE ρ vs) ds μ1 with
        | .ok out μ2 => out.length ≤ B ∧ (∀ d ∈ out, ok d) ∧ ∀ Dd o H' α', Post α H α' H' → H Dd = none → RepS Z (fun b => G b ∨ b = Dd) α' H' μ2 → H' Dd = some o → A H' (off (fun b => G b ∨ b = Dd) α') Dd o out → Q (.ref Dd) H'
        | _ => False)
      | .exc x μ1 => ∀ cls dd H' α', Post α H α' H' → RepS Z G α' H' μ1 → RepX Z (off G α') x cls dd H' → W cls dd σ H'
      | .stuck => False) → tGen2 o0 cont (tI Z W f) go (tI Z W0 f1) gn (tD Z W0 e) vs us σ H Q := by
  rintro σ H Q ⟨G, α, ρ, μ, S, E, w⟩
  refine ⟨G, α, ρ, μ, S, E, ?_⟩
  cases q : f ρ μ with
  | stuck => simp only [q] at w
  | exc x μ1 => simp only [q] at w; exact w
  | ok ds μ1 =>
    simp only [q] at w
    intro J H1 α1 p1 S1 wk Dd hD
    cases q2 : comp2L g f1 g1 e us (wipeE ρ vs) ds μ1 with
    | stuck => simp only [q2] at w
    | exc x μ2 => simp only [q2] at w
    | ok out μ2 =>
      simp only [q2] at w
      obtain ⟨hB, hok, w⟩ := w
      have E1 := (E.post p1).wipe vs
      have hG2 : ∀ b, (G b ∨ b = Dd) → G b ∨ H1 b = none := fun b h => h.elim .inl fun h => .inr (by rw [h]; exact hD)
      have nd : Dd ∉ α1 := fun h => S1.noff hD (.inr h)
      refine ⟨fun i m H' => m = ds.length - i ∧ i ≤ ds.length ∧ ∃ α' μ' o acc rest, Post α1 H1 α' H' ∧ RepS Z (fun b => G b ∨ b = Dd) α' H' μ' ∧ H' Dd = some o ∧ A H' (off (fun b => G b ∨ b = Dd) α') Dd o acc ∧
          comp2L g f1 g1 e us (wipeE ρ vs) (ds.drop i) μ' = .ok rest μ2 ∧ acc ++ rest = out,
        ⟨ds.length, by simp, Nat.zero_le _, α1, μ1, o0 Dd, [], out, Post.alloc hD, ?_, upd_same, K.zero _ _ _, by simpa using q2, rfl⟩, ?_⟩
      · have S2 : RepS Z G α1 (upd H1 Dd (o0 Dd)) μ1 := S1.alloc hD
        refine ⟨S2.len, S2.nd, fun b h => ?_, fun k a c h1 h2 => ?_, S2.tb⟩
        · rcases h with h | h
          · exact S2.gd b h
          · rw [h]; exact ⟨nd, _, upd_same⟩
        · have ha : a ≠ Dd := fun z => nd (by rw [← z]; exact List.mem_of_getElem? h1)
          exact (S1.cell k a c h1 h2).mono ((Post.alloc (α := α1) (o := o0 Dd) hD).keptG hG2) (by rw [upd_ne ha])
      · rintro i m H' ⟨rfl, hi, α', μ', o, acc, rest, p', S', hx, ha, hc, ho⟩
        have nD : ∀ {α' : List Addr} {H' : Hp} {μ' : Sto}, RepS Z (fun b => G b ∨ b = Dd) α' H' μ' → Dd ∉ α' := fun S' => (S'.gd Dd (.inr rfl)).1
        by_cases hlt : i < ds.length
        · refine .inr ⟨wk.go i α' H' p'.g hlt, fun H' => i + 1 ≤ ds.length ∧ ∃ α' μ' o acc rest, Post α1 H1 α' H' ∧ RepS Z (fun b => G b ∨ b = Dd) α' H' μ' ∧ H' Dd = some o ∧ A H' (off (fun b => G b ∨ b = Dd) α') Dd o acc ∧
              comp2L g f1 g1 e us (wipeE ρ vs) (ds.drop (i + 1)) μ' = .ok rest μ2 ∧ acc ++ rest = out, fun H' h => ⟨ds.length - (i + 1), by omega, rfl, h⟩, fun x H2 y => ?_⟩
          have hd : ds[i]? = some ds[i] := List.getElem?_eq_getElem hlt
          obtain ⟨p2, S2, r2⟩ := wk.yld _ i α' H' μ' x H2 ds[i] hG2 p'.g S' y hd
          rw [List.drop_eq_getElem_cons hlt] at hc
          simp only [comp2L] at hc
          cases e1 : g (.dat ds[i]) (wipeE ρ vs) with
          | none => simp only [e1] at hc; cases hc
          | some ρ1 =>
            simp only [e1] at hc
            have E2 : RepE (fun b => G b ∨ b = Dd) α' H2 (wipe σ vs) (wipeE ρ vs) := by
              refine ⟨E1.len, fun j u h => ?_⟩
              obtain ⟨z, h1, h2⟩ := E1.get j u h
              refine ⟨z, h1, ?_⟩
              cases u with
              | dat d => exact Rp.mono ((p'.trans p2).keptG hG2) h2
              | loc n => obtain ⟨a, h3, h4⟩ := h2; exact ⟨a, (p'.trans p2).at_ h3, h4⟩
            refine hG _ _ α' H2 μ' _ _ x (.dat ds[i]) ρ1 _ S2 E2 r2 e1 fun τ E3 hw => ⟨hw.trans (wipe_wipe σ vs), ?_⟩
            refine ⟨_, α', ρ1, μ', S2, E3, ?_⟩
            have hx2 : H2 Dd = some o := p2.keep Dd _ hx (nD S') (fun ps z => K.nt ha (.inl ⟨ps, z⟩))
            cases e2 : f1 ρ1 μ' with
            | stuck => simp only [e2] at hc; cases hc
            | exc x μ3 => simp only [e2] at hc; cases hc
            | ok ds1 μ3 =>
              simp only [e2] at hc
              cases e3 : compL g1 none e (wipeE ρ1 us) ds1 μ3 with
              | stuck => simp only [e3] at hc; cases hc
              | exc x μ4 => simp only [e3] at hc; cases hc
              | ok xs μ4 =>
                simp only [e3] at hc
                cases e4 : comp2L g f1 g1 e us (wipeE ρ vs) (ds.drop (i + 1)) μ4 with
                | stuck => simp only [e4] at hc; cases hc
                | exc x μ5 => simp only [e4] at hc; cases hc
                | ok ys μ5 =>
                  simp only [e4, appO, Out.ok.injEq] at hc
                  obtain ⟨rfl, rfl⟩ := hc
                  intro J1 H3 α3 p3 S3 wk1
                  have sub : ∀ d ∈ acc ++ xs, d ∈ out := fun d hd => by
                    rw [← ho]
                    rcases List.mem_append.mp hd with h | h
                    · exact List.mem_append_left _ h
                    · exact List.mem_append_right _ (List.mem_append_left _ h)
                  have hl : acc.length + xs.length ≤ B := by
                    have := congrArg List.length ho
                    simp only [List.length_append] at this
                    omega
                  refine walk_in K (G := fun b => G b ∨ b = Dd) (.inr rfl) hG1 wk1 ((E3.post p3).wipe us) ((p'.trans p2).trans p3) S3 (p3.keep Dd _ hx2 (nD S2) (fun ps z => K.nt ha (.inl ⟨ps, z⟩))) (K.mono p3.kept (K.mono p2.kept ha)) e3 hl (fun d hd => hok d (sub d hd)) hD fun α4 H4 o4 p4 _ S4 hx4 ha4 => ?_
                  exact ⟨hlt, α4, μ4, o4, acc ++ xs, ys, p4, S4, hx4, ha4, e4, by rw [List.append_assoc]; exact ho⟩
        · have ei : i = ds.length := by omega
          subst ei
          rw [List.drop_length] at hc
          simp only [comp2L, Out.ok.injEq] at hc
          obtain ⟨rfl, rfl⟩ := hc
          rw [List.append_nil] at ho
          subst ho
          have hH : H Dd = none := by
            cases z : H Dd with
            | none => rfl
            | some o => obtain ⟨o', z'⟩ := p1.dom Dd o z; rw [hD] at z'; cases z'
          exact .inl ⟨wk.stop _ α' H' p'.g rfl, w Dd o H' α' (p1.trans p') hH S' hx ha⟩
/-! ### lists -/
theorem accL : AccOk sizeLine (fun _ => True) (fun H F _ o acc => ∃ xs, o = .lst xs ∧ RpL H F xs acc) (fun _ => .lst []) (fun Dd y H N => ∃ acc, H Dd = some (.lst acc) ∧ acc.length < sizeLine ∧ N (upd H Dd (.lst (acc ++ [y])))) where
  zero := fun _ _ _ => ⟨[], rfl, .nil⟩
  nt := fun ⟨xs, e, _⟩ => by rw [e]; exact nt_lst
  mono := fun h ⟨xs, e, r⟩ => ⟨xs, e, r.mono h⟩
  step := by
    rintro Dd y d H F o acc Ny hD hF ⟨xs, rfl, r⟩ rd _ hl hn
    have l := r.length
    refine ⟨xs, hD, by omega, hn (.lst (xs ++ [y])) ⟨_, rfl, ?_⟩⟩
    have k : ∀ a o, ¬ F a → H a = some o → (∃ o', upd H Dd (.lst (xs ++ [y])) a = some o' ∧ Kp o o') ∧ ¬ F a := fun a o n e => ⟨⟨o, by rw [upd_ne fun z => n (by rw [z]; exact hF)]; exact e, Kp.rfl⟩, n⟩
    exact (r.mono k).append (.cons (rd.mono k) .nil)
def sComp2 (f : SI) (g : SG) (f1 : SI) (g1 : SG) (e : SE) (vs us : List Nat) : SE := fun ρ μ => match f ρ μ with
  | .ok ds μ1 => match comp2L g f1 g1 e us (wipeE ρ vs) ds μ1 with
    | .ok out μ2 => if out.length ≤ sizeLine then .ok (.new (.lst out)) μ2 else .stuck
    | _ => .stuck
  | .exc x μ1 => .exc x μ1
  | .stuck => .stuck
/-- the new object is no longer guarded -/
theorem RepS.unguard {G : Addr → Prop} {α : List Addr} {H : Hp} {μ : Sto} {Dd : Addr} {c : Cell} (S : RepS Z (fun b => G b ∨ b = Dd) α H μ) (hc : CellAt H (off (fun b => G b ∨ b = Dd) α) Dd c) (hn : ¬ G Dd) : RepS Z G (α ++ [Dd]) H (μ ++ [c]) := by
  have nD : Dd ∉ α := (S.gd Dd (.inr rfl)).1
  have sub : ∀ a, off G (α ++ [Dd]) a → off (fun b => G b ∨ b = Dd) α a := fun a h => by
    rcases h with h | h
    · exact .inl (.inl h)
    · rcases List.mem_append.mp h with h | h
      · exact .inr h
      · exact .inl (.inr (List.mem_singleton.mp h))
  refine ⟨by simp [S.len], ?_, fun b h => ⟨fun hb => ?_, (S.gd b (.inl h)).2⟩, fun k a c' h1 h2 => ?_, S.tb⟩
  · rw [List.nodup_append]
    exact ⟨S.nd, by simp, fun a ha b hb => by rw [List.mem_singleton.mp hb]; rintro rfl; exact nD ha⟩
  · rcases List.mem_append.mp hb with hb | hb
    · exact (S.gd b (.inl h)).1 hb
    · rw [List.mem_singleton.mp hb] at h
      exact hn h
  · by_cases hk : k < α.length
    · rw [List.getElem?_append_left hk] at h1
      rw [List.getElem?_append_left (by rw [← S.len]; exact hk)] at h2
      exact (S.cell k a c' h1 h2).less sub
    · have hl' : k < (α ++ [Dd]).length := (List.getElem?_eq_some_iff.mp h1).1
      have e : k = α.length := by simp at hl'; omega
      subst e
      rw [S.len] at h2
      simp at h1 h2
      subst h1 h2
      exact hc.less sub
theorem not_guarded {G : Addr → Prop} {α : List Addr} {H : Hp} {μ : Sto} {Dd : Addr} (S : RepS Z G α H μ) (h : H Dd = none) : ¬ G Dd := fun g => by
  obtain ⟨_, o, e⟩ := S.gd Dd g
  rw [h] at e; cases e
theorem t_comp2 {W : WX} {go gn : TG} {g g1 : SG} {vs us : List Nat} (hG : GOk go g vs) (hG1 : GOk gn g1 us) {f f1 : SI} {e : SE} : ∀ σ H Q, tD Z W (sComp2 f g f1 g1 e vs us) σ H Q → tLc2 (tI Z W f) go tYes (tI Z W0 f1) gn tYes (tD Z W0 e) vs us σ H Q := by
  rintro σ H Q ⟨G, α, ρ, μ, S, E, w⟩
  refine t_gen2 accL hG hG1 (f := f) (f1 := f1) σ H Q ⟨G, α, ρ, μ, S, E, ?_⟩
  unfold sComp2 at w
  cases q : f ρ μ with
  | stuck => simp only [q] at w; exact w.elim
  | exc x μ1 => simp only [q] at w ⊢; exact w
  | ok ds μ1 =>
    simp only [q] at w ⊢
    cases q2 : comp2L g f1 g1 e us (wipeE ρ vs) ds μ1 with
    | stuck => simp only [q2] at w; exact w.elim
    | exc x μ2 => simp only [q2] at w; exact w.elim
    | ok out μ2 =>
      simp only [q2] at w ⊢
      by_cases hl : out.length ≤ sizeLine
      · rw [if_pos hl] at w
        refine ⟨hl, fun _ _ => trivial, fun Dd o H' α' p hD S' hx ⟨xs, e1, r⟩ => ?_⟩
        subst e1
        exact w Dd H' α' p hD (S'.unguard ⟨xs, hx, r⟩ (not_guarded S hD))
      · rw [if_neg hl] at w; exact w.elim
end
end Sx
namespace Sx
open PySem PySem.Spec PyProof.Rows L2 SxKs
section
variable {X : Cx} {Z : Wd} {W : WX} {elt tg iter tg1 iter1 : Expr} {scope : Scope} {own : List (Str × Nat)} {us : List Nat} {pos : Pos} {f f1 : SI} {t t1 : TG} {g g1 : SG} {e : SE}
theorem d_comp2 (hc : X.calm = true) (hN : X.N.Nodup) (hi : PI X tg iter (tI Z W f)) (ok : BlkOk X.N X.env.scope scope own) (hv : ∀ i ∈ us, i ∈ own.map (·.2))
    (hg : ∀ (s : Shared) (H : Hp) (C : Addr) (cl : List (Str × Addr)) (fp : List Addr), PG (X.blk s H scope (compEnvC scope cl C X.env) fp) tg t) (hG : GOk t g (own.map (·.2)))
    (hi1 : ∀ (s : Shared) (H : Hp) (C : Addr) (cl : List (Str × Addr)) (fp : List Addr), PI (X.blk s H scope (compEnvC scope cl C X.env) fp) tg1 iter1 (tI Z W0 f1))
    (hg1 : ∀ (s : Shared) (H : Hp) (C : Addr) (cl : List (Str × Addr)) (fp : List Addr), PG (X.blk s H scope (compEnvC scope cl C X.env) fp) tg1 t1) (hG1 : GOk t1 g1 us)
    (he : ∀ (s : Shared) (H : Hp) (C : Addr) (cl : List (Str × Addr)) (fp : List Addr), PE (X.blk s H scope (compEnvC scope cl C X.env) fp) elt (tD Z W0 e)) (hs : ∀ x, foldedSetIterable iter X.env x = pure x := by intro _; rfl) (hs1 : ∀ env x, foldedSetIterable iter1 env x = pure x := by intro _ _; rfl) :
    PE X (.ListComp elt [⟨tg, iter, [], 0⟩, ⟨tg1, iter1, [], 0⟩] scope pos) (tD Z W (sComp2 f g f1 g1 e (own.map (·.2)) us)) :=
  PEimp (pe_lc2 hc hN hi ok hv hg (fun _ _ _ _ _ => pts_nil) hi1 hg1 (fun _ _ _ _ _ => pts_nil) he hs hs1) (t_comp2 hG hG1)
theorem s_setLc2 {i : Nat} {y : Str} {py spos : Pos} (hc : X.calm = true) (hN : X.N.Nodup) (hi : PI X tg iter (tI Z W f)) (ok : BlkOk X.N X.env.scope scope own) (hv : ∀ i ∈ us, i ∈ own.map (·.2))
    (hg : ∀ (s : Shared) (H : Hp) (C : Addr) (cl : List (Str × Addr)) (fp : List Addr), PG (X.blk s H scope (compEnvC scope cl C X.env) fp) tg t) (hG : GOk t g (own.map (·.2)))
    (hi1 : ∀ (s : Shared) (H : Hp) (C : Addr) (cl : List (Str × Addr)) (fp : List Addr), PI (X.blk s H scope (compEnvC scope cl C X.env) fp) tg1 iter1 (tI Z W0 f1))
    (hg1 : ∀ (s : Shared) (H : Hp) (C : Addr) (cl : List (Str × Addr)) (fp : List Addr), PG (X.blk s H scope (compEnvC scope cl C X.env) fp) tg1 t1) (hG1 : GOk t1 g1 us)
    (he : ∀ (s : Shared) (H : Hp) (C : Addr) (cl : List (Str × Addr)) (fp : List Addr), PE (X.blk s H scope (compEnvC scope cl C X.env) fp) elt (tD Z W0 e))
    (hy : X.N[i]? = some y := by rfl) (hyl : X.env.scope.names.lookup y = some .local := by rfl) (hsw : swapsWith (.ListComp elt [⟨tg, iter, [], 0⟩, ⟨tg1, iter1, [], 0⟩] scope pos) (some (.Name y py)) spos.line X.env = pure true := by exact sw_true rfl rfl rfl (by decide +kernel))
    (hs : ∀ x, foldedSetIterable iter X.env x = pure x := by intro _; rfl) (hs1 : ∀ env x, foldedSetIterable iter1 env x = pure x := by intro _ _; rfl) :
    PS X (.Assign [.Name y py] (.ListComp elt [⟨tg, iter, [], 0⟩, ⟨tg1, iter1, [], 0⟩] scope pos) spos) (tS Z W (sSet i (sComp2 f g f1 g1 e (own.map (·.2)) us))) := by
  refine PSimp (ps_setLc2 hc hN hy hyl hsw hi ok hv hg (fun _ _ _ _ _ => pts_nil) hi1 hg1 (fun _ _ _ _ _ => pts_nil) he hs hs1) ?_
  rintro D σ H ⟨G, α, ρ, μ, S, E, w⟩
  exact t_comp2 hG hG1 σ H _ ⟨G, α, ρ, μ, S, E, wS.eS E w fun v H1 α1 μ1 val p s r w1 => w1 _ H1 α1 Post.refl s ((E.post p).set r)⟩
/-! ### sorted({..}) -/
/-- a set is no code object -/
theorem nt_set {w : World} {Dd : Addr} {S : Key → Bool} {n : Nat} : ¬ IsT (SxKs.SetMO w Dd S n) := by
  rintro (⟨ps, h⟩ | ⟨c, q, h⟩)
  · unfold SxKs.SetMO at h; cases h
  · unfold SxKs.SetMO LamX.CodeO at h
    have e := HO.ext.inj h
    let ob : Obj := { cls := .none, data := .fields #[.none, .str q 0] }
    let hp : Heap := { objs := Array.replicate (max c Dd + 1) ob }
    have g : ∀ a, a ≤ max c Dd → hp.get? a = some ob := fun a ha => by
      have : hp.objs[a]? = some ob := by
        show (Array.replicate (max c Dd + 1) ob)[a]? = some ob
        rw [Array.getElem?_replicate, if_pos (Nat.lt_succ_of_le ha)]
      unfold Heap.get?
      rw [this]
    have z := congrFun e hp
    have : SxKs.SetM w hp Dd S n := by
      rw [z]
      exact ⟨ob, _, 0, g c (Nat.le_max_left _ _), rfl, rfl⟩
    obtain ⟨o, es, ep, t, h1, _, h3, _⟩ := this
    rw [g Dd (Nat.le_max_right _ _)] at h1
    cases h1
    cases h3
theorem accS (w : World) : AccOk 4094 (fun d => ∃ i, d = .int i) (fun _ _ Dd o acc => ∃ (ns : List Int) (S : Key → Bool) (n : Nat), acc = ns.map D.int ∧ o = SxKs.SetMO w Dd S n ∧ n ≤ acc.length ∧ ∀ k, S k = true ↔ k ∈ ns.map (Sum.inl : Int → Key)) (fun Dd => SxKs.SetMO w Dd (fun _ => false) 0)
    (fun Dd y H N => ∃ (z : Int) (S : Key → Bool) (n : Nat), y = .int z ∧ H Dd = some (SxKs.SetMO w Dd S n) ∧ n + 1 < scanBound ∧ N (upd H Dd (SxKs.SetMO w Dd (fun j => S j || decide (j = .inl z)) (if S (.inl z) = true then n else n + 1)))) where
  zero := fun _ _ Dd => ⟨[], _, 0, rfl, rfl, Nat.le_refl _, fun k => by simp⟩
  nt := fun ⟨_, _, _, _, e, _⟩ => by rw [e]; exact nt_set
  mono := fun _ h => h
  step := by
    rintro Dd y d H F o acc Ny hD hF ⟨ns, S, n, rfl, rfl, hn, hS⟩ rd ⟨i, rfl⟩ hl hN
    rw [List.length_map] at hl hn
    have ey : y = .int i := by cases rd; rfl
    refine ⟨i, S, n, ey, hD, by unfold scanBound; omega, hN _ ⟨ns ++ [i], _, _, by simp, rfl, ?_, fun k => ?_⟩⟩
    · split <;> simp <;> omega
    · rw [Bool.or_eq_true, hS, decide_eq_true_eq, List.map_append, List.mem_append]
      simp
theorem tSc2_eq (w : World) (wo : TI) (go : TG) (wn : TI) (gn : TG) (te : TE) (vs us : List Nat) : tSc2 w wo go wn gn te vs us = tGen2 (fun Dd => SetMO w Dd (fun _ => false) 0) (fun Dd y H N => ∃ (z : Int) (S : Key → Bool) (n : Nat), y = .int z ∧ H Dd = some (SxKs.SetMO w Dd S n) ∧ n + 1 < scanBound ∧ N (upd H Dd (SxKs.SetMO w Dd (fun j => S j || decide (j = .inl z)) (if S (.inl z) = true then n else n + 1)))) wo go wn gn te vs us := by
  unfold tSc2 tGen2
  rfl
def sSortSc2 (f : SI) (g : SG) (f1 : SI) (g1 : SG) (e : SE) (vs us : List Nat) : SE := fun ρ μ => match f ρ μ with
  | .ok ds μ1 => match comp2L g f1 g1 e us (wipeE ρ vs) ds μ1 with
    | .ok out μ2 => match intsD out with
      | some ns => if ns.length ≤ 4094 then .ok (.new (.lst ((riseI ns).map .int))) μ2 else .stuck
      | none => .stuck
    | _ => .stuck
  | .exc x μ1 => .exc x μ1
  | .stuck => .stuck
theorem RepS.unless {G : Addr → Prop} {α : List Addr} {H : Hp} {μ : Sto} {Dd : Addr} (S : RepS Z (fun b => G b ∨ b = Dd) α H μ) : RepS Z G α H μ := by
  refine ⟨S.len, S.nd, fun b h => S.gd b (.inl h), fun k a c h1 h2 => (S.cell k a c h1 h2).less fun a h => ?_, S.tb⟩
  rcases h with h | h
  · exact .inl (.inl h)
  · exact .inr h
theorem intsD_eq : ∀ {ds : List D} {ns : List Int}, intsD ds = some ns → ds = ns.map .int
  | [], ns, h => by simp [intsD] at h; subst h; rfl
  | .int i :: ds, ns, h => by
    simp only [intsD, Option.map_eq_some_iff] at h
    obtain ⟨ms, h1, rfl⟩ := h
    rw [intsD_eq h1]; rfl
  | .non :: ds, ns, h => by simp [intsD] at h
  | .bl _ :: ds, ns, h => by simp [intsD] at h
  | .str _ :: ds, ns, h => by simp [intsD] at h
  | .tup _ :: ds, ns, h => by simp [intsD] at h
  | .lst _ :: ds, ns, h => by simp [intsD] at h
  | .dic _ :: ds, ns, h => by simp [intsD] at h
  | .dct _ :: ds, ns, h => by simp [intsD] at h
  | .scr _ :: ds, ns, h => by simp [intsD] at h
theorem d_sortSc2 {p pos' : Pos} (hc : X.calm = true) (hN : X.N.Nodup) (hgs : Gl X "sorted") (hm : X.mg "sorted" = none) (hi : PI X tg iter (tI Z W f)) (ok : BlkOk X.N X.env.scope scope own) (hv : ∀ i ∈ us, i ∈ own.map (·.2))
    (hg : ∀ (s : Shared) (H : Hp) (C : Addr) (cl : List (Str × Addr)) (fp : List Addr), PG (X.blk s H scope (compEnvC scope cl C X.env) fp) tg t) (hG : GOk t g (own.map (·.2)))
    (hi1 : ∀ (s : Shared) (H : Hp) (C : Addr) (cl : List (Str × Addr)) (fp : List Addr), PI (X.blk s H scope (compEnvC scope cl C X.env) fp) tg1 iter1 (tI Z W0 f1))
    (hg1 : ∀ (s : Shared) (H : Hp) (C : Addr) (cl : List (Str × Addr)) (fp : List Addr), PG (X.blk s H scope (compEnvC scope cl C X.env) fp) tg1 t1) (hG1 : GOk t1 g1 us)
    (he : ∀ (s : Shared) (H : Hp) (C : Addr) (cl : List (Str × Addr)) (fp : List Addr), PE (X.blk s H scope (compEnvC scope cl C X.env) fp) elt (tD Z W0 e)) (hs : ∀ x, foldedSetIterable iter X.env x = pure x := by intro _; rfl) (hs1 : ∀ env x, foldedSetIterable iter1 env x = pure x := by intro _ _; rfl)
    (nb : starEach [SxKs.sc2 elt tg iter tg1 iter1 scope pos] X.env = (false, eval (SxKs.sc2 elt tg iter tg1 iter1 scope pos) X.env) :: starEach [] X.env := by rfl) :
    PE X (.Call (.Name "sorted" p) [SxKs.sc2 elt tg iter tg1 iter1 scope pos] [] pos') (tD Z W (sSortSc2 f g f1 g1 e (own.map (·.2)) us)) := by
  have ps := SxKs.pe_sc2 (elt := elt) (pos := pos) hc hN hi ok hv hg hi1 hg1 he hs hs1
  rw [tSc2_eq] at ps
  refine ⟨fun pins s σ H Q I h => ?_⟩
  refine Call_ (ld_blt I hgs hm PyProof.Rows.boot_sorted ?_)
  have q : tGen2 (fun Dd => SxKs.SetMO X.w Dd (fun _ => false) 0) (fun Dd y H N => ∃ (z : Int) (S : Key → Bool) (n : Nat), y = .int z ∧ H Dd = some (SxKs.SetMO X.w Dd S n) ∧ n + 1 < scanBound ∧ N (upd H Dd (SxKs.SetMO X.w Dd (fun j => S j || decide (j = .inl z)) (if S (.inl z) = true then n else n + 1))))
      (tI Z W f) t (tI Z W0 f1) t1 (tD Z W0 e) (own.map (·.2)) us σ H (fun x H1 => ∃ (l : Addr) (ns : List Int) (S : Key → Bool) (n : Nat), x = .ref l ∧ H1 l = some (SxKs.SetMO X.w l S n) ∧ (∀ k, S k = true ↔ k ∈ ns.map (Sum.inl : Int → Key)) ∧ ns.length ≤ 4094 ∧ ∀ p, H1 p = none → Q (.ref p) (upd H1 p (.lst ((riseI ns).map V.int)))) := by
    obtain ⟨G, α, ρ, μ, S, E, w⟩ := h
    refine t_gen2 (accS X.w) hG hG1 σ H _ ⟨G, α, ρ, μ, S, E, ?_⟩
    unfold sSortSc2 at w
    cases q : f ρ μ with
    | stuck => simp only [q] at w; exact w.elim
    | exc x μ1 => simp only [q] at w ⊢; exact w
    | ok ds μ1 =>
      simp only [q] at w ⊢
      cases q2 : comp2L g f1 g1 e us (wipeE ρ (own.map (·.2))) ds μ1 with
      | stuck => simp only [q2] at w; exact w.elim
      | exc x μ2 => simp only [q2] at w; exact w.elim
      | ok out μ2 =>
        simp only [q2] at w ⊢
        cases q3 : intsD out with
        | none => simp only [q3] at w; exact w.elim
        | some ns =>
          simp only [q3] at w
          have ho := intsD_eq q3
          subst ho
          by_cases hl : ns.length ≤ 4094
          · rw [if_pos hl] at w
            refine ⟨by simpa using hl, fun d hd => let ⟨i, _, e⟩ := List.mem_map.mp hd; ⟨i, e.symm⟩, fun Dd o H' α' p hD S' hx ⟨ms, S0, n, e1, e2, _, e3⟩ => ?_⟩
            have e4 : ns = ms := (List.map_inj_right fun a b h => D.int.inj h).mp e1
            subst e4 e2
            exact ⟨Dd, ns, S0, n, rfl, hx, e3, hl, fun pp hp => (wE.post p w).lst S'.unless (rpL_ints _) hp⟩
          · rw [if_neg hl] at w; exact w.elim
  refine PyProof.Rows.callWith_builtin1 (PyProof.Rows.args_cons (thn (ps.run pins s σ H _ I q) fun v s1 ⟨x, H1, I1, r1, q1⟩ => PyProof.Rows.args_nil ?_) nb) nb rfl
  obtain ⟨l, ns, S, n, rfl, hx, hS, hl, q1⟩ := q1
  cases r1
  have R := (SxKs.setMO_get I1 hx).congr (S' := fun j => decide (j ∈ ns.map (Sum.inl : Int → Key))) fun k => by
    have := hS k
    cases hk : S k with
    | true => rw [hk] at this; simpa using this.mp rfl
    | false => rw [hk] at this; simpa using this
  refine SxKs.sorted_setI R (I1.ok.hd hc) fun s' p' out cc hk' hg' ho' hz' hp' hI => ?_
  have hl2 : ((riseI ns).map V.int).length ≤ sizeLine := by
    have := riseI_len ns
    rw [List.length_map, sizeLine_eq]; omega
  exact laid_list I1 hk' hg' ho' hz' hp' hl2 (vals_of_ints hI) q1
end
end Sx

/-! SxHead: facts of the text by names, a law's end. -/
namespace Sx
open PySem PySem.Spec PyProof.Rows L2
/-- no list is among the written part -/
def noList (K : PySem.W.Frag) : Bool := K.all fun p => match p.2.cls with
  | .type c => !decide (c = "list")
  | _ => true
theorem frag_mem : ∀ {K : PySem.W.Frag} {a : Addr} {o : Obj}, K.lookup a = some o → (a, o) ∈ K
  | [], _, _, h => by cases h
  | (b, p) :: r, a, o, h => by
    rw [List.lookup_cons] at h
    cases e : (a == b) with
    | true =>
      rw [e] at h
      cases h
      rw [beq_iff_eq.mp e]
      exact List.mem_cons_self
    | false =>
      rw [e] at h
      exact List.mem_cons_of_mem _ (frag_mem h)
theorem noList_ok {K : PySem.W.Frag} (h : noList K = true) {H : Hp} {a : Addr} {xs : List V} (q : SqL K H a xs) : Rd H a (.lst xs) := by
  rcases q with q | ⟨o, its, n, h1, h2, _⟩
  · exact q
  · have z := List.all_eq_true.mp h _ (frag_mem h1)
    rw [show ((a, o) : Addr × Obj).2.cls = .type "list" from h2] at z
    simp at z
/-- what isinstance asks of an own exception class -/
def exOk (K : PySem.W.Frag) (D : Addr) : Bool :=
  decide (PySem.W.findIn K (.ref D) "__getattribute__" = some (some (.builtin "BaseException.__getattribute__"))) && (decide (PySem.W.findIn K (.ref D) "__getattr__" = some none) && (decide (PySem.W.subIn K (.ref D) (.type "BaseException") = some true) &&
  (PySem.W.hasDictIn K D && (decide (PySem.W.findIn K (.ref D) "__class__" = some (some (.builtin "object.__class__"))) && (decide (PySem.W.specialIn K (.builtin "object.__class__") "__get__" = some (some (.builtin "getset_descriptor.__get__"))) &&
  (decide (PySem.W.takesIn K (.builtin "object.__class__") = some true) && decide (PySem.W.mroIn K D (.type "object") = some true)))))))
theorem exOk_ok {K : PySem.W.Frag} {D : Addr} (h : exOk K D = true) : ExcC K D := by
  simp only [exOk, Bool.and_eq_true, decide_eq_true_eq] at h
  obtain ⟨a, b, c, d, e, f, g, i⟩ := h
  exact ⟨a, b, c, d, e, f, g, i⟩
/-- the written part: no list, and these exception classes are plain -/
def flK (es : List Str) (K : PySem.W.Frag) : Bool := noList K && es.all fun x => exOk K (He.ga K x)
theorem flK_nl {es : List Str} {K : PySem.W.Frag} (h : flK es K = true) : noList K = true := (Bool.and_eq_true _ _ ▸ h).1
theorem flK_ex {es : List Str} {K : PySem.W.Frag} (h : flK es K = true) {x : Str} (m : x ∈ es) : ExcC K (He.ga K x) := exOk_ok (List.all_eq_true.mp (Bool.and_eq_true _ _ ▸ h).2 x m)
abbrev AlS : Type := Bool × He.AlD
def obsS (es : List Str) (fa : List He.Fa) (fn : List He.DefD) (K : PySem.W.Frag) : AlS := (flK es K, He.obsD fa fn K)
def obsSG (es : List Str) (n : Nat) (fa : List He.Fa) (fn : List He.DefD) (g : Addr → Option Obj) : AlS   := obsS es fa fn (He.frG g (He.asD g n))
def hookS (es : List Str) (n : Nat) (fa : List He.Fa) (fn : List He.DefD) : PySem.W.Hook where
  α := AlS
  obs := fun s => obsSG es n fa fn s.heap.get?
  val := fun _ => (true, He.valD fn)
  says := fun _ h => ∃ K : PySem.W.Frag, K.In h ∧ flK es K = true ∧ He.SaysD fa fn K
  of := fun _ _ e => ⟨_, He.frG_in, congrArg (fun z : AlS => z.1) e, congrArg (fun z : AlS => z.2) e⟩
  keeps := fun _ _ _ ⟨K, hK, c⟩ k => ⟨K, PySem.W.Frag.In.keeps hK k, c⟩
theorem obsSG_eq {es : List Str} {n : Nat} {fa : List He.Fa} {fn : List He.DefD} {g : Addr → Option Obj} {s : Shared} (h : ∀ a, g a = s.heap.get? a) : obsSG es n fa fn g = (hookS es n fa fn).obs s := by
  have e : g = s.heap.get? := funext h
  rw [e] <;> rfl
/-- a plain def of the text -/
def dd (x : Str) (st : Stmt) : He.DefD := ⟨(x, none), x, x, defArgs st, defBody st, defScope st, [], []⟩
theorem fun_of {K : PySem.W.Frag} {fa : List He.Fa} {fn : List He.DefD} (c : He.SaysD fa fn K) (i : Nat) {x : Str} {st : Stmt} (h : fn[i]? = some (dd x st)) : ∃ fd, Fun K x x st (He.ga K x) fd := by
  obtain ⟨fd, F⟩ := c.def_ i h
  obtain ⟨oc, od, dV, kV, doc, pm, an, cdv, ct, osl, e1, e2, e3, e4, e5⟩ := F.ex
  have e : dV = .none := by
    rcases e4 with ⟨_, e⟩ | ⟨n, _⟩
    · exact e
    · exact absurd rfl n
  subst e
  exact ⟨fd, ⟨oc, od, kV, doc, pm, an, cdv, ct, osl, e1, e2, e3⟩, F.kp⟩
theorem binds1 {K : PySem.W.Frag} {x p : Str} {st : Stmt} {f : Addr} {fd : FuncData} (F : Fun K x x st f fd)
    (h : ∀ (kV doc pm : Value) (an : Option Addr) (cdv ct : Value) (us : List Value), us.length = [p].length → bindArgs (PySem.W.fnOf x x (defArgs st) (defBody st) (defScope st) .none kV doc pm an cdv ct) ⟨us, []⟩ = pure ([p].zip us)) (s : Shared) (u : Value) : BindsTo s fd ⟨[u], []⟩ [(p, u)] := by
  obtain ⟨oc, od, kV, doc, pm, an, cdv, ct, osl, rfl, _, _⟩ := F.ex
  exact .of_eq (h kV doc pm an cdv ct [u] rfl)
theorem def_at {T : Tx} {h : Heap} {fa : List He.Fa} {fn : List He.DefD} (X : T.K.In h) (G : h.Ns mainGlobals T.mg) (c : He.SaysD fa fn T.K) (i j : Nat) {x : Str} {st : Stmt} (h1 : fn[i]? = some (dd x st) := by rfl) (h2 : fa[j]? = some (.glo x) := by rfl) : DefAt T x st := by
  obtain ⟨fd, F⟩ := fun_of c i h1
  exact ⟨_, fd, F, He.glo_ok X G (c.fact j h2)⟩
/-- a law's end -/
theorem sx_walk {l : PySem.W.OpenLaw} {n k : Nat} {q : Program} {loose : List Str} {XP : (Str → Option Value) → Heap → Prop} {YP : World → Heap → Prop} {d : DefRec} {x : Str} {F : FD}
    (hn : l.most = some n) (hn2 : n ≤ sizeLine) (hdf : d.params.defaults = []) (hr : Room k callerA)
    (hF : ∀ (w : World) (mg : Str → Option Value) (fa : Addr) (h : Heap), YP w h → h.Ns mainGlobals mg → mg d.name = some (.ref fa) →
      ∃ (K : PySem.W.Frag) (fd : FuncData) (Z : Wd), K.In h ∧ Z.tabs = [] ∧ noList K = true ∧ (∀ (s : Shared) (u : Value), BindsTo s fd ⟨[u], []⟩ [(x, u)]) ∧
        ∀ base : Heap, K.In base → base.Ns mainGlobals mg → FnOk l.prog w K mg base (L2.CX l.prog w) k fa fd [x] (spD Z [false] F))
    (plain : ∀ ns : List Int, ns.length ≤ n → ∃ cs, F [] [.scr ns] = .ok (.dat (.bl true)) cs) :
    PySem.W.WalkO q loose XP YP l.row.toRowW d [] (fun f vs => PySem.call f vs) := by
  refine Att.attach_call hn hdf fun w s₀ s₁ mg mb fa o pm cd doc a vs ns G Y ho hd hcd hmg hobj hints hlen hg => ?_
  obtain ⟨K, fd, Z, KX, tb, nl, hb, hF⟩ := hF w mg fa _ Y G.T.g hmg
  refine law_call KX G.T.g G.T.b G.T.builtins G.T.nolimit hg hobj hints (Nat.le_trans hlen hn2) hr hF hb (fun H hO hS => ?_) fun H e s' => ?_
  · obtain ⟨cs, e⟩ := plain ns hlen
    refine ⟨rfl, fun _ => False, [], [], [.scr ns], rfl, rfl, ⟨rfl, List.nodup_nil, fun b h => h.elim, fun k a c h _ => by simp at h, fun p hp => by rw [tb] at hp; cases hp⟩, .cons (show Rp H _ (.ref a) (.scr ns) from .scr (noList_ok nl hS) fun z => ?_) .nil, ?_⟩
    · rcases z with z | z
      · exact z
      · cases z
    · rw [e]
      intro v H' P S r
      cases r
      rfl
  · rintro ⟨a, B, H', cls, d, _, _, _, _, _, _, _, h⟩
    exact h
end Sx

/-! SxTry: raise of own exceptions without fields, try .. except. -/
namespace Sx
open PySem L2
/-- an own exception class -/
structure ExcAt (T : Tx) (x : Str) : Prop where
  mg : T.mg x = some (.ref (T.Z.cls x))
  nw : PySem.W.excIn T.K (T.Z.cls x) He.veBase "ValueError.__new__" = true
  kp : PySem.W.keepIn T.K (.ref (T.Z.cls x)) = true
  sb : PySem.W.subIn T.K (.ref (T.Z.cls x)) (.type "BaseException") = some true
  ty : PySem.W.typeIn T.K (.ref (T.Z.cls x)) = some (.type "type")
def sRaise (x : Str) : SS := fun ρ μ => .exc ⟨x, none⟩ ρ μ
section
variable {T : Tx} {X : Cx} {W : WX} {x m : Str} {j : Nat} {p p2 pos pos' : Pos}
theorem s_raise (h : ExcAt T x) (tx : InTx T X) (hc : X.calm = true) (tk : Takes X W) (hg : Gl X x) (hdb : (x == ("__debug__" : Str)) = false := by decide) :
    PS X (.Raise (some (.Call (.Name x p) [.Constant (.str m) j p2] [] pos)) none pos') (tS T.Z W (sRaise x)) := by
  obtain ⟨e1, e2, e3, e4, e5⟩ := tx
  refine PSimp (ps_raise hc tk (pmk_own (C := T.Z.cls x) PySem.F.excBase_ValueError (by rw [e3]; exact h.nw) (by rw [e4]; exact h.mg) (by rw [e3]; exact h.kp) (raises_own (by rw [e3]; exact h.sb) (by rw [e3]; exact h.ty)) hg hdb)) ?_
  rintro D σ H ⟨G, α, ρ, μ, S, E, w⟩
  exact w _ none σ H α Post.refl S E ⟨rfl, rfl⟩
end
/-! ### try: body; except c: suite -/
/-- which of the classes that may come are caught -/
def Caught (T : Tx) (c : Str) (m : Str → Option Bool) : Prop := ∀ x b, m x = some b → PySem.W.exmOne T.K (.ref (T.Z.cls x)) (.ref (T.Z.cls c)) = some b
/-- what follows an exception that is caught by m -/
def onExc (m : Str → Option Bool) (h : Exn → Env → Sto → SOut) : SOut → SOut
  | .exc x ρ μ => match m x.cls with
    | some true => h x ρ μ
    | some false => .exc x ρ μ
    | none => .stuck
  | r => r
/-- a suite lets nothing out -/
def calmS : SOut → SOut
  | .exc _ _ _ => .stuck
  | r => r
def sTry (m : Str → Option Bool) (g h : SS) : SS := fun ρ μ => onExc m (fun _ ρ1 μ1 => calmS (h ρ1 μ1)) (g ρ μ)
section
variable {T : Tx} {X : Cx} {W : WX} {c n : Str} {body suite : List Stmt} {b₀ : Stmt} {np pos pos' pos'' : Pos} {g h : SS} {m k : Str → Option Bool}
theorem wS.calm {Z : Wd} {G : Addr → Prop} {α : List Addr} {H : Hp} {D : Ends} {W W' : WX} {o : SOut} (hw : wS Z W G α H (calmS o) D) : wS Z W' G α H o D := by
  cases o with
  | exc x ρ μ => exact hw.elim
  | _ => exact hw
theorem names_own (hc : X.mg c = some (.ref (T.Z.cls c))) (hg : Gl X c) (hdb : (c == ("__debug__" : Str)) = false) : Names X c (.ref (T.Z.cls c)) := ⟨hg, hdb, .inl hc⟩
theorem s_try (hm : Caught T c m) (tx : InTx T X) (hc : T.mg c = some (.ref (T.Z.cls c))) (tk : Takes X W)
    (hb : ∀ (W : WX) (pn : List (Addr × Obj)) (xe : Value → Shared → Prop), Takes (X.tr pn xe) W → PassesOwn (model X.prog X.w) X.A X.env xe → PSs (X.tr pn xe) body (tS T.Z W g))
    (hsu : ∀ (a : Addr) (oe : Obj) (pn : List (Addr × Obj)), PSs (X.suite a ((a, oe) :: pn)) (b₀ :: suite) (tS T.Z (fun _ _ _ _ => False) h))
    (hs : X.stack = X.env :: X.outer := by rfl) (hf : X.env.frame = some X.env.locals := by rfl) (hg : Gl X c := by rfl) (hdb : (c == ("__debug__" : Str)) = false := by decide) :
    PS X (.Try body [.ExceptHandler (some (.Name c np)) none (b₀ :: suite) pos'] [] [] pos) (tS T.Z W (sTry m g h)) := by
  obtain ⟨e1, e2, e3, e4, e5⟩ := tx
  refine PSimp (ps_try_only hs hf (names_own (T := T) (by rw [e4]; exact hc) hg hdb) tk hb (ts := fun _ _ _ => tS T.Z (fun _ _ _ _ => False) h) fun a oe cls d pn _ _ => hsu a oe pn) ?_
  rintro D σ H ⟨G, α, ρ, μ, S, E, w⟩
  refine ⟨G, α, ρ, μ, S, E, ?_⟩
  unfold sTry at w
  cases q : g ρ μ with
  | exc x ρ1 μ1 =>
    rw [q] at w
    simp only [onExc] at w
    intro cls dd σ' H' α' p s r rx
    cases hb : m x.cls with
    | none => simp only [hb] at w; exact w.elim
    | some b =>
      simp only [hb] at w
      refine ⟨b, by rw [e3, rx.1]; exact hm _ _ hb, fun e a ha => ?_, fun e => ?_⟩
      · subst e
        exact ⟨G, α', ρ1, μ1, s, r, (wS.post p w).calm⟩
      · subst e
        exact w cls dd σ' H' α' p s r rx
  | next ρ1 μ1 => rw [q] at w; exact w
  | ret r μ1 => rw [q] at w; exact w
  | brk ρ1 μ1 => rw [q] at w; exact w
  | cnt ρ1 μ1 => rw [q] at w; exact w
  | stuck => rw [q] at w; exact w
/-! ### except c as n: f = isinstance(n, d) -/
/-- what isinstance asks of the classes that may come -/
structure IsAt (T : Tx) (d : Str) (k : Str → Option Bool) : Prop where
  ex : ∀ x b, k x = some b → ExcC T.K (T.Z.cls x)
  kit : ∀ x b, k x = some b → PySem.W.kitOne T.K (.ref (T.Z.cls x)) (.ref (T.Z.cls d)) = some b
  mg : T.mg d = some (.ref (T.Z.cls d))
def isIn (k : Str → Option Bool) (i f : Nat) (x : Exn) (ρ : Env) (μ : Sto) : SOut := match x.fld, k x.cls with
  | none, some b => if i < ρ.length then .next ((ρ.set f (some (.dat (.bl b)))).set i none) μ else .stuck
  | _, _ => .stuck
def sTryIs (m k : Str → Option Bool) (i f : Nat) (g : SS) : SS := fun ρ μ => onExc m (isIn k i f) (g ρ μ)
theorem RepE.setN {G : Addr → Prop} {α : List Addr} {H : Hp} {σ : St} {ρ : Env} {i : Nat} {x : Option V} (E : RepE G α H σ ρ) : RepE G α H (σ.set i x) (ρ.set i none) := by
  refine ⟨by simp [E.len], fun j u h => ?_⟩
  by_cases e : i = j
  · subst e
    have hl : i < ρ.length := by have := (List.getElem?_eq_some_iff.mp h).1; simpa using this
    rw [List.getElem?_set_self hl] at h
    cases h
  · rw [List.getElem?_set_ne e] at h
    rw [List.getElem?_set_ne e]
    exact E.get j u h
theorem s_tryIs {d z : Str} {i f : Nat} {pf p1 p2 p3 p4 : Pos} (hm : Caught T c m) (hk : IsAt T d k) (tx : InTx T X) (hN : X.N.Nodup) (hif : i ≠ f) (hmi : X.mg "isinstance" = none) (hc : T.mg c = some (.ref (T.Z.cls c))) (tk : Takes X W)
    (hb : ∀ (W : WX) (pn : List (Addr × Obj)) (xe : Value → Shared → Prop), Takes (X.tr pn xe) W → PassesOwn (model X.prog X.w) X.A X.env xe → PSs (X.tr pn xe) body (tS T.Z W g))
    (hi : X.N[i]? = some n := by rfl) (hfz : X.N[f]? = some z := by rfl) (hln : X.env.kindOf n = some .local := by rfl) (hlz : Loc X.env.scope z := by first | exact Or.inl rfl | exact Or.inr rfl)
    (hlu : X.fn z = true ∨ X.env.scope.names.lookup z = some .local := by first | exact .inl rfl | exact .inr rfl | assumption)
    (hs : X.stack = X.env :: X.outer := by rfl) (hf : X.env.frame = some X.env.locals := by rfl) (hg : Gl X c := by rfl) (hgd : Gl X d := by rfl) (hgi : Gl X "isinstance" := by rfl)
    (hdb : (c == ("__debug__" : Str)) = false := by decide)
    (hd1 : (n == ("__debug__" : Str)) = false := by decide) (hd2 : (n == ("__classdict__" : Str)) = false := by decide) (hd3 : (d == ("__debug__" : Str)) = false := by decide) :
    PS X (.Try body [.ExceptHandler (some (.Name c np)) (some n) [.Assign [.Name z pf] (.Call (.Name "isinstance" p1) [.Name n p2, .Name d p3] [] p4) pos] pos'] [] [] pos'') (tS T.Z W (sTryIs m k i f g)) := by
  obtain ⟨e1, e2, e3, e4, e5⟩ := tx
  refine PSimp (ps_try_as hs hf hN hi hln (names_own (T := T) (by rw [e4]; exact hc) hg hdb) tk hb
    (ts := fun a cls dd D σ H => ∃ C b, cls = .ref C ∧ dd = none ∧ ExcC X.K C ∧ PySem.W.kitOne X.K (.ref C) (.ref (T.Z.cls d)) = some b ∧ σ[i]? = some (some (.ref a)) ∧ D.nx (σ.set f (some (.bl b))) H) fun a oe cls dd pn hz hv => ⟨fun pins s σ H D I q => ?_⟩) ?_
  · obtain ⟨C, b, rfl, rfl, hC, hkit, hσ, q⟩ := q
    refine (pss_one (X := X.suite a ((a, oe) :: pn)) (ps_set (i := f) hN hfz hlz (pe_callB (call_isE (X := X) hC hz hv) hgi hmi PyProof.Rows.boot_isinstance
      (pa_cons (pe_var (i := i) hi (.inl hln) hd1 hd2) (pa_cons (pe_glob (v := .ref (T.Z.cls d)) hgd (by show X.mg d = _; rw [e4]; exact hk.mg) rfl hd3) pa_nil))) rfl hlu)).run pins s σ H D I ?_
    exact ⟨_, hσ, .ref (T.Z.cls d), .ref (T.Z.cls d), b, rfl, fun u hu => hu, hkit, q⟩
  · rintro D σ H ⟨G, α, ρ, μ, S, E, w⟩
    refine ⟨G, α, ρ, μ, S, E, ?_⟩
    unfold sTryIs at w
    cases q : g ρ μ with
    | exc x ρ1 μ1 =>
      rw [q] at w
      simp only [onExc] at w
      intro cls dd σ' H' α' p s r rx
      cases hb : m x.cls with
      | none => simp only [hb] at w; exact w.elim
      | some b =>
        simp only [hb] at w
        refine ⟨b, by rw [e3, rx.1]; exact hm _ _ hb, fun e a ha => ?_, fun e => ?_⟩
        · subst e
          simp only [isIn] at w
          cases hx : x.fld with
          | some y => simp only [hx] at w; exact w.elim
          | none =>
            cases hkb : k x.cls with
            | none => simp only [hx, hkb] at w; exact w.elim
            | some b2 =>
              simp only [hx, hkb] at w
              have rd := rx.2
              rw [hx] at rd
              by_cases hl : i < ρ1.length
              case neg => rw [if_neg hl] at w; exact w.elim
              rw [if_pos hl] at w
              have hlen : i < σ'.length := by rw [r.len]; exact hl
              refine ⟨T.Z.cls x.cls, b2, rx.1, rd, by rw [e3]; exact hk.ex _ _ hkb, by rw [e3]; exact hk.kit _ _ hkb, List.getElem?_set_self hlen, ?_⟩
              have r1 : RepE G α' H' (σ'.set i (some (.ref a))) (ρ1.set i none) := r.setN
              have r2 := (r1.set (i := f) (x := .bl b2) (v := .dat (.bl b2)) (Rp.bl b2)).setN (i := i) (x := none)
              have e : ((ρ1.set i none).set f (some (.dat (.bl b2)))).set i none = (ρ1.set f (some (.dat (.bl b2)))).set i none := by
                rw [List.set_comm _ _ hif, List.set_set]
              rw [e] at r2
              exact w _ H' α' p s r2
        · subst e
          exact w cls dd σ' H' α' p s r rx
    | next ρ1 μ1 => rw [q] at w; exact w
    | ret r μ1 => rw [q] at w; exact w
    | brk ρ1 μ1 => rw [q] at w; exact w
    | cnt ρ1 μ1 => rw [q] at w; exact w
    | stuck => rw [q] at w; exact w
end
/-! ### from the facts of a law's text -/
def mC (l : List (Str × Bool)) : Str → Option Bool := fun x => l.lookup x
theorem lookup_mem {β : Type} : ∀ {l : List (Str × β)} {x : Str} {b : β}, l.lookup x = some b → (x, b) ∈ l
  | [], _, _, h => by cases h
  | (y, c) :: r, x, b, h => by
    rw [List.lookup_cons] at h
    cases e : (x == y) with
    | true => rw [e] at h; cases h; rw [beq_iff_eq.mp e]; exact List.mem_cons_self
    | false => rw [e] at h; exact List.mem_cons_of_mem _ (lookup_mem h)
theorem caught_of {T : Tx} {c : Str} {l : List (Str × Bool)} (h : ∀ p ∈ l, PySem.W.exmOne T.K (.ref (T.Z.cls p.1)) (.ref (T.Z.cls c)) = some p.2) : Caught T c (mC l) := fun x b e => h (x, b) (lookup_mem e)
theorem kit_true {K : PySem.W.Frag} {t c : Value} (h : PySem.W.exmOne K t c = some true) : PySem.W.kitOne K t c = some true := by
  unfold PySem.W.exmOne at h
  split at h
  · unfold PySem.W.kitOne
    rw [h]
    split <;> rfl
  · cases h
theorem isAt_of {T : Tx} {d : Str} {l : List (Str × Bool)} (mg : T.mg d = some (.ref (T.Z.cls d))) (ex : ∀ p ∈ l, ExcC T.K (T.Z.cls p.1)) (h : ∀ p ∈ l, PySem.W.exmOne T.K (.ref (T.Z.cls p.1)) (.ref (T.Z.cls d)) = some true ∧ p.2 = true) : IsAt T d (mC l) :=
  ⟨fun x b e => ex _ (lookup_mem e), fun x b e => by obtain ⟨h1, h2⟩ := h _ (lookup_mem e); simp only at h1 h2; rw [h2]; exact kit_true h1, mg⟩
/-- the facts of a class -/
theorem exc_at {T : Tx} {h : Heap} {x : Str} (X : T.K.In h) (G : h.Ns mainGlobals T.mg) (hz : T.Z.cls = He.ga T.K) (c1 : (He.Fa.exc x).ok T.K = true) (c2 : (He.Fa.glo x).ok T.K = true) : ExcAt T x := by
  obtain ⟨a, b, c, d⟩ := He.exc_ok c1
  exact ⟨by rw [hz]; exact He.glo_ok X G c2, by rw [hz]; exact a, by rw [hz]; exact b, by rw [hz]; exact c, by rw [hz]; exact d⟩
theorem exm_at {T : Tx} {x y : Str} {b : Bool} (hz : T.Z.cls = He.ga T.K) (c : (He.Fa.exm x y b).ok T.K = true) : PySem.W.exmOne T.K (.ref (T.Z.cls x)) (.ref (T.Z.cls y)) = some b := by
  rw [hz]; exact He.exm_ok c
end Sx

/-! SxWalkD: walks over dicts that a name holds as data: keys, values, items. -/
namespace Sx
open PySem L2
section
variable {G : Addr → Prop} {α : List Addr} {H H' : Hp} {μ : Sto} {σ : St} {ρ : Env} {d : Addr} {u : HO} {od : Obj}
theorem RepS.kp (S : RepS Z G α H μ) (k : ∀ a o, H a = some o → ∃ o', H' a = some o' ∧ Kp o o') (c : ∀ a, a ∈ α → H' a = H a) (t : LamX.Tabs Z.tabs H') : RepS Z G α H' μ :=
  ⟨S.len, S.nd, fun b h => ⟨(S.gd b h).1, let ⟨o, e⟩ := (S.gd b h).2; let ⟨o', e', _⟩ := k b o e; ⟨o', e'⟩⟩, fun j a x h1 h2 => (S.cell j a x h1 h2).mono (fun b o n e => ⟨k b o e, n⟩) (c a (List.mem_of_getElem? h1)), t⟩
theorem RepE.kp (E : RepE G α H σ ρ) (k : ∀ a o, H a = some o → ∃ o', H' a = some o' ∧ Kp o o') : RepE G α H' σ ρ := by
  refine ⟨E.len, fun i v h => ?_⟩
  obtain ⟨x, h1, h2⟩ := E.get i v h
  refine ⟨x, h1, ?_⟩
  cases v with
  | dat d => exact Rp.mono (fun b o n e => ⟨k b o e, n⟩) h2
  | loc n => exact h2
theorem kp_lock (hd : H d = some u) (hu : IsDic u) : ∀ a o, H a = some o → ∃ o', upd H d (.frz od u) a = some o' ∧ Kp o o' := fun a o e => by
  by_cases z : a = d
  · subst z
    rw [hd] at e
    cases e
    exact ⟨_, upd_same, .inr (.inl ⟨od, u, hu, .inl ⟨rfl, rfl⟩⟩)⟩
  · exact ⟨o, by rw [upd_ne z]; exact e, Kp.rfl⟩
theorem kp_unlock (hd : H d = some (.frz od u)) (hu : IsDic u) : ∀ a o, H a = some o → ∃ o', upd H d u a = some o' ∧ Kp o o' := fun a o e => by
  by_cases z : a = d
  · subst z
    rw [hd] at e
    cases e
    exact ⟨_, upd_same, .inr (.inl ⟨od, u, hu, .inr ⟨rfl, rfl⟩⟩)⟩
  · exact ⟨o, by rw [upd_ne z]; exact e, Kp.rfl⟩
/-- what has happened under the lock, without it -/
theorem Post.unlock {α1 : List Addr} {H1 : Hp} (p : Post α (upd H d (.frz od u)) α1 H1) (hd : H d = some u) (hu : IsDic u) : Post α H α1 (upd H1 d u) := by
  refine ⟨p.ext, fun b hb n => ?_, fun b o e n t => ?_, fun b o e => ?_, fun b ps e n => ?_⟩
  · have z := p.fresh b hb n
    by_cases q : b = d
    · subst q; rw [upd_same] at z; cases z
    · rw [upd_ne q] at z; exact z
  · by_cases q : b = d
    · subst q; rw [upd_same]; rw [hd] at e; exact e
    · rw [upd_ne q]; exact p.keep0 b o (by rw [upd_ne q]; exact e) n t
  · by_cases q : b = d
    · subst q; exact ⟨_, upd_same⟩
    · rw [upd_ne q]; exact p.dom b o (by rw [upd_ne q]; exact e)
  · by_cases q : b = d
    · subst q; rw [hd] at e; cases e; exact hu.elim
    · rw [upd_ne q]; exact p.tbl b ps (by rw [upd_ne q]; exact e) n
theorem wE.lock {Z : Wd} {o : Out Res} {Q : VK} {E E' : XK} (w : wE Z G α H o Q E) (hd : H d = some u) (hu : IsDic u) (nd : ¬ off G α d) (hx : ∀ x μ', o ≠ .exc x μ') :
    wE Z G α (upd H d (.frz od u)) o (fun v H' => H' d = some (.frz od u) ∧ Q v (upd H' d u)) E' := by
  have na : d ∉ α := fun z => nd (.inr z)
  cases o with
  | stuck => exact w
  | exc x μ' => exact (hx x μ' rfl).elim
  | ok r μ' =>
    have st : ∀ {α1 : List Addr} {H1 : Hp}, Post α (upd H d (.frz od u)) α1 H1 → H1 d = some (.frz od u) ∧ d ∉ α1 := fun p => ⟨p.keep d _ upd_same na, fun z => by have := p.fresh d z na; rw [upd_same] at this; cases this⟩
    cases r with
    | dat v =>
      intro x H1 α1 p S1 r1
      obtain ⟨h1, n1⟩ := st p
      have k := kp_unlock (u := u) h1 hu
      exact ⟨h1, w x _ α1 (p.unlock hd hu) (S1.kp k (fun a ha => upd_ne fun z => n1 (by rw [← z]; exact ha)) (tabs_upd S1.tb fun w ew => by rw [h1] at ew; cases ew; exact nt_frz)) (Rp.mono (fun b o n e => ⟨k b o e, n⟩) r1)⟩
    | loc n =>
      intro x H1 α1 p S1 r1
      obtain ⟨h1, n1⟩ := st p
      have k := kp_unlock (u := u) h1 hu
      exact ⟨h1, w x _ α1 (p.unlock hd hu) (S1.kp k (fun a ha => upd_ne fun z => n1 (by rw [← z]; exact ha)) (tabs_upd S1.tb fun w ew => by rw [h1] at ew; cases ew; exact nt_frz)) r1⟩
    | new c =>
      intro x H1 α1 p hp S1
      obtain ⟨h1, n1⟩ := st p
      have k := kp_unlock (u := u) h1 hu
      have hp' : H x = none := by
        by_cases q : x = d
        · subst q; rw [upd_same] at hp; cases hp
        · rw [upd_ne q] at hp; exact hp
      refine ⟨h1, w x _ α1 (p.unlock hd hu) hp' (S1.kp k (fun a ha => upd_ne fun z => ?_) (tabs_upd S1.tb fun w ew => by rw [h1] at ew; cases ew; exact nt_frz))⟩
      subst z
      rcases List.mem_append.mp ha with h | h
      · exact n1 h
      · rw [List.mem_singleton.mp h] at hd
        rw [hp'] at hd; cases hd
theorem PEor {X : Cx} {e : Expr} {t t' : TE} (h : PE X e t) (h' : PE X e t') : PE X e (fun σ H Q => t σ H Q ∨ t' σ H Q) :=
  ⟨fun pins s σ H Q I q => q.elim (fun q => h.run pins s σ H Q I q) fun q => h'.run pins s σ H Q I q⟩
theorem PSor {X : Cx} {e : Stmt} {t t' : TS} (h : PS X e t) (h' : PS X e t') : PS X e (fun D σ H => t D σ H ∨ t' D σ H) :=
  ⟨fun pins s σ H D I q => q.elim (fun q => h.run pins s σ H D I q) fun q => h'.run pins s σ H D I q⟩
end
/-! ### what is walked -/
def kD : Key → D
  | .inl i => .int i
  | .inr s => .str s
theorem kD_ok {H : Hp} {F : Addr → Prop} (k : Key) : Rp H F (kV k) (kD k) := by
  cases k with
  | inl i => exact .int i
  | inr s => exact .str s
theorem rpK_at {H : Hp} {F : Addr → Prop} : ∀ {xs : List (Key × V)} {ds : List (Key × D)} {i : Nat} {k : Key} {d : D}, RpK H F xs ds → ds[i]? = some (k, d) → ∃ v, xs[i]? = some (k, v) ∧ Rp H F v d
  | _, _, _, _, _, .nil, e => by simp at e
  | _, _, 0, k, d, .cons r _, e => by simp at e; obtain ⟨rfl, rfl⟩ := e; exact ⟨_, rfl, r⟩
  | _, _, i + 1, k, d, .cons _ t, e => by simpa using rpK_at (i := i) t (by simpa using e)
theorem rpK_lenD {H : Hp} {F : Addr → Prop} : ∀ {xs : List (Key × V)} {ds : List (Key × D)}, RpK H F xs ds → xs.length = ds.length
  | _, _, .nil => rfl
  | _, _, .cons _ t => congrArg (· + 1) (rpK_lenD t)
section
variable {G : Addr → Prop} {α : List Addr} {H : Hp} {d : Addr} {o : Obj} {xs : List (Key × V)} {ds : List (Key × D)}
theorem walks_keys (h : H d = some (.frz o (.dK xs))) (n : ¬ off G α d) (l : RpK H (off G α) xs ds) (hl : xs.length ≤ sizeLine) : Walks G α H (Itk d o xs) (ds.map fun p => kD p.1) := by
  have len := rpK_lenD l
  refine ⟨by rw [List.length_map, ← len]; exact hl, fun i α2 H2 p2 hi => ?_, fun G2 i α2 H2 μ2 x H3 e hG p2 S2 y he => ?_, fun i α2 H2 p2 hi => ?_⟩
  · rw [List.length_map, ← len] at hi
    exact ⟨p2.keepN h n, hi⟩
  · obtain ⟨rfl, k, v, h1, rfl⟩ := y
    rw [List.getElem?_map] at he
    obtain ⟨q, hq, rfl⟩ := Option.map_eq_some_iff.mp he
    obtain ⟨v', h2, _⟩ := rpK_at (k := q.1) (d := q.2) l hq
    rw [h1] at h2
    cases h2
    exact ⟨Post.refl, S2, kD_ok _⟩
  · rw [List.length_map, ← len] at hi
    exact ⟨p2.keepN h n, Nat.le_of_eq hi.symm⟩
theorem walks_vals (h : H d = some (.frz o (.dK xs))) (n : ¬ off G α d) (l : RpK H (off G α) xs ds) (hl : xs.length ≤ sizeLine) : Walks G α H (Itd d o xs) (ds.map fun p => p.2) := by
  have len := rpK_lenD l
  refine ⟨by rw [List.length_map, ← len]; exact hl, fun i α2 H2 p2 hi => ?_, fun G2 i α2 H2 μ2 x H3 e hG p2 S2 y he => ?_, fun i α2 H2 p2 hi => ?_⟩
  · rw [List.length_map, ← len] at hi
    exact ⟨p2.keepN h n, hi⟩
  · obtain ⟨rfl, k, h1⟩ := y
    rw [List.getElem?_map] at he
    obtain ⟨q, hq, rfl⟩ := Option.map_eq_some_iff.mp he
    obtain ⟨v', h2, h3⟩ := rpK_at (k := q.1) (d := q.2) l hq
    rw [h1] at h2
    cases h2
    exact ⟨Post.refl, S2, Rp.mono (p2.keptG hG) h3⟩
  · rw [List.length_map, ← len] at hi
    exact ⟨p2.keepN h n, Nat.le_of_eq hi.symm⟩
end
/-- the dict that a name holds as data -/
def dicAt (ρ : Env) (i : Nat) : Option (List (Key × D)) := match gv ρ i with
  | some (.dat (.dic kvs)) => some kvs
  | _ => none
def itO (μ : Sto) (ds : Option (List D)) : Out (List D) := match ds with
  | some ds => .ok ds μ
  | none => .stuck
def sItK (i : Nat) : SI := fun ρ μ => itO μ ((dicAt ρ i).map fun kvs => kvs.map fun p => kD p.1)
def sItV (i : Nat) : SI := fun ρ μ => itO μ ((dicAt ρ i).map fun kvs => kvs.map fun p => p.2)
theorem dicAt_ok {G : Addr → Prop} {α : List Addr} {H : Hp} {σ : St} {ρ : Env} {i : Nat} {kvs : List (Key × D)} (E : RepE G α H σ ρ) (h : dicAt ρ i = some kvs) : ∃ d xs, σ[i]? = some (some (.ref d)) ∧ Rd H d (.dK xs) ∧ ¬ off G α d ∧ RpK H (off G α) xs kvs := by
  unfold dicAt at h
  split at h
  · rename_i hg
    cases h
    obtain ⟨x, h1, h2⟩ := E.get i _ (gv_some hg)
    cases h2 with
    | dic r n l => exact ⟨_, _, h1, r, n, l⟩
  · cases h
/-! ### under a lock -/
theorem PIimpK {X : Cx} {tg e : Expr} {t t' : TI} (h : PI X tg e t) (i : ∀ σ H R, t' σ H R → t σ H fun J H1 => (∀ a kvs, Rd H1 a (.dK kvs) → kvs.length ≤ sizeLine) → R J H1) : PI X tg e t' := ⟨fun pins s σ H R I hw => by
  refine thn (h.run pins s σ H (fun J H1 => (∀ a kvs, Rd H1 a (.dK kvs) → kvs.length ≤ sizeLine) → R J H1) I (i σ H R hw)) fun v s1 h1 => thn h1 fun itv s2 h2 => ?_
  obtain ⟨it, fp, tn, J, H', e, I', T, st, f, r⟩ := h2
  exact ⟨it, fp, tn, J, H', e, I', T, st, f, r fun a kvs q => (dk_rd I'.hok q).1⟩⟩
/-- the keys, the values of the dict that slot i holds, locked -/
def tKeys (i : Nat) : TI := fun σ H R => ∃ d o kvs, σ[i]? = some (some (.ref d)) ∧ H d = some (.frz o (.dK kvs)) ∧ (kvs.length ≤ sizeLine → R (Itk d o kvs) H)
def tVals (i : Nat) : TI := fun σ H R => ∃ d o kvs, σ[i]? = some (some (.ref d)) ∧ H d = some (.frz o (.dK kvs)) ∧ (kvs.length ≤ sizeLine → R (Itd d o kvs) H)
section
variable {X : Cx} {Z : Wd} {W : WX} {tg : Expr} {i : Nat} {x : Str} {p apos cpos : Pos} {σ : St} {H : Hp} {R : It → Hp → Prop}
theorem pi_keysN (hN : X.N[i]? = some x) (hv : Vis X.env.scope x) (hd : (x == ("__debug__" : Str)) = false := by decide) (hcd : (x == ("__classdict__" : Str)) = false := by decide) : PI X tg (.Name x p) (tKeys i) := by
  refine PIimpK (pi_keys (pe_var (i := i) hN hv hd hcd)) ?_
  rintro σ H R ⟨d, o, kvs, h1, h2, h3⟩
  exact ⟨_, h1, d, o, rfl, .inl ⟨kvs, h2, fun q => h3 (q d kvs (.inr ⟨_, h2⟩))⟩⟩
theorem pi_valsN (hN : X.N[i]? = some x) (hv : Vis X.env.scope x) (hd : (x == ("__debug__" : Str)) = false := by decide) (hcd : (x == ("__classdict__" : Str)) = false := by decide) (hbase : attributeBase (.Name x p) "values" X.env (eval (.Name x p) X.env) = eval (.Name x p) X.env := by rfl) (hline : (apos.endLine == cpos.line) = true := by rfl) :
    PI X tg (.Call (.Attribute (.Name x p) "values" apos) [] [] cpos) (tVals i) := by
  refine PIimpK (pi_values (pe_var (i := i) hN hv hd hcd) hbase hline) ?_
  rintro σ H R ⟨d, o, kvs, h1, h2, h3⟩
  exact ⟨_, h1, d, o, kvs, rfl, h2, fun q => h3 (q d kvs (.inr ⟨_, h2⟩))⟩
theorem frz_same {d : Addr} {o : Obj} {kvs xs : List (Key × V)} (h : H d = some (.frz o (.dK kvs))) (r : Rd H d (.dK xs)) : xs = kvs := by
  rcases r with r | ⟨ob, r⟩
  · rw [h] at r; cases r
  · rw [h] at r; cases r; rfl
theorem keys_of (d : Addr) (o : Obj) (kvs : List (Key × V)) (h1 : σ[i]? = some (some (.ref d))) (h2 : H d = some (.frz o (.dK kvs))) (h : tI Z W (sItK i) σ H R) : tKeys i σ H R := by
  obtain ⟨G, α, ρ, μ, S, E, w⟩ := h
  unfold sItK at w
  cases q : dicAt ρ i with
  | none => rw [q] at w; exact w.elim
  | some ds =>
    rw [q] at w
    obtain ⟨d', xs, e1, e2, e3, e4⟩ := dicAt_ok E q
    rw [h1] at e1; cases e1
    have e := frz_same h2 e2
    subst e
    exact ⟨d, o, xs, h1, h2, fun hl => w _ H α Post.refl S (walks_keys h2 e3 e4 hl)⟩
theorem vals_of (d : Addr) (o : Obj) (kvs : List (Key × V)) (h1 : σ[i]? = some (some (.ref d))) (h2 : H d = some (.frz o (.dK kvs))) (h : tI Z W (sItV i) σ H R) : tVals i σ H R := by
  obtain ⟨G, α, ρ, μ, S, E, w⟩ := h
  unfold sItV at w
  cases q : dicAt ρ i with
  | none => rw [q] at w; exact w.elim
  | some ds =>
    rw [q] at w
    obtain ⟨d', xs, e1, e2, e3, e4⟩ := dicAt_ok E q
    rw [h1] at e1; cases e1
    have e := frz_same h2 e2
    subst e
    exact ⟨d, o, xs, h1, h2, fun hl => w _ H α Post.refl S (walks_vals h2 e3 e4 hl)⟩
def calmE : Out Res → Out Res
  | .exc _ _ => .stuck
  | r => r
/-- with the dict that name i holds locked -/
def sLk (i : Nat) (F : SE) : SE := fun ρ μ => match dicAt ρ i with
  | some _ => calmE (F ρ μ)
  | none => .stuck
theorem calmE_ok {G : Addr → Prop} {α : List Addr} {o : Out Res} {Q : VK} {E E' : XK} (w : wE Z G α H (calmE o) Q E) : wE Z G α H o Q E' ∧ ∀ x μ', o ≠ .exc x μ' := by
  cases o with
  | exc x μ => exact w.elim
  | stuck => exact w.elim
  | ok r μ => cases r <;> exact ⟨w, by intros; simp⟩
theorem d_lock {e : Expr} {F : SE} {T : TE} (hP : PE X e T) (hT : ∀ σ H Q d o kvs, σ[i]? = some (some (.ref d)) → H d = some (.frz o (.dK kvs)) → tD Z W0 F σ H Q → T σ H Q) : PE X e (tD Z W (sLk i F)) := by
  refine PEimp (PEor (pe_lock hP) hP) ?_
  rintro σ H Q ⟨G, α, ρ, μ, S, E, w⟩
  unfold sLk at w
  cases q : dicAt ρ i with
  | none => simp only [q] at w; exact w.elim
  | some ds =>
    simp only [q] at w
    obtain ⟨d, xs, e1, e2, e3, e4⟩ := dicAt_ok E q
    rcases e2 with e2 | ⟨ob, e2⟩
    · refine .inl ⟨d, .dK xs, e2, trivial, fun od => ?_⟩
      have k := kp_lock (od := od) e2 (u := .dK xs) trivial
      have nd : d ∉ α := fun z => e3 (.inr z)
      exact hT σ _ _ d od xs e1 upd_same ⟨G, α, ρ, μ, S.kp k (fun a ha => upd_ne fun z => nd (by rw [← z]; exact ha)) (tabs_upd S.tb fun w ew => by rw [e2] at ew; cases ew; exact nt_dK), E.kp k, (calmE_ok (E' := fun _ _ _ => False) w).1.lock e2 trivial e3 (calmE_ok (E' := fun _ _ _ => False) w).2⟩
    · exact .inr (hT σ H Q d ob xs e1 e2 ⟨G, α, ρ, μ, S, E, (calmE_ok w).1⟩)
end
/-! ### statements under a lock -/
section
variable {X : Cx} {Z : Wd} {W : WX} {i : Nat}
theorem wS.lock {G : Addr → Prop} {α : List Addr} {H : Hp} {d : Addr} {u : HO} {od : Obj} {o : SOut} {D : Ends} (w : wS Z W G α H o D) (hd : H d = some u) (hu : IsDic u) (nd : ¬ off G α d) (hx : ∀ x ρ μ', o ≠ .exc x ρ μ') :
    wS Z W G α (upd H d (.frz od u)) o ⟨fun σ' H' => H' d = some (.frz od u) ∧ D.nx σ' (upd H' d u), fun v H' => H' d = some (.frz od u) ∧ D.rt v (upd H' d u), fun σ' H' => H' d = some (.frz od u) ∧ D.bk σ' (upd H' d u), fun σ' H' => H' d = some (.frz od u) ∧ D.ct σ' (upd H' d u)⟩ := by
  have na : d ∉ α := fun z => nd (.inr z)
  have st : ∀ {α1 : List Addr} {H1 : Hp}, Post α (upd H d (.frz od u)) α1 H1 → H1 d = some (.frz od u) ∧ d ∉ α1 := fun p => ⟨p.keep d _ upd_same na, fun z => by have := p.fresh d z na; rw [upd_same] at this; cases this⟩
  have mv : ∀ {P : St → Hp → Prop} {ρ' : Env} {μ' : Sto}, (∀ σ' H' α', Post α H α' H' → RepS Z G α' H' μ' → RepE G α' H' σ' ρ' → P σ' H') → ∀ σ' H' α', Post α (upd H d (.frz od u)) α' H' → RepS Z G α' H' μ' → RepE G α' H' σ' ρ' → H' d = some (.frz od u) ∧ P σ' (upd H' d u) := fun {P ρ' μ'} h σ' H' α' p S' E' => by
    obtain ⟨h1, n1⟩ := st p
    have k := kp_unlock (u := u) h1 hu
    exact ⟨h1, h σ' _ α' (p.unlock hd hu) (S'.kp k (fun a ha => upd_ne fun z => n1 (by rw [← z]; exact ha)) (tabs_upd S'.tb fun w ew => by rw [h1] at ew; cases ew; exact nt_frz)) (E'.kp k)⟩
  cases o with
  | stuck => exact w
  | next ρ' μ' => exact mv (P := D.nx) w
  | brk ρ' μ' => exact mv (P := D.bk) w
  | cnt ρ' μ' => exact mv (P := D.ct) w
  | exc x ρ' μ' => exact (hx x ρ' μ' rfl).elim
  | ret r μ' => exact wE.lock (o := .ok r μ') w hd hu nd (by intros; simp)
def sLkS (i : Nat) (g : SS) : SS := fun ρ μ => match dicAt ρ i with
  | some _ => calmS (g ρ μ)
  | none => .stuck
theorem calmS_ok {W' : WX} {G : Addr → Prop} {α : List Addr} {H : Hp} {o : SOut} {D : Ends} (w : wS Z W G α H (calmS o) D) : wS Z W' G α H o D ∧ ∀ x ρ μ', o ≠ .exc x ρ μ' := by
  cases o with
  | exc x ρ μ => exact w.elim
  | _ => exact ⟨w, by intros; simp⟩
theorem s_lock {st : Stmt} {g : SS} {T : TS} (hP : PS X st T) (hT : ∀ D σ H d o kvs, σ[i]? = some (some (.ref d)) → H d = some (.frz o (.dK kvs)) → tS Z W g D σ H → T D σ H) : PS X st (tS Z W (sLkS i g)) := by
  refine PSimp (PSor (ps_lock hP) hP) ?_
  rintro D σ H ⟨G, α, ρ, μ, S, E, w⟩
  unfold sLkS at w
  cases q : dicAt ρ i with
  | none => simp only [q] at w; exact w.elim
  | some ds =>
    simp only [q] at w
    obtain ⟨d, xs, e1, e2, e3, e4⟩ := dicAt_ok E q
    rcases e2 with e2 | ⟨ob, e2⟩
    · refine .inl ⟨d, .dK xs, e2, trivial, fun od => ?_⟩
      have k := kp_lock (od := od) e2 (u := .dK xs) trivial
      have nd : d ∉ α := fun z => e3 (.inr z)
      exact hT _ σ _ d od xs e1 upd_same ⟨G, α, ρ, μ, S.kp k (fun a ha => upd_ne fun z => nd (by rw [← z]; exact ha)) (tabs_upd S.tb fun w ew => by rw [e2] at ew; cases ew; exact nt_dK), E.kp k, (calmS_ok w).1.lock e2 trivial e3 (calmS_ok (W' := W) w).2⟩
    · exact .inr (hT D σ H d ob xs e1 e2 ⟨G, α, ρ, μ, S, E, (calmS_ok w).1⟩)
end
/-! ### loops and comprehensions over dicts -/
theorem lc_walk {wi wi' : TI} {g : TG} {tt : TT} {te : TE} {vs : List Nat} {σ : St} {H : Hp} {Q : VK} (h : ∀ R, wi σ H R → wi' σ H R) (w : tLc wi g tt te vs σ H Q) : tLc wi' g tt te vs σ H Q := h _ w
theorem lc2_walk {wi wi' wj : TI} {g g1 : TG} {tt tt1 : TT} {te : TE} {vs us : List Nat} {σ : St} {H : Hp} {Q : VK} (h : ∀ R, wi σ H R → wi' σ H R) (w : tLc2 wi g tt wj g1 tt1 te vs us σ H Q) : tLc2 wi' g tt wj g1 tt1 te vs us σ H Q := h _ w
theorem for_walk {wi wi' : TI} {g : TG} {tb : TS} {D : Ends} {σ : St} {H : Hp} (h : ∀ R, wi σ H R → wi' σ H R) (w : tFor wi g tb D σ H) : tFor wi' g tb D σ H := h _ w
section
variable {X : Cx} {Z : Wd} {W : WX} {elt tg tg1 iter1 : Expr} {ifs : List Expr} {scope : Scope} {own : List (Str × Nat)} {us : List Nat} {pos p apos cpos : Pos} {f1 : SI} {t t1 : TG} {g g1 : SG} {tt : Option SE} {e : SE} {i : Nat} {x : Str} {vs : List Nat} {b : SS} {body : List Stmt}
theorem d_compK (hc : X.calm = true) (hN : X.N.Nodup) (hx : X.N[i]? = some x) (hv : Vis X.env.scope x) (ok : BlkOk X.N X.env.scope scope own)
    (hg : ∀ (s : Shared) (H : Hp) (C : Addr) (cl : List (Str × Addr)) (fp : List Addr), PG (X.blk s H scope (compEnvC scope cl C X.env) fp) tg t) (hG : GOk t g (own.map (·.2)))
    (ht : ∀ (s : Shared) (H : Hp) (C : Addr) (cl : List (Str × Addr)) (fp : List Addr), PTs (X.blk s H scope (compEnvC scope cl C X.env) fp) ifs (ttO Z tt))
    (he : ∀ (s : Shared) (H : Hp) (C : Addr) (cl : List (Str × Addr)) (fp : List Addr), PE (X.blk s H scope (compEnvC scope cl C X.env) fp) elt (tD Z W0 e)) (hs : ∀ y, foldedSetIterable (.Name x p) X.env y = pure y := by intro _; rfl)
    (hd : (x == ("__debug__" : Str)) = false := by decide) (hcd : (x == ("__classdict__" : Str)) = false := by decide) :
    PE X (.ListComp elt [⟨tg, .Name x p, ifs, 0⟩] scope pos) (tD Z W (sLk i (sComp (sItK i) g tt e (own.map (·.2))))) :=
  d_lock (pe_lc hc hN (pi_keysN hx hv hd hcd) ok hg ht he hs) fun σ H Q d o kvs h1 h2 h => lc_walk (fun R => keys_of d o kvs h1 h2) (t_comp hG σ H Q h)
theorem d_compV (hc : X.calm = true) (hN : X.N.Nodup) (hx : X.N[i]? = some x) (hv : Vis X.env.scope x) (ok : BlkOk X.N X.env.scope scope own)
    (hg : ∀ (s : Shared) (H : Hp) (C : Addr) (cl : List (Str × Addr)) (fp : List Addr), PG (X.blk s H scope (compEnvC scope cl C X.env) fp) tg t) (hG : GOk t g (own.map (·.2)))
    (ht : ∀ (s : Shared) (H : Hp) (C : Addr) (cl : List (Str × Addr)) (fp : List Addr), PTs (X.blk s H scope (compEnvC scope cl C X.env) fp) ifs (ttO Z tt))
    (he : ∀ (s : Shared) (H : Hp) (C : Addr) (cl : List (Str × Addr)) (fp : List Addr), PE (X.blk s H scope (compEnvC scope cl C X.env) fp) elt (tD Z W0 e)) (hs : ∀ y, foldedSetIterable (.Call (.Attribute (.Name x p) "values" apos) [] [] cpos) X.env y = pure y := by intro _; rfl)
    (hd : (x == ("__debug__" : Str)) = false := by decide) (hcd : (x == ("__classdict__" : Str)) = false := by decide) (hbase : attributeBase (.Name x p) "values" X.env (eval (.Name x p) X.env) = eval (.Name x p) X.env := by rfl) (hline : (apos.endLine == cpos.line) = true := by rfl) :
    PE X (.ListComp elt [⟨tg, .Call (.Attribute (.Name x p) "values" apos) [] [] cpos, ifs, 0⟩] scope pos) (tD Z W (sLk i (sComp (sItV i) g tt e (own.map (·.2))))) :=
  d_lock (pe_lc hc hN (pi_valsN hx hv hd hcd hbase hline) ok hg ht he hs) fun σ H Q d o kvs h1 h2 h => lc_walk (fun R => vals_of d o kvs h1 h2) (t_comp hG σ H Q h)
theorem d_comp2V (hc : X.calm = true) (hN : X.N.Nodup) (hx : X.N[i]? = some x) (hv : Vis X.env.scope x) (ok : BlkOk X.N X.env.scope scope own) (hu : ∀ i ∈ us, i ∈ own.map (·.2))
    (hg : ∀ (s : Shared) (H : Hp) (C : Addr) (cl : List (Str × Addr)) (fp : List Addr), PG (X.blk s H scope (compEnvC scope cl C X.env) fp) tg t) (hG : GOk t g (own.map (·.2)))
    (hi1 : ∀ (s : Shared) (H : Hp) (C : Addr) (cl : List (Str × Addr)) (fp : List Addr), PI (X.blk s H scope (compEnvC scope cl C X.env) fp) tg1 iter1 (tI Z W0 f1))
    (hg1 : ∀ (s : Shared) (H : Hp) (C : Addr) (cl : List (Str × Addr)) (fp : List Addr), PG (X.blk s H scope (compEnvC scope cl C X.env) fp) tg1 t1) (hG1 : GOk t1 g1 us)
    (he : ∀ (s : Shared) (H : Hp) (C : Addr) (cl : List (Str × Addr)) (fp : List Addr), PE (X.blk s H scope (compEnvC scope cl C X.env) fp) elt (tD Z W0 e)) (hs : ∀ y, foldedSetIterable (.Call (.Attribute (.Name x p) "values" apos) [] [] cpos) X.env y = pure y := by intro _; rfl) (hs1 : ∀ env x, foldedSetIterable iter1 env x = pure x := by intro _ _; rfl)
    (hd : (x == ("__debug__" : Str)) = false := by decide) (hcd : (x == ("__classdict__" : Str)) = false := by decide) (hbase : attributeBase (.Name x p) "values" X.env (eval (.Name x p) X.env) = eval (.Name x p) X.env := by rfl) (hline : (apos.endLine == cpos.line) = true := by rfl) :
    PE X (.ListComp elt [⟨tg, .Call (.Attribute (.Name x p) "values" apos) [] [] cpos, [], 0⟩, ⟨tg1, iter1, [], 0⟩] scope pos) (tD Z W (sLk i (sComp2 (sItV i) g f1 g1 e (own.map (·.2)) us))) :=
  d_lock (pe_lc2 hc hN (pi_valsN hx hv hd hcd hbase hline) ok hu hg (fun _ _ _ _ _ => pts_nil) hi1 hg1 (fun _ _ _ _ _ => pts_nil) he hs hs1) fun σ H Q d o kvs h1 h2 h => lc2_walk (fun R => vals_of d o kvs h1 h2) (t_comp2 hG hG1 σ H Q h)
theorem s_forK (hp : PassesOwn (model X.prog X.w) X.A X.env X.xe) (hc : X.calm = true) (hx : X.N[i]? = some x) (hv : Vis X.env.scope x) (hg : PG X tg t) (hG : GOk t g vs) (hb : PSs X body (tS Z W b)) (hs : ∀ y, foldedSetIterable (.Name x p) X.env y = pure y := by intro _; rfl)
    (hd : (x == ("__debug__" : Str)) = false := by decide) (hcd : (x == ("__classdict__" : Str)) = false := by decide) :
    PS X (.For tg (.Name x p) body [] pos) (tS Z W (sLkS i (sFor (sItK i) g b))) :=
  s_lock (ps_for hp hc (pi_keysN hx hv hd hcd) hg hb hs) fun D σ H d o kvs h1 h2 h => for_walk (fun R => keys_of d o kvs h1 h2) (t_for hG D σ H h)
end
end Sx

/-! SxDic: list(d.values()). -/
namespace L2
open PySem PySem.Spec PyProof.Rows
section
variable {X : Cx}
/-- list(d.values()), d any dict of ints and texts -/
def tListVals (td : TE) : TE := fun σ H Q => td σ H fun x H1 => ∃ a kvs, x = .ref a ∧ Rd H1 a (.dK kvs) ∧ ∀ p, H1 p = none → Q (.ref p) (upd H1 p (.lst (kvs.map fun kv => kv.2)))
theorem pe_listVals {o : Expr} {td : TE} {p apos mpos pos : Pos} (hc : X.calm = true) (hg : Gl X "list") (hm : X.mg "list" = none) (hd : PE X o td) (hbase : attributeBase o "values" X.env (eval o X.env) = eval o X.env := by rfl) (hline : (apos.endLine == mpos.line) = true := by rfl)
    (hse : starEach [Expr.Call (.Attribute o "values" apos) [] [] mpos] X.env = (false, eval (Expr.Call (.Attribute o "values" apos) [] [] mpos) X.env) :: starEach [] X.env := by rfl) :
    PE X (.Call (.Name "list" p) [.Call (.Attribute o "values" apos) [] [] mpos] [] pos) (tListVals td) := by
  refine ⟨fun pins s σ H Q I h => ?_⟩
  refine Call_ (ld_blt I hg hm PyProof.Rows.boot_list ?_)
  refine PyProof.Rows.callWith_type1 (PyProof.Rows.args_cons (PySem.wpAny_Call_method0_late hbase hline (thn (hd.run pins s σ H _ I h) fun v s1 ⟨x, H1, I1, r1, a, kvs, ex, ha, q⟩ => ?_)) hse) hse rfl
  subst ex
  obtain rfl : v = Value.ref a := r1
  obtain ⟨hz, hsys, vs, rel, dof⟩ := dk_rd I1.hok ha
  obtain ⟨ep, dat⟩ := dof.dictAt
  have dat' := dat
  obtain ⟨ob, es, ho, ex, hdat, hko, hpr, hnd⟩ := dat'
  refine ⟨"dict", "dict.values", F.plainAttrs_dict, F.slot_dict_values, F.type_dict_values, ⟨ob, ho, ex.1⟩, fun b e => ?_, Calls.callWith_builtin rfl (PySem.evalArgs_none ?_)⟩
  · cases e
    exact ⟨ob, ho, ex.2.1⟩
  refine call_meetsIn F.slot_dict_values ⟨ob, ho, ex.1⟩ F.entry_dict_values (F.args_dict_values_1 _) (meets_dict_values (mixKind X.prog X.w) a hsys) ⟨⟨vs, dof⟩, ?_⟩
  have k1 : ∀ b u, s1.heap.get? b = some u → (s1.heap.push { cls := .type "dict_values", data := .fields #[.ref a] }).get? b = some u := fun b u e => Heap.get?_push_of_some _ e
  have dat1 : (s1.heap.push { cls := .type "dict_values", data := .fields #[.ref a] }).DictAt (mixKind X.prog X.w) a vs ep := dat.keep k1
  have I2 : Inv X pins σ H1 { s1 with heap := s1.heap.push { cls := .type "dict_values", data := .fields #[.ref a] } } := I1.kept (t' := s1.toks) k1
  have hl : kvs.length = vs.length := Paired.length rel
  refine PyProof.Rows.args_nil ?_
  refine PySem.W.kdl_call (s := { s1 with heap := s1.heap.push { cls := .type "dict_values", data := .fields #[.ref a] } }) (PySem.W.kdl_values (r := s1.heap.objs.size) (knd := mixKind X.prog X.w) (kvs := vs) (ep := ep)) (I1.ok.hd hc) ⟨⟨_, Heap.get?_push_size _ rfl, rfl, rfl⟩, dat1⟩ (by rw [← hl]; exact hz) fun h' tk acc' c' hkeep hS hacc => ?_
  refine ⟨.ref _, upd H1 (s1.heap.push { cls := .type "dict_values", data := .fields #[.ref a] }).objs.size (.lst (kvs.map fun kv => kv.2)), I2.laid hkeep (Nat.le_refl _) (show ObjOk X.prog X.w _ _ _ (.lst (kvs.map fun kv => kv.2)) from ⟨?_, acc'.toList, c', ?_, ?_⟩), rfl, q _ (I2.hok.fresh (Nat.le_refl _))⟩
  · rw [List.length_map]; exact hz
  · have el : acc'.toList.length = acc'.size := by simp
    refine vals_of_at (by rw [List.length_map, el, hacc.1, hl]) fun j x w h1 h2 => ?_
    obtain ⟨k, hk⟩ := hacc.2 j w (by rw [← Array.getElem?_toList]; exact h2)
    obtain ⟨y, g1, g2⟩ := KV.at' rel hk
    rw [List.getElem?_map, g1] at h1
    cases h1
    exact g2
  · rw [Array.toArray_toList]; exact hS
end
end L2
namespace Sx
open PySem L2
theorem rpK_vals {H : Hp} {F : Addr → Prop} : ∀ {xs : List (Key × V)} {ds : List (Key × D)}, RpK H F xs ds → RpL H F (xs.map fun p => p.2) (ds.map fun p => p.2)
  | _, _, .nil => .nil
  | _, _, .cons r t => .cons r (rpK_vals t)
section
variable {X : Cx} {Z : Wd} {W : WX} {f : SE} {o : Expr} {p apos mpos pos : Pos}
def sListVals (f : SE) : SE := fun ρ μ => opd (f ρ μ) fun v μ1 => match rdD μ1 v with
  | some kvs => .ok (.new (.lst (kvs.map fun p => p.2))) μ1
  | none => .stuck
theorem d_listVals (hc : X.calm = true) (hg : Gl X "list") (hm : X.mg "list" = none) (hd : PE X o (tD Z W f)) (hbase : attributeBase o "values" X.env (eval o X.env) = eval o X.env := by rfl) (hline : (apos.endLine == mpos.line) = true := by rfl)
    (hse : starEach [Expr.Call (.Attribute o "values" apos) [] [] mpos] X.env = (false, eval (Expr.Call (.Attribute o "values" apos) [] [] mpos) X.env) :: starEach [] X.env := by rfl) :
    PE X (.Call (.Name "list" p) [.Call (.Attribute o "values" apos) [] [] mpos] [] pos) (tD Z W (sListVals f)) := by
  refine PEimp (pe_listVals hc hg hm hd hbase hline hse) ?_
  rintro σ H Q ⟨G, α, ρ, μ, S, E, w⟩
  refine ⟨G, α, ρ, μ, S, E, wE.opd w fun x H1 α1 μ1 v p1 S1 r1 w1 => ?_⟩
  cases q : rdD μ1 v with
  | some kvs =>
    simp only [q] at w1
    obtain ⟨p, xs, rfl, e2, e3⟩ := rdD_ok S1 r1 q
    exact ⟨p, xs, rfl, e2, fun l hl => w1.lst S1 (rpK_vals e3) hl⟩
  | none =>
    simp only [q] at w1
    exact w1.elim
end
end Sx

/-! SxAug: name op= e. -/
namespace Sx
open PySem L2
abbrev AOp := Sto → Val → Val → Option (Val × Sto)
def AugD (ti : TIp) (o : AOp) : Prop := ∀ Z G α H μ x y v a w μ2 (Q : VK), RepS Z G α H μ → RpV G α H x v → RpV G α H y a → o μ v a = some (w, μ2) → (∀ z H2, Post α H α H2 → RepS Z G α H2 μ2 → RpV G α H2 z w → Q z H2) → ti x y H Q
structure AugR (X : Cx) (op : Operator) (o : AOp) : Prop where
  ex : ∃ ti, PIp X op ti ∧ AugD ti o
theorem PIp.or {X : Cx} {op : Operator} {t t' : TIp} (h : PIp X op t) (h' : PIp X op t') : PIp X op (fun x y H Q => t x y H Q ∨ t' x y H Q) := by
  intro pins s σ H x y v u Q I r r' q
  rcases q with q | q
  · exact h pins s σ H x y v u Q I r r' q
  · exact h' pins s σ H x y v u Q I r r' q
theorem AugR.or {X : Cx} {op : Operator} {o o' : AOp} (h : AugR X op o) (h' : AugR X op o') : AugR X op (fun μ v a => (o μ v a).or (o' μ v a)) := by
  obtain ⟨t, h1, h2⟩ := h.ex
  obtain ⟨t', h1', h2'⟩ := h'.ex
  refine ⟨_, PIp.or h1 h1', ?_⟩
  intro Z G α H μ x y v a w μ2 Q S rx ry e q
  cases z : o μ v a with
  | some p =>
    have e' : p = (w, μ2) := by simpa [z] using e
    subst e'
    exact .inl (h2 Z G α H μ x y v a w μ2 Q S rx ry z q)
  | none => exact .inr (h2' Z G α H μ x y v a w μ2 Q S rx ry (by simpa [z] using e) q)
def augI (f : Int → Int → Int) : AOp := fun μ v a => match v, a with
  | .dat (.int i), .dat (.int j) => some (.dat (.int (f i j)), μ)
  | _, _ => none
def augL : AOp := fun μ v a => match v, a with
  | .loc k, .dat (.lst es) => match μ[k]? with
    | some (.lst ds) => if ds.length + es.length ≤ sizeLine then some (.loc k, μ.set k (.lst (ds ++ es))) else none
    | _ => none
  | _, _ => none
def augAdd : AOp := fun μ v a => (augI (fun i j => i + j) μ v a).or (augL μ v a)
def augSub : AOp := augI fun i j => i - j
theorem aug_int {X : Cx} {op : Operator} {f : Int → Int → Int} (h : OpR X (inplaceOp op) (rI0 fun i j => .int (f i j))) : AugR X op (augI f) := by
  refine ⟨_, h, ?_⟩
  intro Z G α H μ x y v a w μ2 Q S rx ry e q
  unfold augI at e
  split at e
  · rename_i i j
    cases e
    rw [inv_ii rx, inv_ii ry]
    exact ⟨i, j, rfl, rfl, q _ _ Post.refl S (Rp.int _)⟩
  · cases e
theorem rpL_append {H : Hp} {F : Addr → Prop} : ∀ {xs : List V} {ds : List D} {ys : List V} {es : List D}, RpL H F xs ds → RpL H F ys es → RpL H F (xs ++ ys) (ds ++ es)
  | _, _, _, _, .nil, h => h
  | _, _, _, _, .cons r t, h => .cons r (rpL_append t h)
theorem aug_lst {X : Cx} : AugR X .Add augL := by
  refine ⟨rExt2, iop_ext, ?_⟩
  intro Z G α H μ x y v a w μ2 Q S rx ry e q
  unfold augL at e
  split at e
  · rename_i k es
    split at e
    · rename_i ds hm
      split at e
      · rename_i hl
        cases e
        obtain ⟨p, rfl, ⟨xs, h1, h2⟩, hk⟩ := loc_at S rx hm
        have ry : Rp H (off G α) y (.lst es) := ry
        cases ry with
        | lst h3 n3 l3 =>
          rename_i b zs
          obtain ⟨P, S'⟩ := cell_write (o := .lst (xs ++ zs)) (c := .lst (ds ++ es)) S hk fun kp => ⟨_, upd_same, rpL_append (h2.mono kp) (l3.mono kp)⟩
          exact ⟨p, b, xs, zs, rfl, rfl, h1, h3, by rw [h2.length, l3.length]; exact hl, q _ _ P S' ⟨p, hk, rfl⟩⟩
      · cases e
    · cases e
  · cases e
theorem aAdd {X : Cx} : AugR X .Add augAdd := (aug_int iop_add).or aug_lst
theorem aSub {X : Cx} : AugR X .Sub augSub := aug_int iop_sub
/-- name i op= e -/
def sAug (o : AOp) (i : Nat) (f : SE) : SS := fun ρ μ => match gv ρ i with
  | some v => eS (f ρ μ) ρ fun a μ1 => match o μ1 v a with
    | some (w, μ2) => .next (ρ.set i (some w)) μ2
    | none => .stuck
  | none => .stuck
theorem s_aug {X : Cx} {Z : Wd} {W : WX} {e : Expr} {pos pos' : Pos} {f : SE} {op : Operator} {o : AOp} {i : Nat} {x : Str} (ho : AugR X op o) (hN : X.N.Nodup) (he : PE X e (tD Z W f)) (hi : X.N[i]? = some x := by rfl) (hx : Loc X.env.scope x := by first | exact Or.inl rfl | exact Or.inr rfl)
    (hf : X.fn x = true ∨ X.env.scope.names.lookup x = some .local := by first | exact .inl rfl | exact .inr rfl | assumption) : PS X (.AugAssign (.Name x pos') op e pos) (tS Z W (sAug o i f)) := by
  obtain ⟨ti, h1, h2⟩ := ho.ex
  refine PSimp (ps_aug hN hi hx he h1 hf) ?_
  rintro D σ H ⟨G, α, ρ, μ, S, E, w⟩
  unfold sAug at w
  cases q : gv ρ i with
  | none => rw [q] at w; exact w.elim
  | some v =>
    rw [q] at w
    obtain ⟨xv, e1, r1⟩ := E.get i v (gv_some q)
    refine ⟨xv, e1, G, α, ρ, μ, S, E, wS.eS E w fun y H1 α1 μ1 val p s r w1 => ?_⟩
    cases k : o μ1 v val with
    | none => simp only [k] at w1; exact w1.elim
    | some z =>
      obtain ⟨w2, μ2⟩ := z
      simp only [k] at w1
      refine h2 _ G α1 H1 μ1 xv y v val w2 μ2 _ s (r1.post p) r k fun z H2 p2 s2 r2 => ?_
      exact w1 _ H2 α1 p2 s2 (((E.post p).post p2).set r2)
end Sx

/-! SxDict: dict(list of pairs). -/
namespace Sx
open PySem L2
def pairsD : List D → Option (List (Key × D))
  | [] => some []
  | .tup [k, v] :: ds => match keyD (.dat k), pairsD ds with
    | some key, some kvs => some ((key, v) :: kvs)
    | _, _ => none
  | _ :: _ => none
def mergeD (kvs : List (Key × D)) : List (Key × D) := kvs.foldl (fun acc kv => dPut acc kv.1 kv.2) []
theorem rpK_fold {H : Hp} {F : Addr → Prop} : ∀ {xs : List (Key × V)} {ds : List (Key × D)} {ys : List (Key × V)} {es : List (Key × D)}, RpK H F xs ds → RpK H F ys es → RpK H F (mergeK ys xs) (ds.foldl (fun acc kv => dPut acc kv.1 kv.2) es)
  | _, _, _, _, .nil, h => h
  | _, _, _, _, .cons (k := k) r t, h => by have z := rpK_fold t (rpK_put (k := k) h r); exact z
theorem pairs_rp {K : PySem.W.Frag} {H : Hp} {F : Addr → Prop} : ∀ {ds : List D} {kvs : List (Key × D)} {xs : List V}, pairsD ds = some kvs → RpL H F xs ds →
    ∃ (ps : List Addr) (vs : List (Key × V)), xs = ps.map V.ref ∧ Paired (fun p kv => SqT K H p [kV kv.1, kv.2]) ps vs ∧ RpK H F vs kvs
  | [], kvs, xs, e, r => by
    cases r
    simp [pairsD] at e
    subst e
    exact ⟨[], [], rfl, .nil, .nil⟩
  | d :: ds, kvs, xs, e, r => by
    cases r with
    | cons rd rest =>
      unfold pairsD at e
      split at e
      · rename_i h; cases h
      · rename_i k v ds' h
        cases h
        split at e
        · rename_i key kvs' hk hp
          cases e
          obtain ⟨ps, vs, rfl, p, q⟩ := pairs_rp (K := K) hp rest
          cases rd with
          | tup h1 n1 l1 =>
            cases l1 with
            | cons ra t1 =>
              cases t1 with
              | cons rb t2 =>
                cases t2
                have ek := keyD_ok (G := fun b => F b) (α := []) (x := _) (b := .dat k) (show RpV (fun b => F b) [] H _ (.dat k) from Rp.mono (fun a o n e => ⟨⟨o, e, .inl rfl⟩, fun z => z.elim n (by simp)⟩) ra) hk
                rename_i a x y
                subst ek
                exact ⟨a :: ps, (key, y) :: vs, rfl, .cons h1.sq p, .cons rb q⟩
        · cases e
      · cases e
def opDictL : COp := c1 fun μ a => match rdL μ a with
  | some ds => (pairsD ds).map fun kvs => .new (.dic (mergeD kvs))
  | none => none
theorem kDictL {X : Cx} (hc : X.calm = true) : CalR X (.type "dict") opDictL := ⟨_, call_dictP hc, fun Z G α H μ vs as res Q E S rs e w => by
  have e0 := c1_some e
  clear e
  obtain ⟨a, rfl, e⟩ := e0
  obtain ⟨x, rfl, r⟩ := vs1 rs
  split at e
  · rename_i ds h
    obtain ⟨kvs, h2, rfl⟩ := Option.map_eq_some_iff.mp e
    obtain ⟨p, xs, rfl, e2, e3⟩ := rdL_ok S r h
    obtain ⟨ps, ws, rfl, pp, rk⟩ := pairs_rp (K := X.K) h2 e3
    exact ⟨p, ps, ws, rfl, .inl e2, pp, fun l hl => w.dic S (rpK_fold rk .nil) hl⟩
  · cases e⟩
end Sx

/-! SxPar: a, b = x, y; o[i], p[j] = e. -/
namespace Sx
open PySem L2
def eX : Bool → Out Res → Env → (Val → Sto → SOut) → SOut
  | true => eC
  | false => eS
theorem wS.eX {Z : Wd} {W : WX} {G : Addr → Prop} {α : List Addr} {H : Hp} {D : Ends} {c : Bool} {o : Out Res} {ρ : Env} {σ : St} {k : Val → Sto → SOut} {Q1 : VK} (E : RepE G α H σ ρ) (h : wS Z W G α H (eX c o ρ k) D)
    (hq : ∀ v H1 α1 μ1 val, Post α H α1 H1 → RepS Z G α1 H1 μ1 → RpV G α1 H1 v val → wS Z W G α1 H1 (k val μ1) D → Q1 v H1) : wE Z G α H o Q1 fun c d H' => W c d σ H' := by
  cases c with
  | true => exact wS.eC E h hq
  | false => exact wS.eS E h hq
/-- two names at once: ci, cj tell which of them keep a new object as a cell -/
def sPar (ci cj : Bool) (i j : Nat) (f g : SE) : SS := fun ρ μ => eX ci (f ρ μ) ρ fun v μ1 => eX cj (g ρ μ1) ρ fun w μ2 => .next ((ρ.set i (some v)).set j (some w)) μ2
section
variable {X : Cx} {Z : Wd} {W : WX}
theorem s_par {ci cj : Bool} {i j : Nat} {x y : Str} {a b : Expr} {f g : SE} {px py pt pos : Pos} {kt k2 pt2} (hc : X.calm = true) (hN : X.N.Nodup) (hij : i ≠ j) (ha : PE X a (tD Z W f)) (hb : PE X b (tD Z W g))
    (hi : X.N[i]? = some x := by rfl) (hj : X.N[j]? = some y := by rfl) (hx : X.env.scope.names.lookup x = some .local := by rfl) (hy : X.env.scope.names.lookup y = some .local := by rfl)
    (hw : swappedStores [.Tuple [.Name x px, .Name y py] kt pt] (.Tuple [a, b] k2 pt2) X.env = pure (some [x, y]) := by rfl)
    (hs : swapsWithSole [.Tuple [.Name x px, .Name y py] kt pt] (.Tuple [a, b] k2 pt2) pos.line X.env = pure false := by rfl)
    (s1 : starEach [a, b] X.env = (false, eval a X.env) :: starEach [b] X.env := by rfl) (s2 : starEach [b] X.env = (false, eval b X.env) :: starEach [] X.env := by rfl) :
    PS X (.Assign [.Tuple [.Name x px, .Name y py] kt pt] (.Tuple [a, b] k2 pt2) pos) (tS Z W (sPar ci cj i j f g)) := by
  refine PSimp (ps_par hc hN hi hj hij hx hy (pa_cons ha (pa_cons hb pa_nil s2) s1) hw hs) ?_
  rintro D σ H ⟨G, α, ρ, μ, S, E, w⟩
  refine ⟨G, α, ρ, μ, S, E, wS.eX E w fun v H1 α1 μ1 val p s r w1 => ?_⟩
  refine ⟨G, α1, ρ, μ1, s, E.post p, wS.eX (E.post p) w1 fun v2 H2 α2 μ2 val2 p2 s2 r2 w2 => ?_⟩
  exact ⟨v, v2, rfl, w2 _ H2 α2 Post.refl s2 ((((E.post p).post p2).set (r.post p2)).set r2)⟩
/-- o[i] = d, then K -/
def subK (fx fi : SE) (d : D) (ρ : Env) (μ : Sto) (K : Sto → SOut) : SOut := eS (fx ρ μ) ρ fun x μ2 => match x with
  | .dat _ => .stuck
  | .loc k => eS (fi ρ μ2) ρ fun i μ3 => match setC μ3 k i d with
    | some μ4 => K μ4
    | none => .stuck
theorem sub_ok {fx fi : SE} {d : D} {K : Sto → SOut} {G : Addr → Prop} {α : List Addr} {H : Hp} {D : Ends} {ρ : Env} {σ : St} {μ : Sto} {v : V} {R : St → Hp → Prop} (S : RepS Z G α H μ) (E : RepE G α H σ ρ) (r : Rp H (off G α) v d)
    (w : wS Z W G α H (subK fx fi d ρ μ K) D) (q : ∀ H1 α1 μ1, Post α H α1 H1 → RepS Z G α1 H1 μ1 → RepE G α1 H1 σ ρ → wS Z W G α1 H1 (K μ1) D → R σ H1) :
    gSub (tD Z W fx) (tD Z W fi) (fun o i v H Q => rSetL o i v H Q ∨ rSetD o i v H Q) v σ H R := by
  refine ⟨G, α, ρ, μ, S, E, wS.eS E w fun x H2 α2 μ2 vx p2 S2 r2 w2 => ?_⟩
  cases vx with
  | dat d => exact w2.elim
  | loc n =>
    have E2 := E.post p2
    refine ⟨G, α2, ρ, μ2, S2, E2, wS.eS E2 w2 fun y H3 α3 μ3 vi p3 S3 r3 w3 => ?_⟩
    cases z : setC μ3 n vi d with
    | none => simp only [z] at w3; exact w3.elim
    | some μ4 =>
      simp only [z] at w3
      exact setC_ok S3 (r2.post p3) r3 (Rp.post p3 (Rp.post p2 r)) z fun H' P S' => q H' α3 μ4 ((p2.trans p3).trans P) S' ((E2.post p3).post P) (wS.post P w3)
def sPairS (fe fx fi fy fj : SE) : SS := fun ρ μ => eS (fe ρ μ) ρ fun v μ1 => match v with
  | .dat (.tup [x, y]) => subK fx fi x ρ μ1 fun μ2 => subK fy fj y ρ μ2 fun μ3 => .next ρ μ3
  | _ => .stuck
theorem s_pairS {o1 i1 o2 i2 e : Expr} {fx fi fy fj fe : SE} {p1 p2 pt pos : Pos} {kt k : Nat} (hr : Room k X.A) (hc : X.calm = true) (he : PE X e (tD Z W fe)) (ho : PE X o1 (tD Z W fx)) (hi : PE X i1 (tD Z W fi)) (ho2 : PE X o2 (tD Z W fy)) (hi2 : PE X i2 (tD Z W fj))
    (hs : swapsWithSole [.Tuple [.Subscript o1 i1 p1, .Subscript o2 i2 p2] kt pt] e pos.line X.env = pure false := by rfl) (hw : swappedStores [.Tuple [.Subscript o1 i1 p1, .Subscript o2 i2 p2] kt pt] e X.env = pure none := by rfl)
    (ha1 : ∀ v, assign (.Subscript o1 i1 p1) X.env v = (do
      let ov ← holding [v] (eval o1 X.env)
      let iv ← holding [v, ov] (eval i1 X.env)
      standAt p1
      holding [v, ov, iv] (setItem ov iv v)
      release [v, ov, iv] []) := by intro _; rfl)
    (ha2 : ∀ v, assign (.Subscript o2 i2 p2) X.env v = (do
      let ov ← holding [v] (eval o2 X.env)
      let iv ← holding [v, ov] (eval i2 X.env)
      standAt p2
      holding [v, ov, iv] (setItem ov iv v)
      release [v, ov, iv] []) := by intro _; rfl)
    (h1 : (assignEach [.Tuple [.Subscript o1 i1 p1, .Subscript o2 i2 p2] kt pt] X.env).map (·.2) = [assign (.Tuple [.Subscript o1 i1 p1, .Subscript o2 i2 p2] kt pt) X.env] := by rfl)
    (h2 : (assignEach [.Subscript o1 i1 p1, .Subscript o2 i2 p2] X.env).map (·.2) = assign (.Subscript o1 i1 p1) X.env :: (assignEach [.Subscript o2 i2 p2] X.env).map (·.2) := by rfl)
    (h3 : (assignEach [.Subscript o2 i2 p2] X.env).map (·.2) = assign (.Subscript o2 i2 p2) X.env :: (assignEach [] X.env).map (·.2) := by rfl)
    (hn : (assignEach [.Subscript o1 i1 p1, .Subscript o2 i2 p2] X.env).length = 2 := by rfl) (hst : (assignEach [.Subscript o1 i1 p1, .Subscript o2 i2 p2] X.env).findIdx? (·.1) = none := by rfl) :
    PS X (.Assign [.Tuple [.Subscript o1 i1 p1, .Subscript o2 i2 p2] kt pt] e pos) (tS Z W (sPairS fe fx fi fy fj)) := by
  refine PSimp (ps_asg he (pg_tup hc (pgs_cons (pg_sub ho hi (PSet.or set_list (set_dict (hu1 hr))) ha1) (pgs_cons (pg_sub ho2 hi2 (PSet.or set_list (set_dict (hu1 hr))) ha2) pgs_nil h3) h2) hn hst) hs hw h1) ?_
  rintro D σ H ⟨G, α, ρ, μ, S, E, w⟩
  refine ⟨G, α, ρ, μ, S, E, wS.eS E w fun v H1 α1 μ1 val p s r w1 => ?_⟩
  split at w1
  · rename_i x y
    have r : Rp H1 (off G α1) v (.tup [x, y]) := r
    cases r with
    | tup h n l =>
      cases l with
      | cons ra t1 =>
        cases t1 with
        | cons rb t2 =>
          cases t2
          refine ⟨_, _, rfl, h.sq, rfl, _, _, rfl, ?_⟩
          refine sub_ok s (E.post p) ra w1 fun H2 α2 μ2 p2 S2 E2 w2 => ?_
          refine ⟨_, _, rfl, ?_⟩
          exact sub_ok S2 E2 (Rp.post p2 rb) w2 fun H3 α3 μ3 p3 S3 E3 w3 => ⟨rfl, w3 _ H3 α3 Post.refl S3 E3⟩
  · exact w1.elim
end
end Sx

/-! SxSortD: sorted(list) of data. -/
namespace Sx
open PySem L2
open PySem.W (AllAlike Sortable EachIs dataLe alike)
def pyO (d : D) : PyData := (D.py 29 d).getD .none
def leD (a b : D) : Bool := dataLe false pyO a b
def isTupN : PyData → Bool
  | .tuple (_ :: _) => true
  | _ => false
def isOth : PyData → Bool
  | .none => false
  | .tuple _ => false
  | _ => true
def sortOk (ps : List PyData) : Bool := ps.all (fun d => ps.all fun e => alike d e) && (ps.all isTupN || ps.all isOth)
theorem sortOk_ok {ps : List PyData} (h : sortOk ps = true) : AllAlike ps ∧ Sortable ps := by
  unfold sortOk at h
  obtain ⟨h1, h2⟩ := Bool.and_eq_true _ _ ▸ h
  refine ⟨fun d hd e he => List.all_eq_true.mp (List.all_eq_true.mp h1 d hd) e he, ?_⟩
  rcases Bool.or_eq_true _ _ ▸ h2 with h | h
  · refine .inl fun d hd => ?_
    have := List.all_eq_true.mp h d hd
    unfold isTupN at this
    split at this
    · exact ⟨_, _, rfl⟩
    · cases this
  · refine .inr fun d hd => ?_
    have := List.all_eq_true.mp h d hd
    unfold isOth at this
    split at this
    · cases this
    · cases this
    · rename_i h1 h2; exact ⟨h1, h2⟩
theorem each_of {h : Heap} {R : Value → V × D → Prop} : ∀ {bs : List (V × D)} {us : List Value}, Vals (bs.map (·.1)) us → (∀ b ∈ bs, ∀ u, RelV b.1 u → R u b) → EachIs R us bs
  | [], us, r, _ => by cases r; exact .nil
  | b :: bs, us, r, q => by
    cases r with
    | cons r1 r2 => exact .cons (q b List.mem_cons_self _ r1) (each_of (h := h) r2 fun c hc u ru => q c (List.mem_cons_of_mem _ hc) u ru)
theorem vals_each : ∀ {bs : List (V × D)} {us : List Value}, EachIs (fun u (b : V × D) => RelV b.1 u) us bs → Vals (bs.map (·.1)) us
  | _, _, .nil => .nil
  | _, _, .cons h t => .cons h (vals_each t)
def rSortD (K : PySem.W.Frag) : List V → Hp → VK → Prop := fun vs H Q => ∃ (a : Addr) (bs : List (V × D)), vs = [.ref a] ∧ SqL K H a (bs.map (·.1)) ∧ (∀ b ∈ bs, Dp K H b.1 (pyO b.2) ∧ (pyO b.2).depth ≤ 29) ∧ AllAlike (bs.map fun b => pyO b.2) ∧ Sortable (bs.map fun b => pyO b.2) ∧
  ∀ p, H p = none → Q (.ref p) (upd H p (.lst ((bs.mergeSort (dataLe false fun b => pyO b.2)).map (·.1))))
theorem cr_sortedD {X : Cx} (hu : X.A.units + 64 < cLine) : CallR X (.builtin "sorted") (rSortD X.K) := by
  intro pins s σ H vs us Q I r h
  obtain ⟨a, bs, rfl, hs, hd, hal, hso, q⟩ := h
  obtain ⟨its, rv, hl, hz⟩ := I.list hs
  rw [Vals.ref1 r]
  have e1 : EachIs (fun u (b : V × D) => RelV b.1 u) its bs := each_of (h := s.heap) rv fun b hb u ru => ru
  have e2 : EachIs (fun u (b : V × D) => ∃ as, Reads s.heap u (pyO b.2) as) its bs := each_of (h := s.heap) rv fun b hb u ru => Dp.reads I _ _ _ (hd b hb).1 ru
  refine PySem.W.sorted_data hl.isList e1 e2 hal hso (by rw [List.length_map] at hz; exact hz) (fun b hb => by have := (hd b hb).2; omega) fun out h1 h2 => ?_
  obtain ⟨ep, he'⟩ := PyProof.Rows.sortedAll_at s.heap its out.toArray
  have rv2 := vals_each h2
  have hlen : ((bs.mergeSort (dataLe false fun b => pyO b.2)).map (·.1)).length ≤ sizeLine := by
    rw [List.length_map, List.length_mergeSort]
    rw [List.length_map] at hz
    exact hz
  exact ⟨.ref _, _, I.laid (t' := s.toks) (fun _ _ => PyProof.Rows.sortedAll_old) (Nat.le_succ _) (o := .lst ((bs.mergeSort (dataLe false fun b => pyO b.2)).map (·.1))) ⟨hlen, out, ep, rv2, he'⟩, rfl, q _ (I.hok.fresh (Nat.le_succ _))⟩
def opSortD : COp := c1 fun μ a => match rdL μ a with
  | some ds => match ds.mapM (D.py 29) with
    | some ps => if sortOk ps = true then some (.new (.lst (ds.mergeSort leD))) else none
    | none => none
  | none => none
theorem sortD_py {n : Nat} : ∀ {ds : List D} {ps : List PyData}, ds.mapM (D.py n) = some ps → ps = ds.map (fun d => (D.py n d).getD .none) ∧ ∀ d ∈ ds, ∃ p, D.py n d = some p
  | [], ps, h => by simp at h; subst h; exact ⟨rfl, fun _ h => by cases h⟩
  | d :: ds, ps, h => by
    obtain ⟨p, qs, rfl, h1, h2⟩ := mapM_cons_some h
    obtain ⟨e, f⟩ := sortD_py h2
    refine ⟨by rw [List.map_cons, ← e, h1]; rfl, fun x hx => ?_⟩
    rcases List.mem_cons.mp hx with rfl | hx
    · exact ⟨p, h1⟩
    · exact f x hx
theorem rpL_zip {H : Hp} {F : Addr → Prop} : ∀ {xs : List V} {ds : List D}, RpL H F xs ds → ∃ bs : List (V × D), bs.map (·.1) = xs ∧ bs.map (·.2) = ds ∧ ∀ b ∈ bs, Rp H F b.1 b.2
  | _, _, .nil => ⟨[], rfl, rfl, fun _ h => by cases h⟩
  | _, _, .cons (v := v) (d := d) r t => by
    obtain ⟨bs, h1, h2, h3⟩ := rpL_zip t
    refine ⟨(v, d) :: bs, by simp [h1], by simp [h2], fun b hb => ?_⟩
    rcases List.mem_cons.mp hb with rfl | hb
    · exact r
    · exact h3 b hb
theorem rpL_unzip {H : Hp} {F : Addr → Prop} : ∀ {bs : List (V × D)}, (∀ b ∈ bs, Rp H F b.1 b.2) → RpL H F (bs.map (·.1)) (bs.map (·.2))
  | [], _ => .nil
  | b :: bs, h => .cons (h b List.mem_cons_self) (rpL_unzip fun c hc => h c (List.mem_cons_of_mem _ hc))
theorem kSortD {X : Cx} {k : Nat} (hr : Room k X.A) : CalR X (.builtin "sorted") opSortD := ⟨_, cr_sortedD (hu64 hr), fun Z G α H μ vs as res Q E S rs e w => by
  have e0 := c1_some e
  clear e
  obtain ⟨a, rfl, e⟩ := e0
  obtain ⟨x, rfl, r⟩ := vs1 rs
  split at e
  · rename_i ds h
    split at e
    · rename_i ps hp
      split at e
      · rename_i ok
        cases e
        obtain ⟨p, xs, rfl, e2, e3⟩ := rdL_ok S r h
        obtain ⟨bs, rfl, rfl, hb⟩ := rpL_zip e3
        obtain ⟨ep, hpy⟩ := sortD_py hp
        obtain ⟨o1, o2⟩ := sortOk_ok ok
        rw [ep, List.map_map] at o1 o2
        refine ⟨p, bs, rfl, .inl e2, fun b hbm => ?_, o1, o2, fun l hl => ?_⟩
        · obtain ⟨q, hq⟩ := hpy b.2 (List.mem_map.mpr ⟨b, hbm, rfl⟩)
          obtain ⟨a1, a2, a3⟩ := dp_of (K := X.K) 29 _ _ _ (hb b hbm) hq
          have : pyO b.2 = q := by unfold pyO; rw [hq]; rfl
          rw [this]
          exact ⟨a1, a3⟩
        · have em : (bs.map (·.2)).mergeSort leD = (bs.mergeSort (dataLe false fun b => pyO b.2)).map (·.2) := by
            rw [List.map_mergeSort]
            intro a _ b _
            rfl
          rw [em] at w
          exact w.lst S (rpL_unzip fun b hbm => hb b (List.mem_mergeSort.mp hbm)) hl
      · cases e
    · cases e
  · cases e⟩
/-- sorted of ints, of dicts of ints, of data -/
def opSort : COp := fun μ as => (opSortI μ as).or (opSortD μ as)
theorem kSort {X : Cx} {k : Nat} (hr : Room k X.A) (hc : X.calm = true) : CalR X (.builtin "sorted") opSort := (kSortI hc).or (kSortD hr)
end Sx

/-! SxLam: a lambda with one parameter that reads what the def holds; sorted(xs, key=lambda ..). -/
namespace LamX
open PySem PySem.Spec PyProof.Rows L2
/-- tracked things stay, tables may grow -/
structure Grow (T : List (Addr × Str)) (H H1 : Hp) : Prop where
  keep : ∀ b o, H b = some o → (∀ ps, o ≠ .tbl ps) → H1 b = some o
  tbl : ∀ b ps, H b = some (.tbl ps) → ∃ ps', H1 b = some (.tbl ps')
  tabs : Tabs T H1
section
variable {X : Cx} {pins : List (Addr × Obj)} {σ : L2.St} {H : Hp} {s : Shared}
/-- the two ways of the table: a code object put at its end, or found -/
theorem grow_new {T : List (Addr × Str)} {P c : Addr} {q : Str} {ps : Array Value} {pos : Pos} (hT : Tabs T H) (hP : H P = some (.tbl ps)) (hc : H c = none) (hu : ∀ p ∈ T, p.1 = P → p.2 = q) :
    Grow T H (upd (upd H P (.tbl (ps ++ #[rawInt pos.line, rawInt pos.col, .ref c]))) c (CodeO c q)) := by
  have hPc : P ≠ c := fun z => by rw [z, hc] at hP; cases hP
  have k : ∀ b o, H b = some o → (∀ ps, o ≠ .tbl ps) → upd (upd H P (.tbl (ps ++ #[rawInt pos.line, rawInt pos.col, .ref c]))) c (CodeO c q) b = some o := fun b o e n => by
    have h1 : b ≠ c := fun z => by rw [z, hc] at e; cases e
    have h2 : b ≠ P := fun z => by rw [z, hP] at e; exact n ps (Option.some.inj e).symm
    rw [upd_ne h1, upd_ne h2]; exact e
  refine ⟨k, fun b qs e => ?_, fun p hp => ?_⟩
  · have h1 : b ≠ c := fun z => by rw [z, hc] at e; cases e
    by_cases h2 : b = P
    · subst h2; exact ⟨_, by rw [upd_ne h1, upd_same]⟩
    · exact ⟨qs, by rw [upd_ne h1, upd_ne h2]; exact e⟩
  · obtain ⟨qs, a1, a2, a3⟩ := hT p hp
    by_cases h2 : p.1 = P
    · rw [h2, hP] at a1
      cases a1
      have e2 := hu p hp h2
      refine ⟨_, by rw [h2, upd_ne hPc, upd_same], ?_, fun p' cv hcv => ?_⟩
      · rw [Array.toList_append]; exact PySem.TriplesOk_snoc _ _ _ _ a2
      · rw [Array.toList_append] at hcv
        rcases among_app _ a2 hcv with z | z
        · obtain ⟨c0, e1, e3⟩ := a3 p' cv z
          exact ⟨c0, e1, k _ _ e3 codeO_ne⟩
        · exact ⟨c, z, by rw [upd_same, e2]⟩
    · have h1 : p.1 ≠ c := fun z => by rw [z, hc] at a1; cases a1
      refine ⟨qs, by rw [upd_ne h1, upd_ne h2]; exact a1, a2, fun p' cv hcv => ?_⟩
      obtain ⟨c0, e1, e3⟩ := a3 p' cv hcv
      exact ⟨c0, e1, k _ _ e3 codeO_ne⟩
theorem lam_grow {T : List (Addr × Str)} {c P : Addr} {params : Arguments} {body : Expr} {scope : Scope} {pos : Pos} {E : Value → Shared → Prop} {Q : Value → Shared → Prop} (I : Inv X pins σ H s) (TB : TabB X.base X.mg c P) (hcode : X.env.code = .ref c)
    (hm : (P, X.env.qual ++ "<lambda>") ∈ T) (hu : ∀ p ∈ T, p.1 = P → p.2 = X.env.qual ++ "<lambda>") (hT : Tabs T H) (hdef : defaultsOf params X.env = ([], [])) (hfree : ∀ y ∈ scope.names, y.2 = .free → ∃ c, X.env.cells.lookup y.1 = some c)
    (h : ∀ (f c' : Addr) (pm ctv : Value) (H1 : Hp) (s' : Shared), Inv X pins σ H1 s' → Grow T H H1 →
      s'.heap.get? f = some (PySem.W.kla_obj "<lambda>" (X.env.qual ++ "<lambda>") params body scope (cloFrom X.env.cells scope.names []) pm c' ctv) → H1 f = none → f ∉ frs X.stack → f ≠ X.env.locals → H1 c' = some (CodeO c' (X.env.qual ++ "<lambda>")) → Q (.ref f) s') :
    wpAny (model X.prog X.w) X.A (eval (.Lambda params body scope pos) X.env) Q E s := by
  obtain ⟨ps, hP, ht, ha⟩ := hT _ hm
  have heapP := I.hok P _ hP
  have off : ∀ {f : Addr}, s.heap.objs.size ≤ f → f ∉ frs X.stack ∧ f ≠ X.env.locals := fun {f} hf => by
    have lt := I.lt
    refine ⟨fun z => ?_, fun z => by rw [z] at hf; exact Nat.lt_irrefl _ (Nat.lt_of_lt_of_le lt hf)⟩
    rcases List.mem_cons.mp (I.stkSub _ z) with e | e
    · rw [e] at hf; exact Nat.lt_irrefl _ (Nat.lt_of_lt_of_le lt hf)
    · exact I.nofs hf e
  refine PySem.W.kla_eval hdef ?_
  cases q : codeAmong pos ps.toList with
  | some cv =>
    obtain ⟨c', rfl, hco⟩ := ha pos cv q
    refine PySem.W.kla_makeFunctionHit (mg := X.mg) (c := c) (P := P) (ps := ps) (closure_ok hfree) I.ok.glob (I.mod.glob.keeps I.bk) hcode (TB.code.keeps I.bk) heapP ht q (TB.bm.keeps I.bk) fun ctv h' tk hx hsz => ?_
    have o := off hsz
    exact h _ c' _ ctv H _ (I.kept fun b o e => Heap.get?_push_of_some _ (hx b o e)) ⟨fun _ _ e _ => e, fun _ qs e => ⟨qs, e⟩, hT⟩ (Heap.get?_push_size _ rfl) (I.hok.fresh hsz) o.1 o.2 hco
  | none =>
    refine PySem.W.kla_makeFunction (mg := X.mg) (c := c) (P := P) (ps := ps) (closure_ok hfree) I.ok.glob (I.mod.glob.keeps I.bk) hcode (TB.code.keeps I.bk) heapP ht q TB.gP (TB.bm.keeps I.bk) fun c' ctv h' tk hx hge hlt hrec htb => ?_
    obtain ⟨c2, oc, vs, t, e2, hoc, hd, hv⟩ := hrec
    cases e2
    have hsz := Nat.le_trans hge (Nat.le_of_lt hlt)
    have o := off hsz
    have nC := I.hok.fresh hge
    have I1 := inv_table (t' := tk) (more := #[rawInt pos.line, rawInt pos.col, .ref c']) (h' := h'.push (PySem.W.kla_obj "<lambda>" (X.env.qual ++ "<lambda>") params body scope (cloFrom X.env.cells scope.names []) ((X.mg "__name__").getD .none) c' ctv)) I hP
      (fun b u hb e => Heap.get?_push_of_some _ (hx b u hb e)) (Heap.get?_push_of_some _ htb) hge ⟨oc, vs, t, Heap.get?_push_of_some _ hoc, hd, hv⟩
    refine h h'.objs.size c' _ ctv _ _ I1 (grow_new hT hP nC hu) (Heap.get?_push_size _ rfl) ?_ o.1 o.2 upd_same
    have n1 : h'.objs.size ≠ c' := Nat.ne_of_gt hlt
    have n2 : h'.objs.size ≠ P := Nat.ne_of_gt (Nat.lt_of_lt_of_le (Heap.lt_size heapP) hsz)
    rw [upd_ne n1, upd_ne n2]
    exact I.hok.fresh hsz
end
open NdefX
/-- the context of the lambda's body -/
abbrev lamF (X : Cx) (params : Arguments) (scope : Scope) (c' : Addr) : NF := ⟨"<lambda>", X.env.qual ++ "<lambda>", params, [], scope, cloFrom X.env.cells scope.names [], c'⟩
abbrev lamC (X : Cx) (N : List Str) (params : Arguments) (scope : Scope) (f c' : Addr) (A : Around) (s : Shared) (H : Hp) : Cx := ncx C8.CX0 X.prog X.w X.K X.mg X.base N (lamF X params scope c') f A X.stack s H C8.E0
section
variable {X : Cx} {pins : List (Addr × Obj)} {σ : L2.St} {H : Hp} {s : Shared}
/-- f(v), f the lambda: A is where it is called -/
theorem lam_call {A : Around} {k : Nat} {N fr : List Str} {js : List Nat} {x : Str} {params : Arguments} {body : Expr} {scope : Scope} {f c' : Addr} {pm ctv : Value} {v : V} {u : Value} {tb : TE} {Q : VK} (I : Inv X pins σ H s) (hA : A.frames = X.A.frames) (hh : A.handled = none) (hr : Room (k + 1) A)
    (S : NScope N [x] fr scope) (cp : Caps X (cloFrom X.env.cells scope.names []) fr js) (hf : s.heap.get? f = some (PySem.W.kla_obj "<lambda>" (X.env.qual ++ "<lambda>") params body scope (cloFrom X.env.cells scope.names []) pm c' ctv)) (hco : H c' = some (CodeO c' (X.env.qual ++ "<lambda>")))
    (hbind : ∀ (q : Str) (cl : List (Str × Addr)) (pm cv ctv : Value) (u : Value), bindArgs (PySem.W.kla_fn "<lambda>" q params body scope cl pm cv ctv) ⟨[u], []⟩ = pure [(x, u)])
    (hbody : ∀ (A : Around) (s : Shared) (H : Hp), Room k (A.deeper (envF (lamF X params scope c') f s.heap.objs.size)) → PE (lamC X N params scope f c' A s H) body tb) (rv : RelV v u) (w : tb (startF N [v] (js.map (slotAt σ))) H Q) :
    wpAny (model X.prog X.w) A (call (.ref f) [u]) (EP X pins σ Q) (fun _ _ => False) s := by
  have e0 : Env0 X.prog X.w X.K X.mg X.base A X.stack s H := { I.env0 with frames := by rw [hA]; exact I.env0.frames }
  obtain ⟨⟨oc, vs, t, hoc, hdc, hvc⟩, _, _⟩ := I.hok c' _ hco
  have C := cells_of I cp
  have rc : codeAny (model X.prog X.w) A (.call (.ref f) ⟨[u], []⟩) (CR C8.CX0 X.stack X.prog X.w H s Q C8.E0) s := by
    refine PySem.W.kla_callFunE hr.depth hf rfl S.co S.gen rfl ⟨c', oc, vs, t, rfl, hoc, hdc, hvc⟩ ?_
    rw [hbind]
    refine wpAny_pure (wpAny_newFunctionEnv S.nocell (fun y hy => ?_) (fun h₁ hns hsb => ⟨I.nolimit.fresh _ hsb, ?_⟩) S.kind)
    · rw [List.mem_singleton.mp hy]; exact S.par x (by simp)
    show codeAny _ _ (.expr body (envF (lamF X params scope c') f s.heap.objs.size)) _ _
    have kp : ∀ b o, s.heap.get? b = some o → h₁.get? b = some o := fun b o e => hsb.extBut b o (Nat.ne_of_lt (Heap.lt_size e)) (Heap.get?_push_of_some _ e)
    have J : Inv (lamC X N params scope f c' A s H) [] (startF N [v] (js.map (slotAt σ))) H { s with heap := h₁, toks := s.toks + 1 } :=
      inv_startN (F := lamF X params scope c') (us := [u]) S hh e0 rfl (.cons rv .nil) C hns kp
    refine PySem.W.kla_codeExpr (wpAny_mono ((hbody A s H (hr.deeper _)).run [] _ _ H Q J w) (fun v' s' hq => ?_) fun e s' hq => ?_)
    · obtain ⟨w', H', J', rv', q⟩ := hq
      exact ⟨w', H', J'.os, J'.bare, J'.base, J'.hok, rv', q⟩
    · exact hq
  refine wpAny_call (codeAny_mono rc fun r s' hq => ?_)
  cases r with
  | error e => exact False.elim hq
  | ok fl =>
    cases fl with
    | ret u => exact I.after hq
    | next => exact False.elim hq
    | brk => exact False.elim hq
    | cont => exact False.elim hq
end
end LamX

/-! SxKeyJ: sorted(xs, key=f) where f's calls keep an invariant. -/
namespace SxKey
open PySem PySem.Calls PyProof.Rows PySem.W
section
variable {prog : Program} {w : World} {A : Around} {E : Value → Shared → Prop} {s : Shared} {a kS : Addr} {b : Bool} {vs : List Value} {e1 : Nat} {P : PySem.Fin → Shared → Prop} {f : Value}
/-- what the keys must be, and what follows the sorting -/
def KeysEnd (A : Around) (a kS : Addr) (b : Bool) (vs : List Value) (P : PySem.Fin → Shared → Prop) (kA : Array Value) (s' : Shared) : Prop :=
  ∃ kz : List PyData, EachIs (fun v k => ∃ as, Reads s'.heap v k as) kA.toList kz ∧ AllAlike kz ∧ Sortable kz ∧ (∀ d ∈ kz, A.units + d.depth < cLine) ∧
    ∀ (out : List Value) (h' : Heap) (tk c : Nat), (∀ x o, x ≠ a → x ≠ kS → s'.heap.get? x = some o → h'.get? x = some o) → h'.get? a = some (seqObj "list" out.toArray c) → KeyedOut b kz vs out → P (.done (.ret .none)) { s' with heap := h', toks := tk }
theorem without (h : Heap) (x : Addr) : ∃ g : Heap, g.get? x = none ∧ ∀ y o, y ≠ x → (g.get? y = some o ↔ h.get? y = some o) := by
  refine ⟨h.update x fun o => { o with data := .freed }, ?_, fun y o hy => by rw [Heap.get?_update_ne _ _ _ _ hy]⟩
  obtain ⟨objs, l⟩ := h
  have e : (objs.modify x fun o => { o with data := .freed })[x]? = (objs[x]?).map fun o => { o with data := .freed } := by
    rw [Array.getElem?_modify]
    simp
  show (match (objs.modify x fun o => { o with data := .freed })[x]? with
    | some ⟨_, _, .freed, _⟩ => none
    | o => o) = none
  rw [e]
  cases objs[x]? <;> rfl
theorem keyJ_rest (J : Nat → Array Value → Nat → Shared → Prop) (hJ : ∀ i kA e s', J i kA e s' → s'.heap.get? kS = some (seqObj "list" kA e) ∧ s'.heap.get? a = some (seqObj "list" #[] e1) ∧ kA.size = i)
    (hka : kS ≠ a) (hZ : vs.length ≤ sizeLine) (j0 : J 0 #[] 0 s)
    (turn : ∀ i v kA e s', vs[i]? = some v → J i kA e s' → wpAny (model prog w) A (call f [v]) (fun u s'' => s''.heap.get? kS = some (seqObj "list" kA e) ∧
      ∀ c, (s''.heap.update kS (Obj.mapSeq (·.push u))).get? kS = some (seqObj "list" (kA.push u) c) → J (i + 1) (kA.push u) c { s'' with heap := s''.heap.update kS (Obj.mapSeq (·.push u)) }) (fun _ _ => False) s')
    (fin : ∀ kA e s', J vs.length kA e s' → KeysEnd A a kS b vs P kA s') : wpAny (model prog w) A (ksk_rest a f b vs.toArray e1 (.ref kS)) P E s := by
  have loop : ∀ body : Value → PUnit → Sem (ForInStep PUnit), (∀ v s' i kA e, vs[i]? = some v → J i kA e s' → wpAny (model prog w) A (body v ⟨⟩) (fun r s'' => r = .yield ⟨⟩ ∧ ∃ kB c, J (i + 1) kB c s'') E s') →
      ∀ {Q : PUnit → Shared → Prop}, (∀ s' kA e, J vs.length kA e s' → Q ⟨⟩ s') → wpAny (model prog w) A (forIn vs PUnit.unit body) Q E s := by
    intro body hb Q hq
    refine ksk_fold (fun i s' => ∃ kA e, J i kA e s') vs 0 s ⟨#[], 0, j0⟩ (fun j x s' hx hs => ?_) fun s' hs => ?_
    · obtain ⟨kA, e, hj⟩ := hs
      rw [Nat.zero_add] at hj ⊢
      exact hb x s' j kA e hx hj
    · obtain ⟨kA, e, hj⟩ := hs
      rw [Nat.zero_add] at hj
      exact hq s' kA e hj
  unfold ksk_rest
  refine wpAny_bind (wpAny_rule ?_)
  rw [← Array.forIn_toList]
  simp only [List.toList_toArray]
  refine wpAny_bind (loop _ (fun v s' i kA e hv hj => ?_) fun s' kA e hj => ?_)
  · have sz := (hJ i kA e s' hj).2.2
    have hi : i < vs.length := (List.getElem?_eq_some_iff.mp hv).1
    refine wpAny_bind (wpAny_attempt (wpAny_mono (turn i v kA e s' hv hj) (fun u s'' hq => ?_) fun _ _ z => z.elim))
    obtain ⟨g1, g2⟩ := hq
    obtain ⟨c, hc⟩ : ∃ c, (s''.heap.update kS (Obj.mapSeq (·.push u))).get? kS = some (seqObj "list" (kA.push u) c) := ⟨_, get?_update_seq g1 (·.push u)⟩
    exact wpAny_bind (listUpdate_at g1 rfl (wpAny_pure ⟨rfl, _, c, g2 c hc⟩) (by omega) (by rw [Array.size_push]; omega))
  · obtain ⟨n1, n2, sz⟩ := hJ _ kA e s' hj
    obtain ⟨kz, r1, r2, r3, r4, r5⟩ := fin kA e s' hj
    obtain ⟨g, g1, g2⟩ := without s'.heap kS
    refine wpAny_bind (listItems_at n1 rfl ?_)
    refine keyH_end (κ := dataKind s'.heap kz) (h₁ := g) (fun x o hx q => ?_) g1 n1 n2 hka (SortsAt.data r1 r2 r3 r4) sz hZ fun h' tk c k1 k2 => ?_
    · have hxk : x ≠ kS := fun z => by rw [z, g1] at q; cases q
      exact (g2 x o hxk).mp q
    · exact r5 _ h' tk c (fun x o h1 h2 q => k1 x o h1 ((g2 x o h2).mpr q)) k2 ⟨s'.heap, kA.toList, r2, rfl, r1⟩
end
end SxKey

/-! SxLam2: sorted(xs, key=f), f a function object that is called by a rule of its own. -/
namespace LamX
open PySem PySem.Spec PyProof.Rows L2 NdefX
open PySem.W (AllAlike Sortable EachIs dataLe KeyedOut copyHeap sortingHeap)
theorem each_reads {X : Cx} {pins : List (Addr × Obj)} {σ : L2.St} {H : Hp} {s : Shared} (I : Inv X pins σ H s) : ∀ {ys : List V} {us : List Value} {ks : List PyData}, Vals ys us → DpAll X.K H ys ks → EachIs (fun v k => ∃ as, Reads s.heap v k as) us ks
  | _, _, _, .nil, .nil => .nil
  | _, _, _, .cons r t, .cons d ds => .cons (Dp.reads I _ _ _ d r) (each_reads I t ds)
theorem dpAll_len {K : PySem.W.Frag} {H : Hp} : ∀ {ys : List V} {ks : List PyData}, DpAll K H ys ks → ys.length = ks.length
  | _, _, .nil => rfl
  | _, _, .cons _ t => congrArg (· + 1) (dpAll_len t)
theorem each_zip : ∀ {xs : List V} {us : List Value} {ks : List PyData}, Vals xs us → xs.length = ks.length → EachIs (fun u (b : V × PyData) => RelV b.1 u) us (xs.zip ks)
  | _, _, ks, .nil, _ => by cases ks <;> exact .nil
  | _, _, [], .cons _ _, h => by simp at h
  | _, _, k :: ks, .cons r t, h => .cons r (each_zip t (by simpa using h))
theorem vals_fst : ∀ {bs : List (V × PyData)} {us : List Value}, EachIs (fun u (b : V × PyData) => RelV b.1 u) us bs → Vals (bs.map Prod.fst) us
  | _, _, .nil => .nil
  | _, _, .cons h t => .cons h (vals_fst t)
/-- the items by their keys -/
def byKeys (xs : List V) (ks : List PyData) : List V := ((xs.zip ks).mergeSort (dataLe false Prod.snd)).map Prod.fst
section
variable {X : Cx} {pins : List (Addr × Obj)} {σ : L2.St} {H : Hp} {s : Shared}
theorem sortKey_run {l f c' : Addr} {xs : List V} {fo : Obj} {co : HO} {T : V → Hp → VK → Prop} {W : Nat → List V → Hp → Prop} {Q : VK} (I : Inv X pins σ H s) (hs : SqL X.K H l xs) (hu : X.A.units + 64 < cLine)
    (hcall : ∀ (pins' : List (Addr × Obj)) (s' : Shared) (H' : Hp) (v : V) (u : Value) (Q' : VK), Inv X pins' σ H' s' → s'.heap.get? f = some fo → H' c' = some co → RelV v u → T v H' Q' → wpAny (model X.prog X.w) X.A.in1.in1 (call (.ref f) [u]) (EP X pins' σ Q') (fun _ _ => False) s')
    (hf : s.heap.get? f = some fo) (hfn : H f = none) (hfl : f ≠ X.env.locals) (hff : f ∉ X.fs) (hfd : ∀ v, fo.data ≠ .cell v) (hco : H c' = some co) (w0 : W 0 [] H)
    (step : ∀ i ys H' v, W i ys H' → H' c' = some co → xs[i]? = some v → T v H' fun y H'' => H'' c' = some co ∧ W (i + 1) (ys ++ [y]) H'')
    (fin : ∀ ys H', W xs.length ys H' → ∃ ks, DpAll X.K H' ys ks ∧ AllAlike ks ∧ Sortable ks ∧ (∀ d ∈ ks, d.depth ≤ 29) ∧ ∀ p, H' p = none → Q (.ref p) (upd H' p (.lst (byKeys xs ks)))) :
    wpAny (model X.prog X.w) X.A (call (.builtin "sorted") [.ref l] [(Str.ofString "key", .ref f)]) (EP X pins σ Q) X.xe s := by
  obtain ⟨its, rv, hl, hz⟩ := I.list hs
  have len := rv.length
  have hL : its.length ≤ sizeLine := by omega
  refine PySem.W.sorted_of_sort hl.isList hL (PyProof.Rows.ksk_s1 _ _) (fun _ => PyProof.Rows.ksk_l1 _ _) fun E' => ?_
  rw [PyProof.Rows.ksk_t1]
  generalize hR : s.heap.objs.size + 1 = aR
  have ho : (copyHeap s.heap its).get? aR = some (seqObj "list" its.toArray 0) := by rw [← hR]; exact PySem.W.copyHeap_at s.heap its
  obtain ⟨e1, ho1⟩ : ∃ e1, ((copyHeap s.heap its).update aR (Obj.mapSeq fun _ => (#[] : Array Value))).get? aR = some (seqObj "list" #[] e1) := ⟨_, get?_update_seq ho fun _ => #[]⟩
  unfold PyProof.Rows.ksk_tree
  refine wpAny_bind (listItems_at ho rfl (wpAny_bind (listUpdate_at ho rfl (wpAny_bind (seqEpoch_at ho1 rfl (wpAny_bind (wpAny_newTuple (wpAny_bind (wpAny_newList (wpAny_holding ?_) (Nat.zero_le _))) hL)))) (by rw [List.size_toArray]; exact hL) (Nat.zero_le _))))
  generalize hS : (((copyHeap s.heap its).update aR (Obj.mapSeq fun _ => (#[] : Array Value))).push { cls := .type "tuple", data := .seq its.toArray.toList.toArray }).objs.size = kS
  have szc : (copyHeap s.heap its).objs.size = s.heap.objs.size + 2 := by
    unfold PySem.W.copyHeap
    rw [size_push', Heap.size_update, size_push']
  have kv : kS = s.heap.objs.size + 3 := by
    rw [← hS, size_push', Heap.size_update, szc]
  have hka : kS ≠ aR := by omega
  have old : ∀ b o, s.heap.get? b = some o → ((((copyHeap s.heap its).update aR (Obj.mapSeq fun _ => (#[] : Array Value))).push { cls := .type "tuple", data := .seq its.toArray.toList.toArray }).push { cls := .type "list", data := .seq ([] : List Value).toArray }).get? b = some o := fun b o q => by
    have lt := Heap.lt_size q
    refine Heap.get?_push_of_some _ (Heap.get?_push_of_some _ ?_)
    rw [Heap.get?_update_ne _ _ _ _ (Nat.ne_of_lt (by rw [← hR]; exact Nat.lt_succ_of_lt lt))]
    exact PySem.W.copyHeap_old q
  have atA := Heap.get?_push_of_some { cls := .type "list", data := .seq ([] : List Value).toArray } (Heap.get?_push_of_some { cls := .type "tuple", data := .seq its.toArray.toList.toArray } ho1)
  have atK : ((((copyHeap s.heap its).update aR (Obj.mapSeq fun _ => (#[] : Array Value))).push { cls := .type "tuple", data := .seq its.toArray.toList.toArray }).push { cls := .type "list", data := .seq ([] : List Value).toArray }).get? kS = some { cls := .type "list", data := .seq ([] : List Value).toArray } := by
    rw [← hS]; exact Heap.get?_push_size _ rfl
  have lt := I.lt
  have lf := Heap.lt_size hf
  have lp : ∀ p ∈ X.pn ++ pins, p.1 < s.heap.objs.size := fun p hp => Heap.lt_size (I.pin p hp).1
  let PL : Array Value → Nat → List (Addr × Obj) := fun kA e => (f, fo) :: (aR, seqObj "list" #[] e1) :: (kS, seqObj "list" kA e) :: pins
  have none_of : ∀ {b : Addr}, s.heap.objs.size ≤ b → H b = none := fun h => I.hok.fresh h
  have sA : s.heap.objs.size ≤ aR := by rw [← hR]; exact Nat.le_succ _
  have sK : s.heap.objs.size ≤ kS := by rw [kv]; exact Nat.le_add_right _ _
  have hiN : ∀ {b x : Addr}, x < s.heap.objs.size → s.heap.objs.size ≤ b → b ≠ x := fun h1 h2 z => Nat.lt_irrefl _ (Nat.lt_of_lt_of_le (z ▸ h1) h2)
  refine SxKey.keyJ_rest (b := false) (e1 := e1) (fun i kA e s' => ∃ ys H', Inv X (PL kA e) σ H' s' ∧ H' c' = some co ∧ Vals ys kA.toList ∧ kA.size = i ∧ W i ys H') ?hJ hka hL ?j0 ?turn ?fin
  case hJ =>
    rintro i kA e s' ⟨ys, H', J, _, _, sz, _⟩
    exact ⟨(J.pin _ (List.mem_append_right _ (List.mem_cons_of_mem _ (List.mem_cons_of_mem _ List.mem_cons_self)))).1, (J.pin _ (List.mem_append_right _ (List.mem_cons_of_mem _ List.mem_cons_self))).1, sz⟩
  case j0 =>
    refine ⟨[], H, (I.kept (t' := s.toks) old).pins_of fun p hp => ?_, hco, .nil, rfl, w0⟩
    rcases List.mem_cons.mp hp with rfl | hp
    · exact ⟨old _ _ hf, hfn, hfl, hff, hfd⟩
    rcases List.mem_cons.mp hp with rfl | hp
    · exact ⟨atA, none_of sA, hiN lt sA, I.nofs sA, fun v z => by cases z⟩
    rcases List.mem_cons.mp hp with rfl | hp
    · exact ⟨atK, none_of sK, hiN lt sK, I.nofs sK, fun v z => by cases z⟩
    · exact (I.kept (t' := s.toks) old).pin p (List.mem_append_right _ hp)
  case turn =>
    rintro i v kA e s' hv ⟨ys, H', J, jc, jv, sz, jw⟩
    have hi : i < xs.length := by rw [len]; exact (List.getElem?_eq_some_iff.mp hv).1
    obtain ⟨x, hx⟩ : ∃ x, xs[i]? = some x := ⟨_, List.getElem?_eq_getElem hi⟩
    obtain ⟨u, hu1, ru⟩ := rv.get hx
    rw [hv] at hu1
    cases hu1
    refine wpAny_mono (hcall (PL kA e) s' H' x v _ J (J.pin _ (List.mem_append_right _ List.mem_cons_self)).1 jc ru (step i ys H' x jw jc hx)) (fun u s'' hq => ?_) fun _ _ z => z
    obtain ⟨y, H'', J2, ry, jc2, jw2⟩ := hq
    have pk := J2.pin (kS, seqObj "list" kA e) (List.mem_append_right _ (List.mem_cons_of_mem _ (List.mem_cons_of_mem _ List.mem_cons_self)))
    refine ⟨pk.1, fun c hc => ⟨ys ++ [y], H'', ?_, jc2, ?_, by rw [Array.size_push, sz], jw2⟩⟩
    · have J3 : Inv X ((f, fo) :: (aR, seqObj "list" #[] e1) :: pins) σ H'' s'' := J2.pins_of fun p hp => by
        refine J2.pin p (List.mem_append_right _ ?_)
        rcases List.mem_cons.mp hp with rfl | hp
        · exact List.mem_cons_self
        rcases List.mem_cons.mp hp with rfl | hp
        · exact List.mem_cons_of_mem _ List.mem_cons_self
        · exact List.mem_cons_of_mem _ (List.mem_cons_of_mem _ (List.mem_cons_of_mem _ hp))
      have sb := Heap.SameBut.update s''.heap kS (Obj.mapSeq (·.push u))
      have J4 := J3.turned (t' := s''.toks) (h' := s''.heap.update kS (Obj.mapSeq (·.push u))) (it := kS) (fun b o hb q => (sb.2 b hb).trans q) pk.2.1 pk.2.2.1 (.inr (Nat.le_trans I.sz sK)) (fun y c e => ?_) fun p hp => ?_
      · refine J4.pins_of fun p hp => ?_
        rcases List.mem_cons.mp hp with rfl | hp
        · exact J4.pin _ (List.mem_append_right _ List.mem_cons_self)
        rcases List.mem_cons.mp hp with rfl | hp
        · exact J4.pin _ (List.mem_append_right _ (List.mem_cons_of_mem _ List.mem_cons_self))
        rcases List.mem_cons.mp hp with rfl | hp
        · exact ⟨hc, pk.2.1, pk.2.2.1, pk.2.2.2.1, fun v z => by cases z⟩
        · exact J4.pin p (List.mem_append_right _ (List.mem_cons_of_mem _ (List.mem_cons_of_mem _ hp)))
      · rintro rfl
        obtain ⟨v', o, q1, q2⟩ := J2.cell y c e
        rw [pk.1] at q1
        cases q1
        cases q2
      · rcases List.mem_append.mp hp with hp | hp
        · exact (hiN (lp p (List.mem_append_left _ hp)) sK).symm
        rcases List.mem_cons.mp hp with rfl | hp
        · exact (hiN lf sK).symm
        rcases List.mem_cons.mp hp with rfl | hp
        · exact Ne.symm hka
        · exact (hiN (lp p (List.mem_append_right _ hp)) sK).symm
    · rw [Array.toList_push]
      exact jv.append (.cons ry .nil)
  case fin =>
    rintro kA e s' ⟨ys, H', J, jc, jv, sz, jw⟩
    rw [← len] at jw
    obtain ⟨ks, k1, k2, k3, k4, k5⟩ := fin ys H' jw
    have lk : xs.length = ks.length := by
      have h1 := dpAll_len k1
      have h2 := jv.length
      have h3 : kA.toList.length = kA.size := Array.length_toList
      rw [h3] at h2
      exact (len.trans sz.symm).trans (h2.symm.trans h1)
    refine ⟨ks, each_reads J jv k1, k2, k3, fun d hd => ?_, fun out h' tk c keep ha ko => ⟨rfl, ?_⟩⟩
    · have h1 := k4 d hd
      show X.A.units + 1 + 1 + d.depth < cLine
      omega
    · have pa := J.pin (aR, seqObj "list" #[] e1) (List.mem_append_right _ (List.mem_cons_of_mem _ List.mem_cons_self))
      have pk := J.pin (kS, seqObj "list" kA e) (List.mem_append_right _ (List.mem_cons_of_mem _ (List.mem_cons_of_mem _ List.mem_cons_self)))
      have bs : (xs.zip ks).map Prod.snd = ks := List.map_snd_zip (by omega)
      have ev := PySem.W.keyedOut_each (bs := xs.zip ks) Prod.snd (by rw [bs]; exact ko) (each_zip rv lk)
      have vo : Vals (byKeys xs ks) out := vals_fst ev
      have lb : (byKeys xs ks).length ≤ sizeLine := by
        unfold byKeys
        rw [List.length_map, List.length_mergeSort, List.length_zip]
        omega
      have ne : ∀ b u, H' b = some u → b ≠ aR ∧ b ≠ kS := fun b u q => ⟨fun z => (by rw [z, pa.2.1] at q; cases q), fun z => (by rw [z, pk.2.1] at q; cases q)⟩
      have J0 : Inv X pins σ H' s' := J.pins_of fun p hp => J.pin p (List.mem_append_right _ (List.mem_cons_of_mem _ (List.mem_cons_of_mem _ (List.mem_cons_of_mem _ hp))))
      have un : Un (frs X.stack) [aR, kS] H' (upd H' aR (.lst (byKeys xs ks))) s'.heap h' :=
        ⟨fun b o q _ _ hx => keep b o (fun z => hx (by simp [z])) (fun z => hx (by simp [z])) q, fun b o q _ _ hx => ⟨o.slots, keep b o (fun z => hx (by simp [z])) (fun z => hx (by simp [z])) q⟩, fun b o q n hx => by rw [upd_ne (fun z => hx (by simp [z]))]; exact n,
          fun b o q hx => ⟨o, keep b o (fun z => hx (by simp [z])) (fun z => hx (by simp [z])) q⟩, fun b zs q => by rw [upd_ne (ne b _ q).1]; exact q, fun b o u q => by rw [upd_ne (ne b _ q).1]; exact q, fun b ps q => ⟨#[], by rw [upd_ne (ne b _ q).1, q]; simp⟩⟩
      have cellN : ∀ {b : Addr} {kB : Array Value} {n : Nat}, s'.heap.get? b = some (seqObj "list" kB n) → ∀ y c, X.env.cells.lookup y = some c → c ≠ b := fun {b kB n} q y c e z => by
        obtain ⟨v', o, q1, q2⟩ := J.cell y c e
        rw [z, q] at q1
        cases q1
        cases q2
      have hok : HOk X.prog X.w (upd H' aR (.lst (byKeys xs ks))) h' := fun b u q => by
        by_cases hb : b = aR
        · subst hb
          rw [upd_same] at q
          cases q
          exact ⟨lb, out, c, vo, ha⟩
        · rw [upd_ne hb] at q
          refine (J.hok b u q).stay (fun d v hd q' => ?_) (fun d q' => by rw [upd_ne (ne d _ q').1]; exact q') fun d zs q' => by rw [upd_ne (ne d _ q').1]; exact q'
          have hn : d ≠ aR ∧ d ≠ kS := by
            rcases hd with z | z
            · rw [z]; exact ne b u q
            · exact ne d _ z
          exact keep d v hn.1 hn.2 q'
      have J5 := J0.call (g' := s'.gens) (t' := tk) (d' := s'.drawn) (ch := [aR, kS]) un hok J0.bare fun b hb => by
        have sz0 := I.sz
        rcases List.mem_cons.mp hb with rfl | hb
        · exact ⟨.inr (Nat.le_trans I.sz sA), pa.2.2.1, cellN pa.1, fun p hp => (hiN (lp p hp) sA).symm⟩
        · rw [List.mem_singleton.mp hb]
          exact ⟨.inr (Nat.le_trans I.sz sK), pk.2.2.1, cellN pk.1, fun p hp => (hiN (lp p hp) sK).symm⟩
      exact ⟨.ref aR, _, J5, rfl, k5 aR pa.2.1⟩
end
end LamX
namespace LamX
open PySem PySem.Spec PyProof.Rows L2 NdefX
/-- what is asked of the list, of the lambda's body -/
def skK (K : PySem.W.Frag) (T : List (Addr × Str)) (q : Str) (N : List Str) (js : List Nat) (tb : TE) (σ : L2.St) (Q : VK) : V → Hp → Prop := fun x H1 => Tabs T H1 ∧ ∃ a xs, x = .ref a ∧ SqL K H1 a xs ∧
  ∀ (c' : Addr) (H2 : Hp), Grow T H1 H2 → H2 c' = some (CodeO c' q) → ∃ W : Nat → List V → Hp → Prop, W 0 [] H2 ∧
    (∀ i ys H' v, W i ys H' → H' c' = some (CodeO c' q) → xs[i]? = some v → tb (startF N [v] (js.map (slotAt σ))) H' fun y H'' => H'' c' = some (CodeO c' q) ∧ W (i + 1) (ys ++ [y]) H'') ∧
    ∀ ys H', W xs.length ys H' → ∃ ks, DpAll K H' ys ks ∧ PySem.W.AllAlike ks ∧ PySem.W.Sortable ks ∧ (∀ d ∈ ks, d.depth ≤ 29) ∧ ∀ p, H' p = none → Q (.ref p) (upd H' p (.lst (byKeys xs ks)))
/-- sorted(e, key=lambda x: body) -/
def tSK (K : PySem.W.Frag) (T : List (Addr × Str)) (q : Str) (N : List Str) (js : List Nat) (te tb : TE) : TE := fun σ H Q => te σ H (skK K T q N js tb σ Q)
def oneV (K : V → Hp → Prop) : List V → Hp → Prop
  | [x], H => K x H
  | _, _ => False
theorem sq_grow {K : PySem.W.Frag} {T : List (Addr × Str)} {H H1 : Hp} {a : Addr} {xs : List V} (g : Grow T H H1) (h : SqL K H a xs) : SqL K H1 a xs := by
  rcases h with (h | ⟨o, h⟩) | h
  · exact .inl (.inl (g.keep _ _ h (by intro _ z; cases z)))
  · exact .inl (.inr ⟨o, g.keep _ _ h (by intro _ z; cases z)⟩)
  · exact .inr h
theorem hu64' {X : Cx} {k : Nat} (hr : Room k X.A) : X.A.units + 64 < cLine := by have := hr.un; omega
theorem pe_sortKey {X : Cx} {T : List (Addr × Str)} {c P : Addr} {k : Nat} {N fr : List Str} {js : List Nat} {x : Str} {params : Arguments} {body e : Expr} {scope : Scope} {te tb : TE} {p lpos kpos pos : Pos}
    (hg : Gl X "sorted") (hm : X.mg "sorted" = none) (he : PE X e te) (hr : Room (k + 3) X.A) (TB : TabB X.base X.mg c P) (hcode : X.env.code = .ref c) (hmT : (P, X.env.qual ++ "<lambda>") ∈ T) (hu : ∀ p ∈ T, p.1 = P → p.2 = X.env.qual ++ "<lambda>")
    (S : NScope N [x] fr scope) (hB : ndefB X.env.scope scope fr = true) (hjs : js.map (fun j => X.N[j]?) = fr.map some) (hdef : defaultsOf params X.env = ([], []))
    (hbind : ∀ (q : Str) (cl : List (Str × Addr)) (pm cv ctv : Value) (u : Value), bindArgs (PySem.W.kla_fn "<lambda>" q params body scope cl pm cv ctv) ⟨[u], []⟩ = pure [(x, u)])
    (hbody : ∀ (f c' : Addr) (A : Around) (s : Shared) (H : Hp), Room k (A.deeper (envF (lamF X params scope c') f s.heap.objs.size)) → PE (lamC X N params scope f c' A s H) body tb)
    (hs : backTo pos (starEach [e] X.env) = (false, eval e X.env) :: backTo pos (starEach [] X.env) := by rfl) (hpl : (backTo pos (starEach [e] X.env)).any (·.1) = false := by rfl) (h1 : starEach [e] X.env = (false, eval e X.env) :: starEach [] X.env := by rfl) :
    PE X (.Call (.Name "sorted" p) [e] [⟨some "key", .Lambda params body scope lpos, kpos⟩] pos) (tSK X.K T (X.env.qual ++ "<lambda>") N js te tb) := by
  refine ⟨fun pins s σ H Q I h => ?_⟩
  refine wpAny_Call_Name_kw (ld_blt I hg hm PyProof.Rows.boot_sorted ?_)
  have ha : PA X [e] (tCons te tNil) := pa_cons he pa_nil h1
  have room2 : Room (k + 1) X.A.in1.in1 := (hr.in1).in1
  refine PyProof.Rows.callWith_kw (thn (ha.run pos pins s σ H (oneV (skK X.K T (X.env.qual ++ "<lambda>") N js tb σ Q)) I h) fun us s1 ⟨vs, H1, I1, r1, hq⟩ => ?_) hs hpl rfl rfl
  match vs, r1, hq with
  | [y], r1, hq =>
    obtain ⟨hT, a, xs, rfl, hs1, rest⟩ := hq
    obtain ⟨u, rfl, ru⟩ := vals1 r1
    obtain rfl : u = Value.ref a := ru
    have nfree := ndef_free hB
    have hfree : ∀ y ∈ scope.names, y.2 = .free → ∃ c, X.env.cells.lookup y.1 = some c := fun y hy e => (nfree y hy e).elim (fun z => I1.ok.has _ (.inl z)) fun z => I1.ok.has _ (.inr z)
    have cp := Caps.made (scope := scope) I1.ok nfree (ndef_fr hB) hjs
    show wpAny _ _ (evalAll [do let v ← eval (.Lambda params body scope lpos) X.env; standAt pos; pure v]) _ _ s1
    refine wpAny_evalAll_cons (wpAny_bind (lam_grow I1 TB hcode hmT hu hT hdef hfree fun f c' pm ctv H2 s2 I2 G hf hfn hfr hfl hco => wpAny_bind (wpAny_standAt (wpAny_pure (wpAny_evalAll_nil ?_)))))
    obtain ⟨W, w0, w1, w2⟩ := rest c' H2 G hco
    have hff : f ∉ X.fs := fun z => by
      rcases I2.ok.stk with e | ⟨e, _⟩
      · rw [e] at hfr; exact hfr z
      · rw [e] at hfr; exact hfr (by
          unfold frs
          rw [List.filterMap_cons]
          split
          · exact z
          · exact List.mem_cons_of_mem _ z)
    refine sortKey_run (T := fun v H' Q' => tb (startF N [v] (js.map (slotAt σ))) H' Q') I2 (sq_grow G hs1) (hu64' hr) (fun pins' s' H' v u Q' J jf jc ru jt => ?_) hf hfn hfl hff (fun v z => by cases z) hco w0 w1 w2
    exact lam_call J rfl room2.hd room2 S cp jf jc hbind (fun A s H hr' => hbody f c' A s H hr') ru jt
end LamX

/-! SxKey: sorted(e, key=lambda x: body), by data. -/
namespace Sx
open PySem L2 LamX NdefX
open PySem.W (AllAlike Sortable dataLe)
/-- the keys, one by one; caps: what the lambda reads of the def -/
def keysD (g : SE) (caps : Env) : List D → Sto → Out (List D)
  | [], μ => .ok [] μ
  | d :: ds, μ => opd (g (some (.dat d) :: caps) μ) fun v μ1 => match v with
    | .dat k => consO k (keysD g caps ds μ1)
    | .loc _ => .stuck
def byKeysD (ds : List D) (ps : List PyData) : List D := ((ds.zip ps).mergeSort (dataLe false Prod.snd)).map Prod.fst
def sSortKey (f : SE) (js : List Nat) (g : SE) : SE := fun ρ μ => opd (f ρ μ) fun v μ1 => match rdL μ1 v with
  | some ds => match keysD g (js.map (gv ρ)) ds μ1 with
    | .ok ks μ2 => match ks.mapM (D.py 29) with
      | some ps => if sortOk ps = true then .ok (.new (.lst (byKeysD ds ps))) μ2 else .stuck
      | none => .stuck
    | _ => .stuck
  | none => .stuck
theorem dpAll_of {K : PySem.W.Frag} {H : Hp} {F : Addr → Prop} : ∀ {ys : List V} {ks : List D} {ps : List PyData}, RpL H F ys ks → ks.mapM (D.py 29) = some ps → DpAll K H ys ps ∧ ∀ p ∈ ps, p.depth ≤ 29
  | _, _, ps, .nil, h => by simp at h; subst h; exact ⟨.nil, fun _ h => by cases h⟩
  | _, _, ps, .cons r t, h => by
    obtain ⟨p, qs, rfl, h1, h2⟩ := mapM_cons_some h
    obtain ⟨a1, a2, a3⟩ := dp_of (K := K) 29 _ _ _ r h1
    obtain ⟨b1, b2⟩ := dpAll_of (K := K) t h2
    exact ⟨.cons a1 b1, fun q hq => (List.mem_cons.mp hq).elim (fun e => by rw [e]; exact a3) (b2 q)⟩
theorem rpL_byKeys {H : Hp} {F : Addr → Prop} {xs : List V} {ds : List D} (r : RpL H F xs ds) (ps : List PyData) : RpL H F (byKeys xs ps) (byKeysD ds ps) := by
  obtain ⟨bs, rfl, rfl, hb⟩ := rpL_zip r
  have e1 : byKeys (bs.map (·.1)) ps = ((bs.zip ps).mergeSort (dataLe false Prod.snd)).map fun z => z.1.1 := by
    unfold byKeys
    have z : (bs.map (·.1)).zip ps = (bs.zip ps).map fun z => (z.1.1, z.2) := by
      rw [← List.map_id ps, List.zip_map, List.map_id]
      rfl
    have m : ((bs.zip ps).map fun z => (z.1.1, z.2)).mergeSort (dataLe false Prod.snd) = ((bs.zip ps).mergeSort (dataLe false Prod.snd)).map fun z => (z.1.1, z.2) := (List.map_mergeSort (r := dataLe false Prod.snd) (s := dataLe false Prod.snd) (f := fun z : (V × D) × PyData => (z.1.1, z.2)) (l := bs.zip ps) fun a _ b _ => rfl).symm
    rw [z, m, List.map_map]
    rfl
  have e2 : byKeysD (bs.map (·.2)) ps = ((bs.zip ps).mergeSort (dataLe false Prod.snd)).map fun z => z.1.2 := by
    unfold byKeysD
    have z : (bs.map (·.2)).zip ps = (bs.zip ps).map fun z => (z.1.2, z.2) := by
      rw [← List.map_id ps, List.zip_map, List.map_id]
      rfl
    have m : ((bs.zip ps).map fun z => (z.1.2, z.2)).mergeSort (dataLe false Prod.snd) = ((bs.zip ps).mergeSort (dataLe false Prod.snd)).map fun z => (z.1.2, z.2) := (List.map_mergeSort (r := dataLe false Prod.snd) (s := dataLe false Prod.snd) (f := fun z : (V × D) × PyData => (z.1.2, z.2)) (l := bs.zip ps) fun a _ b _ => rfl).symm
    rw [z, m, List.map_map]
    rfl
  rw [e1, e2]
  have mem : ∀ z ∈ (bs.zip ps).mergeSort (dataLe false Prod.snd), Rp H F z.1.1 z.1.2 := fun z hz => hb z.1 (List.of_mem_zip (List.mem_mergeSort.mp hz)).1
  generalize (bs.zip ps).mergeSort (dataLe false Prod.snd) = zs at mem
  induction zs with
  | nil => exact .nil
  | cons z zs ih => exact .cons (mem z List.mem_cons_self) (ih fun y hy => mem y (List.mem_cons_of_mem _ hy))
theorem caps_rep {G : Addr → Prop} {α : List Addr} {H : Hp} {σ : L2.St} {ρ : Env} {N : List Str} {js : List Nat} {v : V} {d : D} (E : RepE G α H σ ρ) (r : Rp H (off G α) v d) (hN : N.length = js.length + 1) : RepE G α H (startF N [v] (js.map (slotAt σ))) (some (.dat d) :: js.map (gv ρ)) := by
  have e : startF N [v] (js.map (slotAt σ)) = some v :: js.map (slotAt σ) := by
    unfold startF
    simp only [List.map_cons, List.map_nil, List.length_cons, List.length_nil, List.length_map, hN]
    rw [show js.length + 1 - (0 + 1) - js.length = 0 by omega]
    simp
  rw [e]
  refine ⟨by simp, fun i u h => ?_⟩
  cases i with
  | zero =>
    simp only [List.getElem?_cons_zero, Option.some.injEq] at h
    subst h
    exact ⟨v, rfl, r⟩
  | succ i =>
    simp only [List.getElem?_cons_succ, List.getElem?_map] at h ⊢
    obtain ⟨j, hj, hg⟩ := Option.map_eq_some_iff.mp h
    obtain ⟨x, h1, h2⟩ := E.get j u (gv_some hg)
    exact ⟨x, by rw [hj]; simp only [Option.map_some]; rw [slotAt_of h1], h2⟩
theorem Post.grow {T : List (Addr × Str)} {α : List Addr} {H H1 : Hp} (g : Grow T H H1) : Post α H α H1 :=
  ⟨⟨[], by simp⟩, fun b h n => absurd h n, fun b o e _ t => g.keep b o e t, fun b o e => by
    by_cases t : ∃ ps, o = .tbl ps
    · obtain ⟨ps, rfl⟩ := t
      obtain ⟨ps', h⟩ := g.tbl b ps e
      exact ⟨_, h⟩
    · exact ⟨o, g.keep b o e fun ps z => t ⟨ps, z⟩⟩, fun b ps e _ => g.tbl b ps e⟩
section
variable {X : Cx} {Z : Wd} {W : WX} {f g : SE} {c P : Addr} {k : Nat} {N fr : List Str} {js : List Nat} {x : Str} {params : Arguments} {body e : Expr} {scope : Scope} {p lpos kpos pos : Pos}
theorem d_sortKey (hg : Gl X "sorted") (hm : X.mg "sorted" = none) (he : PE X e (tD Z W f)) (hr : Room (k + 3) X.A) (TB : TabB X.base X.mg c P) (hcode : X.env.code = .ref c) (hT : Z.tabs = [(P, X.env.qual ++ "<lambda>")])
    (S : NScope N [x] fr scope) (hB : ndefB X.env.scope scope fr = true) (hjs : js.map (fun j => X.N[j]?) = fr.map some) (hN : N.length = js.length + 1) (hdef : defaultsOf params X.env = ([], []))
    (hbind : ∀ (q : Str) (cl : List (Str × Addr)) (pm cv ctv : Value) (u : Value), bindArgs (PySem.W.kla_fn "<lambda>" q params body scope cl pm cv ctv) ⟨[u], []⟩ = pure [(x, u)])
    (hbody : ∀ (f c' : Addr) (A : Around) (s : Shared) (H : Hp), Room k (A.deeper (envF (lamF X params scope c') f s.heap.objs.size)) → PE (lamC X N params scope f c' A s H) body (tD Z W0 g))
    (hs : backTo pos (starEach [e] X.env) = (false, eval e X.env) :: backTo pos (starEach [] X.env) := by rfl) (hpl : (backTo pos (starEach [e] X.env)).any (·.1) = false := by rfl) (h1 : starEach [e] X.env = (false, eval e X.env) :: starEach [] X.env := by rfl) :
    PE X (.Call (.Name "sorted" p) [e] [⟨some "key", .Lambda params body scope lpos, kpos⟩] pos) (tD Z W (sSortKey f js g)) := by
  refine PEimp (pe_sortKey (T := Z.tabs) hg hm he hr TB hcode (by rw [hT]; exact List.mem_cons_self) (fun q hq _ => by rw [hT] at hq; rw [List.mem_singleton.mp hq]) S hB hjs hdef hbind hbody hs hpl h1) ?_
  rintro σ H Q ⟨G, α, ρ, μ, S0, E, w⟩
  refine ⟨G, α, ρ, μ, S0, E, wE.opd w fun y H1 α1 μ1 v p1 S1 r1 w1 => ?_⟩
  cases q : rdL μ1 v with
  | none => simp only [q] at w1; exact w1.elim
  | some ds =>
    simp only [q] at w1
    obtain ⟨a, xs, rfl, e2, e3⟩ := rdL_ok S1 r1 q
    refine ⟨S1.tb, a, xs, rfl, .inl e2, fun c' H2 gr hc => ?_⟩
    cases qk : keysD g (js.map (gv ρ)) ds μ1 with
    | stuck => simp only [qk] at w1; exact w1.elim
    | exc x μ2 => simp only [qk] at w1; exact w1.elim
    | ok ks μ2 =>
      simp only [qk] at w1
      have P2 : Post α1 H1 α1 H2 := Post.grow gr
      have S2 : RepS Z G α1 H2 μ1 := S1.step P2 (fun b hb => by
        obtain ⟨o, e, nt⟩ := S1.tracked2 hb
        rw [e, gr.keep b o e fun ps z => nt (.inl ⟨ps, z⟩)]) gr.tabs
      have E2 := (E.post p1).post P2
      have e4 := e3.post P2
      have code_stays : ∀ {α3 α4 : List Addr} {H3 H4 : Hp} {μ3 : Sto}, RepS Z G α3 H3 μ3 → Post α3 H3 α4 H4 → H3 c' = some (CodeO c' (X.env.qual ++ "<lambda>")) → H4 c' = some (CodeO c' (X.env.qual ++ "<lambda>")) := fun {α3 α4 H3 H4 μ3} S3 P4 h => by
        refine P4.keep0 _ _ h (fun z => ?_) codeO_ne
        obtain ⟨o, e, nt⟩ := S3.tracked2 z
        rw [h] at e
        cases e
        exact nt (.inr ⟨_, _, rfl⟩)
      refine ⟨fun i ys H' => ∃ α' μ' us rest, Post α1 H2 α' H' ∧ RepS Z G α' H' μ' ∧ RpL H' (off G α') ys us ∧ us.length = i ∧ keysD g (js.map (gv ρ)) (ds.drop i) μ' = .ok rest μ2 ∧ us ++ rest = ks, ⟨α1, μ1, [], ks, Post.refl, S2, .nil, rfl, by simpa using qk, rfl⟩, ?_, ?_⟩
      · rintro i ys H' v' ⟨α', μ', us, rest, P', S', ru, lu, hk, hr'⟩ hc' hv
        obtain ⟨d, hd, rd⟩ := e4.getV hv
        have hi := (List.getElem?_eq_some_iff.mp hd).1
        rw [List.drop_eq_getElem_cons hi, (List.getElem?_eq_some_iff.mp hd).2] at hk
        unfold keysD at hk
        have El := caps_rep (N := N) (E2.post P') (Rp.post P' rd) hN
        refine ⟨G, α', _, μ', S', El, ?_⟩
        have fin : ∀ (y : V) (kd : D) (H4 : Hp) (α4 : List Addr) (μ4 : Sto), Post α' H' α4 H4 → RepS Z G α4 H4 μ4 → Rp H4 (off G α4) y kd → consO kd (keysD g (js.map (gv ρ)) (ds.drop (i + 1)) μ4) = .ok rest μ2 →
            H4 c' = some (CodeO c' (X.env.qual ++ "<lambda>")) ∧ ∃ α' μ' us rest, Post α1 H2 α' H4 ∧ RepS Z G α' H4 μ' ∧ RpL H4 (off G α') (ys ++ [y]) us ∧ us.length = i + 1 ∧ keysD g (js.map (gv ρ)) (ds.drop (i + 1)) μ' = .ok rest μ2 ∧ us ++ rest = ks := by
          intro y kd H4 α4 μ4 P4 S4 r4 h4
          refine ⟨code_stays S' P4 hc', ?_⟩
          cases h5 : keysD g (js.map (gv ρ)) (ds.drop (i + 1)) μ4 with
          | stuck => rw [h5] at h4; cases h4
          | exc x μ5 => rw [h5] at h4; cases h4
          | ok zs μ5 =>
            rw [h5] at h4
            simp only [consO, Out.ok.injEq] at h4
            obtain ⟨rfl, rfl⟩ := h4
            exact ⟨α4, μ4, us ++ [kd], zs, P'.trans P4, S4, (ru.post P4).append (.cons r4 .nil), by simp [lu], h5, by rw [List.append_assoc]; exact hr'⟩
        cases qg : g (some (.dat d) :: js.map (gv ρ)) μ' with
        | stuck => rw [qg] at hk; simp only [opd] at hk; cases hk
        | exc x μ3 => rw [qg] at hk; simp only [opd] at hk; cases hk
        | ok r μ3 =>
          rw [qg] at hk
          cases r with
          | dat kd => exact fun y H4 α4 P4 S4 r4 => fin y kd H4 α4 μ3 P4 S4 r4 hk
          | loc n => simp only [opd, Res.val] at hk; cases hk
          | new cc => exact fun y H4 α4 P4 n4 S4 => fin _ cc.frz H4 α4 μ3 P4 S4.freeze.1 S4.freeze.2 hk
      · rintro ys H' ⟨α', μ', us, rest, P', S', ru, lu, hk, hr'⟩
        have ln := e4.length
        rw [ln, List.drop_length] at hk
        simp only [keysD, Out.ok.injEq] at hk
        obtain ⟨rfl, rfl⟩ := hk
        rw [List.append_nil] at hr'
        subst hr'
        cases qp : us.mapM (D.py 29) with
        | none => simp only [qp] at w1; exact w1.elim
        | some ps =>
          simp only [qp] at w1
          by_cases ok : sortOk ps = true
          case neg => rw [if_neg ok] at w1; exact w1.elim
          rw [if_pos ok] at w1
          obtain ⟨o1, o2⟩ := sortOk_ok ok
          obtain ⟨d1, d2⟩ := dpAll_of (K := X.K) ru qp
          have w2 := (wE.post P2 w1)
          have w3 := (wE.post P' w2)
          exact ⟨ps, d1, o1, o2, d2, fun l hl => w3.lst S' (rpL_byKeys (RpL.post P' e4) ps) hl⟩
end
end Sx

/-! SxAugS: xs[i] op= e of ints; xs.index(i). -/
namespace L2
open PySem PySem.Spec PyProof.Rows
def rGetI (K : PySem.W.Frag) : V → V → Hp → VK → Prop := fun x y H Q => ∃ p xs i v, x = .ref p ∧ y = .int i ∧ SqL K H p xs ∧ 0 ≤ i ∧ i < 2 ^ 63 ∧ xs[i.toNat]? = some v ∧ Q v H
theorem get_listI {X : Cx} : PGet X (rGetI X.K) := by
  intro pins s σ H o i ov iv Q I ro ri h
  obtain ⟨p, xs, j, v, rfl, rfl, hs, h0, h1, hx, q⟩ := h
  obtain rfl : ov = Value.ref p := ro
  obtain ⟨t, rfl⟩ := ri
  obtain ⟨its, r, pl, hz⟩ := I.list hs
  obtain ⟨w, ew, rw'⟩ := r.get hx
  exact wpAny_getItem_list pl.isList h0 h1 (by simpa using ew) ⟨v, H, I, rw', q⟩
end L2
namespace Sx
open PySem L2
def sAugI (h : Int → Int → Int) (fx fi fe : SE) : SS := fun ρ μ => eS (fx ρ μ) ρ fun x μ1 => match x with
  | .dat _ => .stuck
  | .loc k => eS (fi ρ μ1) ρ fun i μ2 => match i, μ2[k]? with
    | .dat (.int j), some (.lst ds) => if 0 ≤ j ∧ j < 2 ^ 62 then match ds[j.toNat]? with
        | some (.int a) => eS (fe ρ μ2) ρ fun b μ3 => match b with
          | .dat (.int b) => match setC μ3 k (.dat (.int j)) (.int (h a b)) with
            | some μ4 => .next ρ μ4
            | none => .stuck
          | _ => .stuck
        | _ => .stuck
      else .stuck
    | _, _ => .stuck
section
variable {X : Cx} {Z : Wd} {W : WX} {o i e : Expr} {fx fi fe : SE} {p pos : Pos} {k : Nat} {op : Operator} {h : Int → Int → Int}
theorem s_augS (hr : Room k X.A) (hop : OpR X (inplaceOp op) (rI0 fun i j => .int (h i j))) (ho : PE X o (tD Z W fx)) (hi : PE X i (tD Z W fi)) (he : PE X e (tD Z W fe))
    (ha : ∀ ov iv new, augStore i ov iv new = (do holding [new, ov, iv] (setItem ov iv new); release [new, ov, iv] []; pure .next) := by intros; rfl) :
    PS X (.AugAssign (.Subscript o i p) op e pos) (tS Z W (sAugI h fx fi fe)) := by
  refine PSimp (ps_augS ho hi get_listI he hop (PSet.or set_list (set_dict (hu1 hr))) ha) ?_
  rintro D σ H ⟨G, α, ρ, μ, S, E, w⟩
  refine ⟨G, α, ρ, μ, S, E, wS.eS E w fun x H1 α1 μ1 vx p1 S1 r1 w1 => ?_⟩
  cases vx with
  | dat d => exact w1.elim
  | loc k =>
    have E1 := E.post p1
    refine ⟨G, α1, ρ, μ1, S1, E1, wS.eS E1 w1 fun y H2 α2 μ2 vi p2 S2 r2 w2 => ?_⟩
    have E2 := E1.post p2
    split at w2
    · rename_i j ds hm
      split at w2
      · rename_i hj
        split at w2
        · rename_i a hd
          obtain ⟨q, rfl, ⟨xs, h1, h2⟩, hk⟩ := loc_at S2 (r1.post p2) hm
          obtain ⟨u, hu, ru⟩ := h2.get hd
          rw [inv_ii r2]
          refine ⟨q, xs, j, u, rfl, rfl, .inl (.inl h1), hj.1, by omega, hu, ?_⟩
          refine ⟨G, α2, ρ, μ2, S2, E2, wS.eS E2 w2 fun z H3 α3 μ3 vb p3 S3 r3 w3 => ?_⟩
          split at w3
          · rename_i b
            cases hs : setC μ3 k (.dat (.int j)) (.int (h a b)) with
            | none => simp only [hs] at w3; exact w3.elim
            | some μ4 =>
              simp only [hs] at w3
              have eu : u = .int a := by cases ru; rfl
              rw [eu, inv_ii r3]
              refine ⟨a, b, rfl, rfl, ?_⟩
              exact setC_ok S3 (RpV.post p3 (show RpV G α2 H2 (.ref q) (.loc k) from ⟨q, hk, rfl⟩)) (show RpV G α3 H3 (.int j) (.dat (.int j)) from Rp.int j) (Rp.int _) hs fun H' P S' => w3 σ H' α3 P S' ((E2.post p3).post P)
          · exact w3.elim
        · exact w2.elim
      · exact w2.elim
    · exact w2.elim
end
/-- xs.index(i), all ints -/
def opIndexI : MOp := fun μ k as => match μ[k]?, as with
  | some (.lst ds), [.dat (.int i)] => match intsD ds with
    | some ns => (ns.findIdx? fun z => decide (z = i)).map fun j => (.dat (.int (j : Nat)), μ)
    | none => none
  | _, _ => none
theorem all_flat : ∀ ns : List Int, (ns.map V.int).all flatV = true
  | [] => rfl
  | _ :: ns => by simp only [List.map_cons, List.all_cons, all_flat ns]; rfl
theorem mc_index {K : PySem.W.Frag} : MtC (rIndex K) opIndexI := by
  intro Z G α H μ x vs k as res μ' Q E S rx rs e w
  unfold opIndexI at e
  split at e
  · rename_i ds i hm
    split at e
    · rename_i ns hn
      obtain ⟨j, hj, e⟩ := Option.map_eq_some_iff.mp e
      cases e
      obtain ⟨p, rfl, ⟨xs, h1, h2⟩, hk⟩ := loc_at S rx hm
      obtain ⟨y, rfl, ry⟩ := vs1 rs
      obtain ⟨hl, hp, hno⟩ := List.findIdx?_eq_some_iff_getElem.mp hj
      have ex := intsD_ok hn h2
      rw [inv_ii ry]
      refine ⟨p, xs, .int i, j, .int ns[j], rfl, rfl, .inl (.inl h1), rfl, by rw [ex]; exact all_flat ns, by rw [ex]; simp [hl], ?_, fun m z' hm2 hz => ?_, w.pure S (.int _)⟩
      · have : ns[j] = i := by simpa using hp
        rw [this]; simp [eqV]
      · rw [ex, List.getElem?_map] at hz
        obtain ⟨n, hn2, rfl⟩ := Option.map_eq_some_iff.mp hz
        obtain ⟨hml, hme⟩ := List.getElem?_eq_some_iff.mp hn2
        have := hno m hm2
        rw [hme] at this
        simpa [eqV] using this
    · cases e
  · cases e
section
variable {X : Cx} {Z : Wd} {W : WX} {o e : Expr} {fx : SE} {fs : List SE} {apos cpos : Pos}
theorem d_index (ho : PE X o (tD Z W fx)) (ha : PA X [e] (tA Z W (sArgs fs)))
    (hbase : attributeBase o "index" X.env (eval o X.env) = eval o X.env := by rfl)
    (hfew : ((backTo cpos (starEach [e] X.env)).all (fun x => !x.1) && (backToKw cpos (keywordEach [] X.env)).all (fun x => x.1.isSome)
      && decide ([e].length + ([] : List Keyword).length + (if ([] : List Keyword).isEmpty then 0 else 1) < 30)) = true := by rfl)
    (hline : (apos.endLine == cpos.line) = true := by rfl) (hs : starEach [e] X.env = (false, eval e X.env) :: starEach [] X.env := by rfl) (hplain : (backTo cpos (starEach [] X.env)).any (·.1) = false := by rfl) :
    PE X (.Call (.Attribute o "index" apos) [e] [] cpos) (tD Z W (sMetL opIndexI fx fs)) :=
  d_metL PySem.F.plainAttrs_list PySem.F.slot_list_index PySem.F.type_list_index mt_index mc_index ho ha hbase hfew hline hs hplain
end
end Sx
namespace Sx
open PySem L2
theorem rpL_rg {H : Hp} {F : Addr → Prop} (lo : Int) : ∀ l : List Nat, RpL H F (l.map fun (i : Nat) => V.int (lo + i)) (l.map fun (i : Nat) => D.int (lo + i))
  | [] => .nil
  | i :: l => .cons (.int _) (rpL_rg lo l)
def sListRg (f : SE) : SE := fun ρ μ => opd (f ρ μ) fun v μ1 => match rng1 v with
  | some ds => .ok (.new (.lst ds)) μ1
  | none => .stuck
section
variable {X : Cx} {Z : Wd} {W : WX} {a : Expr} {f : SE} {p p' pos pos' : Pos}
theorem d_listRg (hc : X.calm = true) (hg : Gl X "list") (hm : X.mg "list" = none) (hg2 : Gl X "range") (hm2 : X.mg "range" = none) (ha : PE X a (tD Z W f)) (na : starEach [a] X.env = (false, eval a X.env) :: starEach [] X.env := by rfl)
    (nb : starEach [.Call (.Name "range" p') [a] [] pos'] X.env = (false, eval (.Call (.Name "range" p') [a] [] pos') X.env) :: starEach [] X.env := by rfl) :
    PE X (.Call (.Name "list" p) [.Call (.Name "range" p') [a] [] pos'] [] pos) (tD Z W (sListRg f)) := by
  refine PEimp (pe_listRg hc hg hm (prg_1 hg2 hm2 ha na) nb) ?_
  rintro σ H Q ⟨G, α, ρ, μ, S, E, w⟩
  refine ⟨G, α, ρ, μ, S, E, wE.opd w fun x H1 α1 μ1 v p1 S1 r1 w1 => ?_⟩
  cases v with
  | loc k => exact w1.elim
  | dat d =>
    cases d with
    | int j =>
      simp only [rng1] at w1
      split at w1
      · rename_i ds h
        split at h
        · rename_i hj
          cases h
          have hs := sizeLine_eq
          refine ⟨j, inv_ii r1, ⟨by omega, by omega, by omega, by omega, by omega⟩, fun q hq => w1.lst S1 ?_ hq⟩
          have h := rpL_rg (H := H1) (F := off G α1) 0 (List.range j.toNat)
          unfold rgV
          rw [Int.sub_zero]
          exact h
        · cases h
      · exact w1.elim
    | _ => exact w1.elim
end
end Sx

/-! SxDict2: dict(x) of a list or tuple of pairs, of a dict; d.update(e). -/
namespace L2
open PySem PySem.Spec PyProof.Rows
section
variable {X : Cx}
theorem pairs_of2 {pins : List (Addr × Obj)} {σ : St} {H : Hp} {s : Shared} (I : Inv X pins σ H s) : ∀ {ps : List Addr} {kvs : List (Key × V)}, Paired (fun p kv => SqT X.K H p [kV kv.1, kv.2]) ps kvs →
    ∃ (prs : List (Key × Value)) (us : List (Value × Value)), KV kvs prs ∧ us.length = ps.length ∧ prs.length = ps.length ∧ ∀ (j : Nat) (k v : Value), us[j]? = some (k, v) → ∃ b, ps[j]? = some b ∧ IsTup s.heap b #[k, v] ∧ ∃ key, prs[j]? = some (key, v) ∧ keyIs key k = true
  | _, _, .nil => ⟨[], [], .nil, rfl, rfl, fun j k v e => by simp at e⟩
  | _, _, .cons (a := p) (b := kv) h t => by
    obtain ⟨prs, us, r, hl, hl2, hp⟩ := pairs_of2 I t
    obtain ⟨its, rv, ht, _⟩ := I.tuple h
    obtain ⟨u, y, ei, ru, ry⟩ := vals2 rv
    subst ei
    refine ⟨(kv.1, y) :: prs, (u, y) :: us, .cons ⟨rfl, ry⟩ r, by rw [List.length_cons, List.length_cons, hl], by rw [List.length_cons, List.length_cons, hl2], fun j k v e => ?_⟩
    cases j with
    | zero =>
      have e' : (u, y) = (k, v) := Option.some.inj e
      cases e'
      exact ⟨p, rfl, ht, kv.1, rfl, kV_is (P := X.prog) (w := X.w) ru⟩
    | succ j =>
      obtain ⟨b, e1, e2, key, e3, e4⟩ := hp j k v (by simpa using e)
      exact ⟨b, by simpa using e1, e2, key, by simpa using e3, e4⟩
theorem call_dictT (hcalm : X.calm = true) : CallR X (.type "dict") (fun xs H Q => ∃ (a : Addr) (ps : List Addr) (kvs : List (Key × V)), xs = [.ref a] ∧ TupAt H a (ps.map V.ref) ∧ Paired (fun p kv => SqT X.K H p [kV kv.1, kv.2]) ps kvs ∧
    ∀ p, H p = none → Q (.ref p) (upd H p (.dK (mergeK [] kvs)))) := by
  intro pins s σ H xs us Q I r q
  obtain ⟨a, ps, kvs, ex, hq, hp, q⟩ := q
  subst ex
  obtain ⟨u, eu, rx⟩ := vals1 r
  subst eu
  cases rx
  obtain ⟨o, ho, hd⟩ := hq
  obtain ⟨ho, hz, its, rv, o', ho', hc, n, hdat⟩ : ObjOk X.prog X.w H s.heap a (.frz o (.tup (ps.map V.ref))) := I.hok a _ ho
  rw [ho] at ho'
  cases ho'
  have ei := refs_at rv
  subst ei
  rw [List.length_map] at hz
  obtain ⟨prs, us, rel, hl, hl2, hpr⟩ := pairs_of2 I hp
  have items : PairItems s.heap (ps.map Value.ref).toArray (fun j => ps.getD j 0) us := by
    refine ⟨by simp [hl], fun j k v e => ?_⟩
    obtain ⟨b, e1, e2, _⟩ := hpr j k v e
    have eb : ps.getD j 0 = b := by rw [List.getD_eq_getElem?_getD, e1]; rfl
    refine ⟨by simp [e1, eb], ?_⟩
    show PairAt s.heap (ps.getD j 0) k v
    rw [eb]
    obtain ⟨ob, h1, h2, n2, h3⟩ := e2
    exact .inl ⟨ob, h1, h2, n2, h3⟩
  refine PySem.call_dict_pairs (knd := mixKind X.prog X.w) (kvs := prs) (PairArg.tuple a (ps.map Value.ref).toArray (fun j => ps.getD j 0) us) (I.ok.hd hcalm) ⟨⟨o, n, ho, hc, hd, hdat⟩, items⟩ ⟨by rw [hl2, hl], fun i key v e => ?_⟩ (by rw [hl]; exact hz) fun h' tk hd' k => ?_
  · obtain ⟨b, _, _, ky, e3, e4⟩ := hpr i key v e
    exact ⟨ky, e3, e4⟩
  · have k : ∀ b o, s.heap.get? b = some o → h'.get? b = some o := fun b o e => k b o (by simp) e
    have hm : (s.heap.objs.size == sysModules) = false := beq_eq_false_iff_ne.mpr (Nat.ne_of_gt I.big)
    have hlen : (mergeK [] kvs).length ≤ sizeLine := by
      refine Nat.le_trans (length_mergeK kvs []) ?_
      rw [List.length_nil, Nat.zero_add, rel.length, hl2]
      exact hz
    exact ⟨.ref s.heap.objs.size, upd H s.heap.objs.size (.dK (mergeK [] kvs)), I.laid (t' := tk) k (Nat.le_refl _) (show ObjOk X.prog X.w _ _ _ (.dK (mergeK [] kvs)) from ⟨hlen, hm, merged [] prs, KV.merge rel .nil, hd'⟩), rfl, q _ (I.hok.fresh (Nat.le_refl _))⟩
/-- d.update(e) of two dicts -/
def rUpdD : V → List V → Hp → VK → Prop := fun x xs H Q => ∃ d o kvs more, x = .ref d ∧ xs = [.ref o] ∧ H d = some (.dK kvs) ∧ Rd H o (.dK more) ∧ d ≠ o ∧ kvs.length + more.length ≤ sizeLine ∧ Q .non (upd H d (.dK (mergeK kvs more)))
theorem mt_updD : MtR X "dict.update" rUpdD := by
  intro pins s σ H x xs v us Q I rx rs q
  obtain ⟨d, o, kvs, more, rfl, rfl, hd, ho, hne, hsz, q⟩ := q
  obtain ⟨u, rfl, ru⟩ := vals1 rs
  cases rx
  cases ru
  obtain ⟨z1, lo1, vs1, rel1, dd1⟩ := dk_of I.hok hd
  obtain ⟨z2, lo2, vs2, rel2, dd2⟩ := dk_rd I.hok ho
  refine call_meetsIn PySem.F.slot_dict_update dd1.typeIs PySem.F.entry_dict_update (PySem.F.args_dict_update_2 _ _) (meets_dict_update (mixKind X.prog X.w) d o hne lo2)
    ⟨vs1, vs2, dd1, dd2, by rw [← rel1.length, ← rel2.length]; exact hsz, fun h' hd' ho' hs => ?_⟩
  have he : ∃ q, h'.get? d = some q := let ⟨q, _, _, hq, _⟩ := hd'; ⟨q, hq⟩
  have hl : (mergeK kvs more).length ≤ sizeLine := by have := length_mergeK more kvs; omega
  exact ⟨.non, _, d_write I (by rw [hd]; exact True.intro) hs he (dk_new hl lo1 (KV.merge rel2 rel1) hd'), rfl, q⟩
end
end L2

namespace Sx
open PySem L2
def opDictT : COp := c1 fun μ a => match rdT a with
  | some ds => (pairsD ds).map fun kvs => .new (.dic (mergeD kvs))
  | none => none
theorem kDictT {X : Cx} (hc : X.calm = true) : CalR X (.type "dict") opDictT := ⟨_, call_dictT hc, fun Z G α H μ vs as res Q E S rs e w => by
  have e0 := c1_some e
  clear e
  obtain ⟨a, rfl, e⟩ := e0
  obtain ⟨x, rfl, r⟩ := vs1 rs
  split at e
  · rename_i ds h
    obtain ⟨kvs, h2, rfl⟩ := Option.map_eq_some_iff.mp e
    obtain ⟨p, xs, rfl, e2, e3⟩ := rdT_ok r h
    obtain ⟨ps, ws, rfl, pp, rk⟩ := pairs_rp (K := X.K) h2 e3
    exact ⟨p, ps, ws, rfl, e2, pp, fun l hl => w.dic S (rpK_fold rk .nil) hl⟩
  · cases e⟩
def opDictD : COp := c1 fun μ a => (rdD μ a).map fun kvs => .new (.dic kvs)
theorem kDictD {X : Cx} : CalR X (.type "dict") opDictD := ⟨_, call_dictD, fun Z G α H μ vs as res Q E S rs e w => by
  have e0 := c1_some e
  clear e
  obtain ⟨a, rfl, e⟩ := e0
  obtain ⟨x, rfl, r⟩ := vs1 rs
  obtain ⟨kvs, h, rfl⟩ := Option.map_eq_some_iff.mp e
  obtain ⟨p, xs, rfl, e2, e3⟩ := rdD_ok S r h
  exact ⟨p, xs, rfl, e2, fun l hl => w.dic S e3 hl⟩⟩
def opDictA : COp := fun μ as => ((opDictL μ as).or (opDictT μ as)).or (opDictD μ as)
theorem kDictA {X : Cx} (hc : X.calm = true) : CalR X (.type "dict") opDictA := ((kDictL hc).or (kDictT hc)).or kDictD
/-! ### methods of dict cells -/
def sMetD (op : MOp) (fx : SE) (fs : List SE) : SE := fun ρ μ => opd (fx ρ μ) fun x μ1 => match x with
  | .dat _ => .stuck
  | .loc k => match μ1[k]? with
    | some (.dic _) => match sArgs fs ρ μ1 with
      | .ok as μ2 => match op μ2 k as with
        | some (res, μ3) => .ok res μ3
        | none => .stuck
      | .exc x μ2 => .exc x μ2
      | .stuck => .stuck
    | _ => .stuck
def opUpd : MOp := fun μ k as => match μ[k]?, as with
  | some (.dic kvs), [.dat (.dic more)] => if kvs.length + more.length ≤ sizeLine then some (.dat .non, μ.set k (.dic (more.foldl (fun acc kv => dPut acc kv.1 kv.2) kvs))) else none
  | _, _ => none
theorem mc_upd : MtC rUpdD opUpd := by
  intro Z G α H μ x vs k as res μ' Q E S rx rs e w
  unfold opUpd at e
  split at e
  · rename_i kvs more hm
    split at e
    · rename_i hl
      cases e
      obtain ⟨p, rfl, ⟨xs, h1, h2⟩, hk⟩ := loc_at S rx hm
      obtain ⟨y, rfl, ry⟩ := vs1 rs
      have ry : Rp H (off G α) y (.dic more) := ry
      cases ry with
      | dic r n l =>
        rename_i b ys
        have ne : p ≠ b := fun z => n (by subst z; exact .inr (List.mem_of_getElem? hk))
        obtain ⟨P, S'⟩ := cell_write (o := .dK (mergeK xs ys)) (c := .dic (more.foldl (fun acc kv => dPut acc kv.1 kv.2) kvs)) S hk fun kp => ⟨_, upd_same, rpK_fold (l.mono kp) (h2.mono kp)⟩
        exact ⟨p, b, xs, ys, rfl, rfl, h1, r, ne, by rw [rpK_len h2, rpK_len l]; exact hl, w .non _ α P S' .non⟩
    · cases e
  · cases e
section
variable {X : Cx} {Z : Wd} {W : WX} {o e : Expr} {es : List Expr} {fx : SE} {fs : List SE} {apos cpos : Pos} {T id : String} {name : Str} {r : V → List V → Hp → VK → Prop} {op : MOp}
theorem t_metD (hc : MtC r op) : ∀ σ H Q, tD Z W (sMetD op fx fs) σ H Q → (tD Z W fx) σ H fun x H1 => tyV X.K "dict" x H1 ∧ (tA Z W (sArgs fs)) σ H1 fun xs H2 => r x xs H2 Q := by
  rintro σ H Q ⟨G, α, ρ, μ, S, E, w⟩
  refine ⟨G, α, ρ, μ, S, E, wE.opd w fun x H1 α1 μ1 v p1 S1 r1 w1 => ?_⟩
  cases v with
  | dat d => exact w1.elim
  | loc k =>
    cases hk : μ1[k]? with
    | none => simp only [hk] at w1; exact w1.elim
    | some c =>
      cases c with
      | lst _ => simp only [hk] at w1; exact w1.elim
      | dct _ => simp only [hk] at w1; exact w1.elim
      | dic ds =>
        simp only [hk] at w1
        obtain ⟨p, rfl, ⟨xs, h1, h2⟩, hk'⟩ := loc_at S1 r1 hk
        refine ⟨.inr (.inr (.inl ⟨rfl, .inl ⟨_, h1⟩⟩)), G, α1, ρ, μ1, S1, E.post p1, ?_⟩
        cases h : sArgs fs ρ μ1 with
        | stuck => simp only [h] at w1; exact w1.elim
        | exc x μ2 => simp only [h] at w1; exact w1
        | ok as μ2 =>
          simp only [h] at w1
          intro vs H2 α2 p2 S2 r2
          cases q : op μ2 k as with
          | none => simp only [q] at w1; exact w1.elim
          | some res =>
            obtain ⟨res, μ3⟩ := res
            simp only [q] at w1
            exact hc Z G α2 H2 μ2 _ vs k as res μ3 Q _ S2 (r1.post p2) r2 q (wE.post p2 w1)
theorem d_update (ho : PE X o (tD Z W fx)) (ha : PA X [e] (tA Z W (sArgs fs)))
    (hbase : attributeBase o "update" X.env (eval o X.env) = eval o X.env := by rfl)
    (hfew : ((backTo cpos (starEach [e] X.env)).all (fun x => !x.1) && (backToKw cpos (keywordEach [] X.env)).all (fun x => x.1.isSome)
      && decide ([e].length + ([] : List Keyword).length + (if ([] : List Keyword).isEmpty then 0 else 1) < 30)) = true := by rfl)
    (hline : (apos.endLine == cpos.line) = true := by rfl) (hs : starEach [e] X.env = (false, eval e X.env) :: starEach [] X.env := by rfl) (hplain : (backTo cpos (starEach [] X.env)).any (·.1) = false := by rfl) :
    PE X (.Call (.Attribute o "update" apos) [e] [] cpos) (tD Z W (sMetD opUpd fx fs)) :=
  PEimp (pe_bm PySem.F.plainAttrs_dict PySem.F.slot_dict_update PySem.F.type_dict_update mt_updD ho ha hbase hfew hline hs hplain) (t_metD mc_upd)
end
end Sx

/-! SxStar: a, b, *rest = x. -/
namespace L2
open PySem PySem.Spec PyProof.Rows
section
variable {prog : Program} {w : World} {A : Around} {E : Value → Shared → Prop} {s : Shared}
theorem walks_shift {I : Addr} {fp wr : List Addr} {n : Nat} {P : Nat → Value → Prop} {St : Nat → Heap → Prop} (W : PySem.Walks prog w A I fp wr n P St) (m : Nat) (hm : m ≤ n) : PySem.Walks prog w A I fp wr (n - m) (fun i => P (m + i)) (fun i => St (m + i)) where
  sub := W.sub
  frame := fun i => W.frame (m + i)
  item := fun i s Q E hi st hQ => W.item (m + i) s Q E (by omega) st fun v h' tk p st' k => hQ v h' tk p (by rw [show m + (i + 1) = m + i + 1 by omega]; exact st') k
  done := fun s Q E st hQ => W.done s Q E (by rw [show m + (n - m) = n by omega] at st; exact st) hQ
  self := fun i => W.self (m + i)
theorem draw_walks {I : Addr} {fp wr : List Addr} {n : Nat} {P : Nat → Value → Prop} {St : Nat → Heap → Prop} (W : PySem.Walks prog w A I fp wr n P St) : ∀ (m i : Nat) (s : Shared) (Q : List Value → Shared → Prop), St i s.heap → i + m ≤ n →
    (∀ vs h' tk, vs.length = m → (∀ j v, vs[j]? = some v → P (i + j) v) → St (i + m) h' → (∀ b o, b ∉ wr → s.heap.get? b = some o → h'.get? b = some o) → Q vs { s with heap := h', toks := tk }) → wpAny (model prog w) A (draw (.ref I) m) Q E s
  | 0, i, s, Q, st, _, hQ => by
    show wpAny _ _ (pure []) Q E s
    exact wpAny_pure (hQ [] s.heap s.toks rfl (fun j v e => by simp at e) st fun b o _ e => e)
  | m + 1, i, s, Q, st, hle, hQ => by
    show wpAny _ _ (pyNext (.ref I) >>= _) Q E s
    refine wpAny_bind (W.item i s _ _ (by omega) st fun v h' tk p st' k => ?_)
    refine wpAny_bind (wpAny_holding (draw_walks W m (i + 1) _ _ st' (by omega) fun vs h2 tk2 hl hp st2 k2 => wpAny_pure ?_))
    refine hQ (v :: vs) h2 tk2 (by simp [hl]) (fun j u e => ?_) (by rw [show i + (m + 1) = i + 1 + m by omega]; exact st2) fun b o hb e => k2 b o hb (k b o hb e)
    cases j with
    | zero => cases e; exact p
    | succ j => have := hp j u (by simpa using e); rw [show i + (j + 1) = i + 1 + j by omega]; exact this
theorem walksK (hh : A.handled = none) : ∀ (k : Bool) (it l : Addr) (hne : l ≠ it) (items : Array Value),
    PySem.Walks prog w A it [it, l] [it] items.size (fun i v => items[i]? = some v) (fun i h => ItK h k it l i ∧ SeK h k l items)
  | true, it, l, hne, items => PySem.Walks.tuple hh it l hne items
  | false, it, l, hne, items => PySem.Walks.list hh it l hne items
theorem notIterK {k : Bool} {l : Addr} {items : Array Value} {Q : Bool → Shared → Prop} (h : SeK s.heap k l items) (q : Q false s) : wpAny (model prog w) A (notIterableAtAll (.ref l)) Q E s := by
  unfold notIterableAtAll
  cases k with
  | true => exact wpAny_bind (wpAny_specialOf (Heap.IsTuple.typeIs h) PyProof.Rows.slot_tuple_iter.lookup (wpAny_pure q))
  | false => exact wpAny_bind (wpAny_specialOf (Heap.IsList.typeIs h) PySem.F.slot_list_iter.lookup (wpAny_pure q))
theorem itK_ty {h : Heap} {k : Bool} {it l : Addr} {i : Nat} {s : Shared} (e : s.heap = h) (x : ItK h k it l i) : s.TypeIs (.ref it) (if k = true then "tuple_iterator" else "list_iterator") := by
  subst e
  cases k with
  | true => obtain ⟨o, e, c, _⟩ := x; exact ⟨o, e, c⟩
  | false => obtain ⟨o, e, c, _⟩ := x; exact ⟨o, e, c⟩
/-- n items ahead of a starred name, which is the last -/
theorem unpack_star {k : Bool} {l : Addr} {items : Array Value} {n : Nat} {Q : List Value → Shared → Prop} (hh : A.handled = none) (h : SeK s.heap k l items) (hl : l < s.heap.objs.size) (hz : items.size ≤ sizeLine) (hn : n ≤ items.size)
    (hQ : ∀ (h' : Heap) (tk : Nat), (∀ b o, s.heap.get? b = some o → h'.get? b = some o) →
      Q (items.toList.take n ++ [.ref h'.objs.size]) { s with heap := h'.push { cls := .type "list", data := .seq (items.toList.drop n).toArray }, toks := tk }) :
    wpAny (model prog w) A (unpackItems (.ref l) (n + 1) (some n)) Q E s := by
  unfold unpackItems
  refine wpAny_bind (notIterK h ?_)
  simp only [Bool.false_eq_true, if_false]
  refine wpAny_bind (wpAny_holding ((beginsK k l items).iter prog w _ _ s _ h ?_))
  have I0 : (s.heap.push (obK k l)).get? s.heap.objs.size = some (obK k l) := Heap.get?_push_size _ (beginsK k l items).free
  have k0 : ∀ b o, s.heap.get? b = some o → (s.heap.push (obK k l)).get? b = some o := fun b o e => Heap.get?_push_of_some _ e
  have st0 : ItK (s.heap.push (obK k l)) k s.heap.objs.size l 0 ∧ SeK (s.heap.push (obK k l)) k l items := ⟨itK_of I0, (beginsK k l items).keeps _ _ h k0⟩
  have W := walksK (prog := prog) (w := w) (A := A) hh k s.heap.objs.size l (Nat.ne_of_lt hl) items
  show wpAny (model prog w) A (holding [Value.ref s.heap.objs.size] (draw (.ref s.heap.objs.size) n) >>= _) Q E _
  refine wpAny_bind (wpAny_holding (draw_walks W n 0 _ _ st0 (by omega) fun vs h1 tk1 vl vp st1 k1 => ?_))
  rw [if_neg (by omega)]
  have W2 := walks_shift (walksK (prog := prog) (w := w) (A := A.in1) hh k s.heap.objs.size l (Nat.ne_of_lt hl) items) n hn
  have lt1 : s.heap.objs.size < h1.objs.size := by obtain ⟨o, e, _⟩ := itK_obj st1.1; exact Heap.lt_size e
  have lt2 : l < h1.objs.size := Nat.lt_trans hl lt1
  refine wpAny_bind (wpAny_holding (wpAny_collect_iter (T := if k = true then "tuple_iterator" else "list_iterator") (by cases k <;> simp) W2.toS (fun i s' st => itK_ty rfl st.1) (by simpa using st1) (fun b hb => ?_) (by simp) (fun s' acc mv io => ?_) (by omega)))
  · rcases List.mem_cons.mp hb with rfl | hb
    · exact lt1
    · rw [List.mem_singleton.mp hb]; exact lt2
  have vs_eq : vs = items.toList.take n := by
    refine List.ext_getElem? fun j => ?_
    by_cases hj : j < n
    · have hj2 : j < vs.length := by omega
      have p := vp j vs[j] (List.getElem?_eq_getElem hj2)
      rw [List.getElem?_eq_getElem hj2, List.getElem?_take_of_lt hj, ← p]
      simp
    · rw [List.getElem?_eq_none (by omega), List.getElem?_eq_none (by simp; omega)]
  have acc_eq : acc.toList = items.toList.drop n := by
    obtain ⟨e1, e2⟩ := io
    refine List.ext_getElem? fun j => ?_
    rw [List.getElem?_drop]
    by_cases hj : j < items.size - n
    · have hj2 : j < acc.size := by omega
      have p := e2 j acc[j] (by simp [hj2])
      simp only [Array.getElem?_toList]
      rw [p]
      simp [hj2]
    · rw [List.getElem?_eq_none (by simp; omega), List.getElem?_eq_none (by simp; omega)]
  subst vs_eq
  rw [acc_eq]
  have after : n + 1 - 1 - n = 0 := by omega
  simp only [after, Nat.not_lt_zero, if_false, Nat.sub_zero, List.take_length, List.drop_length, List.append_nil]
  refine wpAny_bind (wpAny_newObj_type ?_ (show (List.drop n items.toList).toArray.size ≤ sizeLine by simp; omega))
  refine wpAny_pure ?_
  obtain ⟨hp', g', d', tk', os'⟩ := s'
  have m1 := mv.heap
  have m2 : g' = s.gens := mv.gens
  have m3 : d' = s.drawn := mv.drawn
  have m4 : os' = s.os := mv.os
  subst m2 m3 m4
  exact hQ hp' tk' fun b o e =>
    have hb : b ≠ s.heap.objs.size := Nat.ne_of_lt (Heap.lt_size e)
    m1 b o (fun z => hb (List.mem_singleton.mp z)) (k1 b o (fun z => hb (List.mem_singleton.mp z)) (k0 b o e))
end
/-- (a, b, .., *r) = x -/
def gStar (K : PySem.W.Frag) (n : Nat) (t : TGs) : TG := fun v σ H Q => ∃ k a xs, v = .ref a ∧ SqK K H k a xs ∧ n ≤ xs.length ∧ ∀ p, H p = none → t (xs.take n ++ [.ref p]) σ (upd H p (.lst (xs.drop n))) Q
section
variable {X : Cx} {pos : Pos}
theorem pg_star {es : List Expr} {kk : Nat} {t : TGs} {n : Nat} (hc : X.calm = true) (h : PGs X es t)
    (hn : (assignEach es X.env).length = n + 1 := by rfl) (hst : (assignEach es X.env).findIdx? (·.1) = some n := by rfl) : PG X (.Tuple es kk pos) (gStar X.K n t) := by
  refine ⟨fun pins s σ H v u Q I r hw => ?_⟩
  obtain ⟨k, a, xs, e1, hq, hl, hw⟩ := hw
  subst e1
  cases r
  obtain ⟨its, rv, ht, la⟩ := sqK_get I hq
  have hz : xs.length ≤ sizeLine := by
    cases k with
    | true => obtain ⟨_, _, _, z⟩ := I.tuple hq; exact z
    | false => obtain ⟨_, _, _, z⟩ := I.list hq; exact z
  have hlen := rv.length
  rw [assign_Tuple]
  refine wpAny_bind (wpAny_standAt ?_)
  unfold unpack
  rw [hn, hst]
  refine wpAny_bind (wpAny_holding (unpack_star (I.ok.hd hc) ht la (by simp; omega) (by simp; omega) fun h' tk k => ?_))
  have I1 : Inv X pins σ H { s with heap := h', toks := tk } := I.kept (t' := tk) k
  have hp : H h'.objs.size = none := I1.hok.fresh (Nat.le_refl _)
  have hd : (xs.drop n).length ≤ sizeLine := by rw [List.length_drop]; omega
  have I2 : Inv X pins σ (upd H h'.objs.size (.lst (xs.drop n))) { s with heap := h'.push { cls := .type "list", data := .seq (its.drop n).toArray }, toks := tk } :=
    I1.laid (t' := tk) (fun b o e => Heap.get?_push_of_some _ e) (Nat.le_refl _) (show ObjOk X.prog X.w _ _ _ (.lst (xs.drop n)) from ⟨hd, its.drop n, 0, rv.drop n, Heap.get?_push_size _ rfl⟩)
  exact h.run pins _ σ _ (xs.take n ++ [.ref h'.objs.size]) (its.take n ++ [.ref h'.objs.size]) Q I2 ((rv.take n).append (.cons (show RelV (.ref h'.objs.size) (.ref h'.objs.size) from rfl) .nil)) (hw _ hp)
theorem pgs_star {e : Expr} {t : TG} {p : Pos} (h1 : PG X e t) (hs : (assignEach [.Starred e p] X.env).map (·.2) = [assign e X.env] := by rfl) : PGs X [.Starred e p] (gCons t gNil) := by
  refine ⟨fun pins s σ H vs us Q I r h => ?_⟩
  obtain ⟨v, vr, e1, h⟩ := h
  subst e1
  cases r with
  | cons r rr =>
    rw [hs]
    show wpAny _ _ (holding _ (assign e X.env _) >>= _) _ _ _
    refine wpAny_bind (wpAny_holding (thn (h1.run pins s σ H v _ _ I r h) fun _ s' ⟨σ', H', I', e2, q⟩ => ?_))
    subst e2
    cases rr
    exact wpAny_pure ⟨σ', H', I', q⟩
end
end L2
namespace Sx
open PySem L2
/-- a list or a tuple, data -/
def seqV : Val → Option (List D)
  | .dat d => (seqD d).map (·.2)
  | _ => none
def sStar (n : Nat) (gs : List D → Env → Option Env) (f : SE) : SS := fun ρ μ => eS (f ρ μ) ρ fun v μ1 => match seqV v with
  | some ds => if n ≤ ds.length then match gs (ds.take n ++ [.lst (ds.drop n)]) ρ with
    | some ρ1 => .next ρ1 μ1
    | none => .stuck
    else .stuck
  | none => .stuck
theorem gks_star {t : TG} {g : SG} {vs : List Nat} (h : GOk t g vs) : GsOk (gCons t gNil) (gsCons g gsNil) vs := gks_cons h gks_nil
theorem s_star {X : Cx} {Z : Wd} {W : WX} {es : List Expr} {e : Expr} {kk n : Nat} {tpos pos : Pos} {f : SE} {t : TGs} {gs : List D → Env → Option Env} {vs : List Nat} (hc : X.calm = true) (he : PE X e (tD Z W f)) (hg : PGs X es t) (hG : GsOk t gs vs)
    (hn : (assignEach es X.env).length = n + 1 := by rfl) (hst : (assignEach es X.env).findIdx? (·.1) = some n := by rfl) (hs : swapsWithSole [.Tuple es kk tpos] e pos.line X.env = pure false := by rfl)
    (hw : swappedStores [.Tuple es kk tpos] e X.env = pure none := by rfl) (h1 : (assignEach [.Tuple es kk tpos] X.env).map (·.2) = [assign (.Tuple es kk tpos) X.env] := by rfl) : PS X (.Assign [.Tuple es kk tpos] e pos) (tS Z W (sStar n gs f)) := by
  refine PSimp (ps_asg he (pg_star hc hg hn hst) hs hw h1) ?_
  rintro D σ H ⟨G, α, ρ, μ, S, E, w⟩
  refine ⟨G, α, ρ, μ, S, E, wS.eS E w fun v H1 α1 μ1 val p s r w1 => ?_⟩
  cases val with
  | loc k => exact w1.elim
  | dat d =>
    simp only [seqV] at w1
    cases q : seqD d with
    | none => simp only [q] at w1; exact w1.elim
    | some kd =>
      obtain ⟨k, ds⟩ := kd
      simp only [q, Option.map_some] at w1
      by_cases hl : n ≤ ds.length
      · rw [if_pos hl] at w1
        cases q2 : gs (ds.take n ++ [.lst (ds.drop n)]) ρ with
        | none => simp only [q2] at w1; exact w1.elim
        | some ρ1 =>
          simp only [q2] at w1
          obtain ⟨a, xs, rfl, hx, lx, _, _⟩ := src_ok (K := X.K) r q
          refine ⟨k, a, xs, rfl, hx, by rw [lx.length]; exact hl, fun p' hp => ?_⟩
          have P : Post α1 H1 α1 (upd H1 p' (.lst (xs.drop n))) := Post.alloc hp
          have S2 : RepS Z G α1 (upd H1 p' (.lst (xs.drop n))) μ1 := s.alloc hp
          have rl : RpL (upd H1 p' (.lst (xs.drop n))) (off G α1) (xs.take n ++ [.ref p']) (ds.take n ++ [.lst (ds.drop n)]) :=
            ((lx.take n).post P).append (.cons (.lst upd_same (s.noff hp) ((lx.drop n).post P)) .nil)
          exact hG Z G α1 _ μ1 σ ρ _ _ ρ1 _ S2 ((E.post p).post P) rl q2 fun σ' E' _ => w1 σ' _ α1 P S2 E'
      · rw [if_neg hl] at w1
        exact w1.elim
end Sx

/-! SxMax3: max of three numbers. -/
namespace L2
open PySem PySem.Spec PyProof.Rows
theorem call_max3 {X : Cx} (hc : X.calm = true) : CallR X (.builtin "max") (fun xs H Q => ∃ i j k, xs = [.int i, .int j, .int k] ∧ Q (.int (max (max i j) k)) H) := by
  intro pins s σ H xs us Q I r h
  obtain ⟨i, j, k, rfl, q⟩ := h
  cases r with
  | cons r1 t1 => cases t1 with
    | cons r2 t2 => cases t2 with
      | cons r3 t3 =>
        cases t3
        obtain ⟨t, rfl⟩ := r1
        obtain ⟨t', rfl⟩ := r2
        obtain ⟨t'', rfl⟩ := r3
        refine max_three_ints (I.ok.hd hc) fun h' tk kp => ⟨_, H, I.kept kp, ?_, q⟩
        by_cases h1 : j > i
        · by_cases h2 : k > j
          · rw [if_pos h1, if_pos h2]; exact ⟨_, by congr 1; omega⟩
          · rw [if_pos h1, if_neg h2]; exact ⟨_, by congr 1; omega⟩
        · by_cases h2 : k > i
          · rw [if_neg h1, if_pos h2]; exact ⟨_, by congr 1; omega⟩
          · rw [if_neg h1, if_neg h2]; exact ⟨_, by congr 1; omega⟩
end L2
namespace Sx
open PySem L2
def opMax3 : COp := c3 fun _ a b c => match a, b, c with
  | .dat (.int i), .dat (.int j), .dat (.int k) => some (.dat (.int (max (max i j) k)))
  | _, _, _ => none
theorem kMax3 {X : Cx} (hc : X.calm = true) : CalR X (.builtin "max") opMax3 := ⟨_, call_max3 hc, fun Z G α H μ vs as res Q E S rs e w => by
    have e0 := c3_some e
    clear e
    obtain ⟨a, b, c, rfl, e⟩ := e0
    obtain ⟨x, y, z, rfl, r, q, u⟩ := vs3 rs
    split at e
    · cases e
      rw [inv_ii r, inv_ii q, inv_ii u]
      exact ⟨_, _, _, rfl, w.pure S (.int _)⟩
    · cases e⟩
end Sx

/-! what the defs of the program and of the laws do (printed by gen.py) -/
namespace Sx
open PySem L2
def g__law_bag : SS := sSeq (sSet 2 (sC (.int 0)))
  (sSeq (sIfS (sBin opLt (sVar 1) (sCall opLen [sVar 0]))
  (sSet 2 (sBin opMod (sBin opIx (sVar 0) (sVar 1)) (sBin opPow (sC (.int 10)) (sC (.int 60)))))
  (sNext))
  (sSeq (sSet 3 (sBin opAdd (sC (.int 1)) (sBin opMod (sBin opAdd (sBin opAdd (sBin opAdd (sBin opMul (sBin opMod (sVar 2) (sC (.int 2147483629))) (sC (.int 16807))) (sBin opMul (sBin opMul (sC (.int 40009)) (sVar 1)) (sVar 1))) (sBin opMul (sC (.int 7919)) (sVar 1))) (sC (.int 1009))) (sC (.int 2147483645)))))
  (sSeq (sIfS (sBin opLt (sVar 2) (sBin opPow (sC (.int 10)) (sC (.int 18))))
  (sRet (sLst [sC (.int 0), sVar 3]))
  (sNext))
  (sRet (sLst [sVar 2, sVar 3])))))
def f__law_bag : FD := fnS 4 [false, false] true g__law_bag
def b__law_line_of_1 (ρ : Env) (μ : Sto) : SOut := (sIfS (sAnd (sBin opNe (sVar 1) (sLst [])) (sAnd (sBin opEq (sBin opIx (sBin opIx (sVar 1) (sNeg (sC (.int 1)))) (sC (.int 1))) (sVar 2)) (sBin opEq (sBin opIx (sBin opIx (sVar 1) (sNeg (sC (.int 1)))) (sC (.int 2))) (sBin opIx (sVar 0) (sVar 2)))))
  (sSub (sVar 1) (sNeg (sC (.int 1))) (sTup [sBin opIx (sBin opIx (sVar 1) (sNeg (sC (.int 1)))) (sC (.int 0)), sBin opAdd (sVar 2) (sC (.int 1)), sBin opIx (sVar 0) (sVar 2)]))
  (sDrop (sMetL opAppend (sVar 1) [sTup [sVar 2, sBin opAdd (sVar 2) (sC (.int 1)), sBin opIx (sVar 0) (sVar 2)]]))) ρ μ
def g__law_line_of : SS := sSeq (sSetC 1 (sLst []))
  (sSeq (sFor (sIt (sCall opSortI [sVar 0])) (gN 2)
  (b__law_line_of_1))
  (sRet (sCall opTuple [sVar 1])))
def f__law_line_of : FD := fnS 3 [false] false g__law_line_of
def b__law_spread_2 (ρ : Env) (μ : Sto) : SOut := (sSub (sVar 1) (sVar 5) (sBin opAdd (sGet2 (sVar 1) (sVar 5) (sC (.int 0))) (sVar 4))) ρ μ
def b__law_spread_1 (ρ : Env) (μ : Sto) : SOut := (sFor (argI (k2I rng2) [sVar 2, sVar 3]) (gN 5)
  (b__law_spread_2)) ρ μ
def g__law_spread : SS := sSeq (sSetC 1 (sNewK))
  (sSeq (sFor (sIt (sVar 0)) (gT 3 (gsCons (gN 2) (gsCons (gN 3) (gsCons (gN 4) (gsNil)))))
  (b__law_spread_1))
  (sRet (sVar 1)))
def f__law_spread : FD := fnS 6 [false] true g__law_spread
def g__law_take : SS := sSeq (sIfS (sBin opGt (sBin opIx (sVar 0) (sC (.int 0))) (sC (.int 0)))
  (sSeq (sSet 2 (sBin opMod (sBin opIx (sVar 0) (sC (.int 0))) (sVar 1)))
  (sSeq (sSub (sVar 0) (sC (.int 0)) (sBin opDiv (sBin opIx (sVar 0) (sC (.int 0))) (sVar 1)))
  (sRet (sVar 2))))
  (sNext))
  (sSeq (sSub (sVar 0) (sC (.int 1)) (sBin opMod (sBin opMul (sBin opIx (sVar 0) (sC (.int 1))) (sC (.int 48271))) (sC (.int 2147483647))))
  (sRet (sBin opMod (sBin opDiv (sBin opMod (sBin opMul (sBin opDiv (sBin opIx (sVar 0) (sC (.int 1))) (sC (.int 13))) (sBin opAdd (sBin opMod (sBin opIx (sVar 0) (sC (.int 1))) (sC (.int 32749))) (sC (.int 17)))) (sC (.int 2147483629))) (sC (.int 32))) (sVar 1))))
def f__law_take : FD := fnS 3 [true, false] false g__law_take
def g__law_of : SS := sRet (sBin opIx (sVar 1) (sCallF [true, false] f__law_take [sVar 0, sCall opLen [sVar 1]]))
def f__law_of : FD := fnS 2 [true, false] false g__law_of
def g__law_row : SS := sSeq (sSet 2 (sCall opMax2 [sC (.int 0), sCall opMin2 [sC (.int 2399), sBin opAdd (sVar 1) (sCallF [true, false] f__law_take [sVar 0, sC (.int 400)])]]))
  (sSeq (sSet 3 (sCallF [true, false] f__law_of [sVar 0, sLst [sC (.int 1), sC (.int 12), sC (.int 40), sC (.int 120), sBin opAdd (sC (.int 1)) (sCallF [true, false] f__law_take [sVar 0, sC (.int 300)])]]))
  (sSeq (sSet 4 (sCallF [true, false] f__law_of [sVar 0, sLst [sC (.int 0), sC (.int 1000), sC (.int 1000), sC (.int 2500), sC (.int 2501), sCallF [true, false] f__law_take [sVar 0, sBin opPow (sC (.int 10)) (sC (.int 5))], sBin opPow (sC (.int 10)) (sC (.int 6))]]))
  (sRet (sTup [sVar 2, sCall opMin2 [sC (.int 2400), sBin opAdd (sVar 2) (sVar 3)], sVar 4]))))
def f__law_row : FD := fnS 5 [true, false] false g__law_row
def g__law_drawn_rows : SS := sSeq (sSet 2 (sCallF [true, false] f__law_of [sVar 0, sLst [sC (.int 900), sC (.int 900), sC (.int 1000), sC (.int 0), sC (.int 2200)]]))
  (sRet (sComp (argI (k1I rng1) [sCallF [true, false] f__law_take [sVar 0, sBin opAdd (sVar 1) (sC (.int 1))]]) (gN 3) none (sCallF [true, false] f__law_row [sVar 0, sVar 2]) [3]))
def f__law_drawn_rows : FD := fnS 4 [true, false] false g__law_drawn_rows
def g__law_drawn_line : SS := sRet (sCallF [false] f__law_line_of [sCallF [false] f__law_spread [sCallF [true, false] f__law_drawn_rows [sVar 0, sVar 1]]])
def f__law_drawn_line : FD := fnS 2 [true, false] false g__law_drawn_line
def g_is_from : SS := sRet (sAnd (sIsi .int (sVar 0)) (sAnd (sNot (sIsi .bool (sVar 0))) (sChain opLe opLe (sVar 1) (sVar 0) (sVar 2))))
def f_is_from : FD := fnS 3 [false, false, false] false g_is_from
def g_is_month : SS := sRet (sCallF [false, false, false] f_is_from [sVar 0, sC (.int 0), sC (.int 2399)])
def f_is_month : FD := fnS 1 [false] false g_is_month
def g_is_spell : SS := sSeq (sIfS (sOr (sNot (sIsi .tuple (sVar 0))) (sOr (sBin opNe (sCall opLen [sVar 0]) (sC (.int 2))) (sNot (sTru (sCallF [false] f_is_month [sBin opIx (sVar 0) (sC (.int 0))])))))
  (sRet (sC (.bl false)))
  (sNext))
  (sRet (sCallF [false, false, false] f_is_from [sBin opIx (sVar 0) (sC (.int 1)), sBin opAdd (sBin opIx (sVar 0) (sC (.int 0))) (sC (.int 1)), sBin opAdd (sC (.int 2399)) (sC (.int 1))]))
def f_is_spell : FD := fnS 1 [false] false g_is_spell
def g_is_row : SS := sRet (sAnd (sIsi .tuple (sVar 0)) (sAnd (sBin opEq (sCall opLen [sVar 0]) (sC (.int 3))) (sAnd (sCallF [false] f_is_spell [sSl (sVar 0) (none) (some (sC (.int 2)))]) (sCallF [false, false, false] f_is_from [sBin opIx (sVar 0) (sC (.int 2)), sC (.int 0), sC (.int 1000000000)]))))
def f_is_row : FD := fnS 1 [false] false g_is_row
def b_is_line_1 (ρ : Env) (μ : Sto) : SOut := (sIfS (sOr (sBin opGt (sBin opIx (sVar 1) (sC (.int 1))) (sBin opIx (sVar 2) (sC (.int 0)))) (sAnd (sBin opEq (sBin opIx (sVar 1) (sC (.int 1))) (sBin opIx (sVar 2) (sC (.int 0)))) (sBin opEq (sBin opIx (sVar 1) (sC (.int 2))) (sBin opIx (sVar 2) (sC (.int 2))))))
  (sRet (sC (.bl false)))
  (sNext)) ρ μ
def g_is_line : SS := sSeq (sIfS (sOr (sNot (sIsi .tuple (sVar 0))) (sOr (sBin opGt (sCall opLen [sVar 0]) (sC (.int 60))) (sNot (sCall opAll [sComp (sIt (sVar 0)) (gN 1) none (sCallF [false] f_is_row [sVar 1]) [1]]))))
  (sRet (sC (.bl false)))
  (sNext))
  (sSeq (sFor (argI (k2I zipL) [sVar 0, sSl (sVar 0) (some (sC (.int 1))) (none)]) (gT 2 (gsCons (gN 1) (gsCons (gN 2) (gsNil))))
  (b_is_line_1))
  (sRet (sC (.bl true))))
def f_is_line : FD := fnS 3 [false] false g_is_line
def g__law_odd : SS := sSeq (sSet 1 (sLst [sC .non, sC (.bl true), sC (.bl false), sC (.int 0), sC (.int 1), sNeg (sC (.int 1)), sC (.int 2399), sC (.int 2400), sC (.int 2401), sBin opPow (sC (.int 10)) (sC (.int 9)), sBin opAdd (sBin opPow (sC (.int 10)) (sC (.int 9))) (sC (.int 1)), sC (.str ""), sC (.str "a"), sC (.str "A"), sC (.str "abcdefghi")]))
  (sSeq (sSet 1 (sBin opAdd (sVar 1) (sLst [sTup [], sLst [], sTup [sC (.int 1)]])))
  (sRet (sCallF [true, false] f__law_of [sVar 0, sBin opAdd (sVar 1) (sLst [sC (.str "a b"), sTup [sC (.int 0), sC (.int 1)], sTup [sC (.int 0), sC (.int 15)], sLst [sLst []], sC (.int 101), sC (.int 121), sC (.int 499), sC (.int 600), sC (.int 601), sC (.int 1201), sC (.int 2001), sBin opPow (sC (.int 10)) (sC (.int 12))])])))
def f__law_odd : FD := fnS 2 [true] false g__law_odd
def g__law_spoilt (F : FD) : SS := sSeq (sIfS (sOr (sNot (sIsi2 .tuple .list (sVar 1))) (sOr (sBin opEq (sCall opLen [sVar 1]) (sC (.int 0))) (sOr (sBin opEq (sVar 2) (sC (.int 0))) (sBin opEq (sCallF [true, false] f__law_take [sVar 0, sC (.int 6)]) (sC (.int 0))))))
  (sRet (sCallF [true] f__law_odd [sVar 0]))
  (sNext))
  (sSeq (sSetC 3 (sCall opList [sVar 1]))
  (sSeq (sSet 4 (sCallF [true, false] f__law_take [sVar 0, sCall opLen [sVar 3]]))
  (sSeq (sSet 5 (sCallF [true, false] f__law_take [sVar 0, sC (.int 8)]))
  (sSeq (sIfS (sBin opEq (sVar 5) (sC (.int 0)))
  (sSetC 3 (sBin opAdd (sSl (sVar 3) (none) (some (sVar 4))) (sSl (sVar 3) (some (sBin opAdd (sVar 4) (sC (.int 1)))) (none))))
  (sIfS (sBin opEq (sVar 5) (sC (.int 1)))
  (sSetC 3 (sBin opAdd (sSl (sVar 3) (none) (some (sBin opAdd (sVar 4) (sC (.int 1))))) (sSl (sVar 3) (some (sVar 4)) (none))))
  (sIfS (sBin opEq (sVar 5) (sC (.int 2)))
  (sRet (sIf (sIsi .tuple (sVar 1)) (sCall opList [sVar 3]) (sCall opTuple [sVar 3])))
  (sIfS (sBin opEq (sVar 5) (sC (.int 3)))
  (sSetC 3 (sBin opAdd (sBin opAdd (sSl (sVar 3) (none) (some (sVar 4))) (sRevA (sSl (sVar 3) (some (sVar 4)) (some (sBin opAdd (sVar 4) (sC (.int 2))))))) (sSl (sVar 3) (some (sBin opAdd (sVar 4) (sC (.int 2)))) (none))))
  (sSub (sVar 3) (sVar 4) (sCallF [true, false, false] F [sVar 0, sBin opIx (sVar 3) (sVar 4), sBin opSub (sVar 2) (sC (.int 1))]))))))
  (sRet (sIf (sIsi .tuple (sVar 1)) (sCall opTuple [sVar 3]) (sVar 3)))))))
def f__law_spoilt : Nat → FD
  | 0 => fun _ _ => .stuck
  | n + 1 => fnS 6 [true, false, false] false (g__law_spoilt (f__law_spoilt n))
def g__law_same : SS := sRet (sAnd (sIsi .bool (sVar 0)) (sBin opEq (sVar 0) (sVar 1)))
def f__law_same : FD := fnS 2 [false, false] false g__law_same
def g__law_from : SS := sRet (sAnd (sIsi .int (sVar 0)) (sAnd (sNot (sIsi .bool (sVar 0))) (sChain opLe opLe (sVar 1) (sVar 0) (sVar 2))))
def f__law_from : FD := fnS 3 [false, false, false] false g__law_from
def b__law_is_line_1 (ρ : Env) (μ : Sto) : SOut := (sSeq (sIfS (sOr (sNot (sIsi .tuple (sVar 2))) (sBin opNe (sCall opLen [sVar 2]) (sC (.int 3))))
  (sRet (sC (.bl false)))
  (sNext))
  (sSeq (sIfS (sBin opNe (sComp (sIt (sVar 2)) (gN 3) (some (sNot (sTru (sCallF [false, false, false] f__law_from [sVar 3, sC (.int 0), sBin opPow (sC (.int 10)) (sC (.int 9))])))) (sVar 3) [3]) (sLst []))
  (sRet (sC (.bl false)))
  (sNext))
  (sSeq (sIfS (sOr (sBin opGe (sBin opIx (sVar 2) (sC (.int 0))) (sBin opIx (sVar 2) (sC (.int 1)))) (sOr (sBin opGt (sBin opIx (sVar 2) (sC (.int 1))) (sC (.int 2400))) (sBin opLt (sBin opIx (sVar 2) (sC (.int 0))) (sBin opIx (sVar 1) (sC (.int 0))))))
  (sRet (sC (.bl false)))
  (sNext))
  (sSeq (sIfS (sAnd (sBin opEq (sBin opIx (sVar 2) (sC (.int 0))) (sBin opIx (sVar 1) (sC (.int 0)))) (sBin opEq (sBin opIx (sVar 2) (sC (.int 2))) (sBin opIx (sVar 1) (sC (.int 1)))))
  (sRet (sC (.bl false)))
  (sNext))
  (sSet 1 (sSl (sVar 2) (some (sC (.int 1))) (none))))))) ρ μ
def g__law_is_line : SS := sSeq (sIfS (sOr (sNot (sIsi .tuple (sVar 0))) (sBin opGt (sCall opLen [sVar 0]) (sC (.int 60))))
  (sRet (sC (.bl false)))
  (sNext))
  (sSeq (sSet 1 (sTup [sNeg (sC (.int 1)), sNeg (sC (.int 1))]))
  (sSeq (sFor (sIt (sVar 0)) (gN 2)
  (b__law_is_line_1))
  (sRet (sC (.bl true)))))
def f__law_is_line : FD := fnS 4 [false] false g__law_is_line
def g__law_is_spell : SS := sSeq (sIfS (sOr (sNot (sIsi .tuple (sVar 0))) (sBin opNe (sCall opLen [sVar 0]) (sC (.int 2))))
  (sRet (sC (.bl false)))
  (sNext))
  (sRet (sAnd (sCallF [false, false, false] f__law_from [sBin opIx (sVar 0) (sC (.int 0)), sC (.int 0), sC (.int 2399)]) (sCallF [false, false, false] f__law_from [sBin opIx (sVar 0) (sC (.int 1)), sBin opAdd (sBin opIx (sVar 0) (sC (.int 0))) (sC (.int 1)), sC (.int 2400)])))
def f__law_is_spell : FD := fnS 1 [false] false g__law_is_spell
def b_law_k01_2 (ρ : Env) (μ : Sto) : SOut := (sSeq (sIfS (sNot (sTru (sCallF [false, false] f__law_same [sCallF [false] f_is_line [sVar 4], sCallF [false] f__law_is_line [sVar 4]])))
  (sRet (sC (.bl false)))
  (sNext))
  (sSeq (sSet 6 (sCallF [true] f__law_odd [sVar 3]))
  (sSeq (sSet 7 (sTup [sCallF [true, false] f__law_of [sVar 3, sLst [sC (.int 0), sC (.int 5), sC (.int 2399), sC (.int 2400), sC (.bl true)]], sCallF [true, false] f__law_of [sVar 3, sLst [sC (.int 0), sC (.int 6), sC (.int 2400), sC (.int 2401), sC .non, sCallF [true, false] f__law_take [sVar 3, sC (.int 9)]]]]))
  (sSeq (sIfS (sNot (sTru (sCallF [false, false] f__law_same [sCallF [false] f_is_month [sVar 6], sCallF [false, false, false] f__law_from [sVar 6, sC (.int 0), sC (.int 2399)]])))
  (sRet (sC (.bl false)))
  (sNext))
  (sSeq (sIfS (sOr (sNot (sTru (sCallF [false, false] f__law_same [sCallF [false] f_is_spell [sVar 7], sCallF [false] f__law_is_spell [sVar 7]]))) (sBin (isB true) (sCallF [false] f_is_spell [sCall opList [sVar 7]]) (sC (.bl false))))
  (sRet (sC (.bl false)))
  (sNext))
  (sSet 4 (sCallF [true, false, false] (f__law_spoilt 10) [sVar 3, sVar 4, sC (.int 2)]))))))) ρ μ
def b_law_k01_1 (ρ : Env) (μ : Sto) : SOut := (sSeq (sSetC 3 (sCallF [false, false] f__law_bag [sVar 0, sVar 2]))
  (sSeq (sSet 4 (sCallF [true, false] f__law_drawn_line [sVar 3, sC (.int 6)]))
  (sFor (argI (k1I rng1) [sC (.int 5)]) (gN 5)
  (b_law_k01_2)))) ρ μ
def g_law_k01 : SS := sSeq (sSet 1 (sCall opTuple [sComp (argI (k1I rng1) [sC (.int 61)]) (gN 8) none (sTup [sBin opMul (sC (.int 2)) (sVar 8), sBin opAdd (sBin opMul (sC (.int 2)) (sVar 8)) (sC (.int 1)), sC (.int 5)]) [8]]))
  (sSeq (sIfS (sOr (sBin (isB true) (sCallF [false] f_is_line [sVar 1]) (sC (.bl false))) (sOr (sBin (isB true) (sCallF [false] f_is_line [sSl (sVar 1) (some (sC (.int 1))) (none)]) (sC (.bl true))) (sOr (sBin (isB true) (sCallF [false] f_is_line [sTup []]) (sC (.bl true))) (sBin opNe (sC (.int 2399)) (sC (.int 2399))))))
  (sRet (sC (.bl false)))
  (sNext))
  (sSeq (sFor (argI (k1I rng1) [sBin opAdd (sCall opMin2 [sCall opLen [sVar 0], sC (.int 14)]) (sC (.int 2))]) (gN 2)
  (b_law_k01_1))
  (sRet (sC (.bl true)))))
def f_law_k01 : FD := fnS 9 [false] false g_law_k01
def g_checked : SS := sSeq (sIfS (sNot (sTru (sCallF [false] f_is_line [sVar 0])))
  (sRaise "TooLong")
  (sNext))
  (sRet (sVar 0))
def f_checked : FD := fnS 1 [false] false g_checked
def b_joined_1 (ρ : Env) (μ : Sto) : SOut := (sIfS (sAnd (sTru (sVar 1)) (sAnd (sBin opEq (sBin opIx (sBin opIx (sVar 1) (sNeg (sC (.int 1)))) (sC (.int 1))) (sVar 2)) (sBin opEq (sBin opIx (sBin opIx (sVar 1) (sNeg (sC (.int 1)))) (sC (.int 2))) (sVar 4))))
  (sSub (sVar 1) (sNeg (sC (.int 1))) (sTup [sBin opIx (sBin opIx (sVar 1) (sNeg (sC (.int 1)))) (sC (.int 0)), sVar 3, sVar 4]))
  (sDrop (sMetL opAppend (sVar 1) [sTup [sVar 2, sVar 3, sVar 4]]))) ρ μ
def g_joined : SS := sSeq (sSetC 1 (sLst []))
  (sSeq (sFor (sIt (sVar 0)) (gT 3 (gsCons (gN 2) (gsCons (gN 3) (gsCons (gN 4) (gsNil)))))
  (b_joined_1))
  (sRet (sCall opTuple [sVar 1])))
def f_joined : FD := fnS 5 [false] false g_joined
def b_pieces_1 (ρ : Env) (μ : Sto) : SOut := (sSeq (sSet 5 (sComp (sIt (sVar 0)) (gT 3 (gsCons (gN 8) (gsCons (gN 9) (gsCons (gN 10) (gsNil))))) (some (sAnd (sBin opLe (sVar 8) (sVar 3)) (sBin opLe (sVar 4) (sVar 9)))) (sVar 10) [8, 9, 10]))
  (sIfS (sTru (sVar 5))
  (sDrop (sMetL opAppend (sVar 2) [sTup [sVar 3, sVar 4, sVar 5]]))
  (sNext))) ρ μ
def g_pieces : SS := sSeq (sSet 1 (sSortSc2 (sIt (sVar 0)) (gN 6) (sIt (sSl (sVar 6) (none) (some (sC (.int 2))))) (gN 7) (sVar 7) [6, 7] [7]))
  (sSeq (sSetC 2 (sLst []))
  (sSeq (sFor (argI (k2I zipL) [sVar 1, sSl (sVar 1) (some (sC (.int 1))) (none)]) (gT 2 (gsCons (gN 3) (gsCons (gN 4) (gsNil))))
  (b_pieces_1))
  (sRet (sVar 2))))
def f_pieces : FD := fnS 11 [false] false g_pieces
def g_summed : SS := sRet (sCallF [false] f_joined [sComp (sIt (sCallF [false] f_pieces [sVar 0])) (gT 3 (gsCons (gN 1) (gsCons (gN 2) (gsCons (gN 3) (gsNil))))) none (sTup [sVar 1, sVar 2, sCall opSum [sVar 3]]) [1, 2, 3]])
def f_summed : FD := fnS 4 [false] false g_summed
def g_plain : SS := sRet (sCallF [false] f_checked [sCallF [false] f_summed [sCall opList [sVar 0]]])
def f_plain : FD := fnS 1 [false] false g_plain
def g__law_refused : SS := sSeq (sSet 1 (sC (.bl false)))
  (sSeq (sTryIs (mC [("TooLong", true)]) (mC [("TooLong", true)]) 2 1
  (sDrop (sCallF [false] f_plain [sVar 0])))
  (sRet (sVar 1)))
def f__law_refused : FD := fnS 3 [false] false g__law_refused
def g_months_in : SS := sRet (sCall opSum [sComp (sIt (sVar 0)) (gT 3 (gsCons (gN 1) (gsCons (gN 2) (gsCons (gN 3) (gsNil))))) none (sBin opSub (sVar 2) (sVar 1)) [1, 2, 3]])
def f_months_in : FD := fnS 4 [false] false g_months_in
def g_worth_of : SS := sRet (sCall opSum [sComp (sIt (sVar 0)) (gT 3 (gsCons (gN 1) (gsCons (gN 2) (gsCons (gN 3) (gsNil))))) none (sBin opMul (sBin opSub (sVar 2) (sVar 1)) (sVar 3)) [1, 2, 3]])
def f_worth_of : FD := fnS 4 [false] false g_worth_of
def b_law_k02_1 (ρ : Env) (μ : Sto) : SOut := (sSeq (sSetC 3 (sCallF [false, false] f__law_bag [sVar 0, sVar 2]))
  (sSeq (sSet 4 (sCallF [true, false] f__law_drawn_rows [sVar 3, sC (.int 12)]))
  (sSeq (sSet 5 (sCall opList [sVar 4]))
  (sSeq (sSet 6 (sCallF [false] f__law_spread [sVar 4]))
  (sSeq (sSet 7 (sCallF [false] f_plain [sVar 4]))
  (sSeq (sIfS (sOr (sBin opNe (sVar 7) (sCallF [false] f__law_line_of [sVar 6])) (sOr (sBin opNe (sVar 4) (sVar 5)) (sBin opNe (sCallF [false] f_plain [sRevA (sVar 4)]) (sVar 7))))
  (sRet (sC (.bl false)))
  (sNext))
  (sIfS (sOr (sBin opNe (sCallF [false] f_months_in [sVar 7]) (sCall opLen [sVar 6])) (sBin opNe (sCallF [false] f_worth_of [sVar 7]) (sCall opSum [sListVals (sVar 6)])))
  (sRet (sC (.bl false)))
  (sNext)))))))) ρ μ
def g_law_k02 : SS := sSeq (sSet 1 (sComp (argI (k1I rng1) [sC (.int 30)]) (gN 8) none (sTup [sBin opMul (sC (.int 2)) (sVar 8), sBin opAdd (sBin opMul (sC (.int 2)) (sVar 8)) (sC (.int 1)), sBin opMod (sVar 8) (sC (.int 2))]) [8]))
  (sSeq (sIfS (sNot (sTru (sCallF [false] f__law_refused [sLst [sTup [sC (.int 5), sC (.int 6), sBin opPow (sC (.int 10)) (sC (.int 9))], sTup [sC (.int 5), sC (.int 6), sC (.int 1)]]])))
  (sRet (sC (.bl false)))
  (sNext))
  (sSeq (sIfS (sTru (sCallF [false] f__law_refused [sBin opAdd (sVar 1) (sComp (argI (k1I rng1) [sC (.int 30)]) (gN 8) none (sTup [sBin opAdd (sC (.int 100)) (sVar 8), sBin opAdd (sC (.int 101)) (sVar 8), sVar 8]) [8])]))
  (sRet (sC (.bl false)))
  (sNext))
  (sSeq (sIfS (sOr (sNot (sTru (sCallF [false] f__law_refused [sBin opAdd (sLst [sTup [sC (.int 0), sC (.int 122), sC (.int 7)]]) (sComp (argI (k1I rng1) [sC (.int 59)]) (gN 8) none (sTup [sBin opMul (sC (.int 2)) (sVar 8), sBin opAdd (sBin opMul (sC (.int 2)) (sVar 8)) (sC (.int 1)), sC (.int 1)]) [8])]))) (sBin opNe (sCallF [false] f_plain [sLst []]) (sTup [])))
  (sRet (sC (.bl false)))
  (sNext))
  (sSeq (sFor (argI (k1I rng1) [sBin opAdd (sCall opMin2 [sCall opLen [sVar 0], sC (.int 10)]) (sC (.int 2))]) (gN 2)
  (b_law_k02_1))
  (sRet (sC (.bl true)))))))
def f_law_k02 : FD := fnS 9 [false] false g_law_k02
def b_left_of_1 (ρ : Env) (μ : Sto) : SOut := (sAug augAdd 3 (sComp (sIt (sTup [sTup [sVar 4, sCall opMin2 [sVar 5, sVar 1], sVar 6], sTup [sCall opMax2 [sVar 4, sVar 2], sVar 5, sVar 6]])) (gN 7) (some (sBin opLt (sBin opIx (sVar 7) (sC (.int 0))) (sBin opIx (sVar 7) (sC (.int 1))))) (sVar 7) [7])) ρ μ
def g_left_of : SS := sSeq (sSetC 3 (sLst []))
  (sSeq (sFor (sIt (sVar 0)) (gT 3 (gsCons (gN 4) (gsCons (gN 5) (gsCons (gN 6) (gsNil)))))
  (b_left_of_1))
  (sRet (sCallF [false] f_joined [sVar 3])))
def f_left_of : FD := fnS 8 [false, false, false] false g_left_of
def g_without : SS := sRet (sCallF [false] f_checked [sCallF [false, false, false] f_left_of [sVar 0, sVar 1, sVar 2]])
def f_without : FD := fnS 3 [false, false, false] false g_without
def g__law_refused_v2 : SS := sSeq (sSet 3 (sC (.bl false)))
  (sSeq (sTry (mC [("TooLong", true)])
  (sDrop (sCallF [false, false, false] f_without [sVar 0, sVar 1, sVar 2]))
  (sSet 3 (sC (.bl true))))
  (sRet (sVar 3)))
def f__law_refused_v2 : FD := fnS 4 [false, false, false] false g__law_refused_v2
def b__law_marks_2 (ρ : Env) (μ : Sto) : SOut := (sSet 1 (sBin opAdd (sVar 1) (sLst [sBin opAdd (sVar 2) (sVar 5), sBin opAdd (sVar 3) (sVar 5)]))) ρ μ
def b__law_marks_1 (ρ : Env) (μ : Sto) : SOut := (sFor (sIt (sLst [sNeg (sC (.int 1)), sC (.int 0), sC (.int 1)])) (gN 5)
  (b__law_marks_2)) ρ μ
def g__law_marks : SS := sSeq (sSet 1 (sLst []))
  (sSeq (sFor (sIt (sVar 0)) (gT 3 (gsCons (gN 2) (gsCons (gN 3) (gsCons (gN 4) (gsNil)))))
  (b__law_marks_1))
  (sRet (sVar 1)))
def f__law_marks : FD := fnS 6 [false] false g__law_marks
def g_part : SS := sSeq (sSet 3 (sComp (sIt (sVar 0)) (gT 3 (gsCons (gN 4) (gsCons (gN 5) (gsCons (gN 6) (gsNil))))) none (sTup [sCall opMax2 [sVar 1, sVar 4], sCall opMin2 [sVar 2, sVar 5], sVar 6]) [4, 5, 6]))
  (sRet (sCall opTuple [sComp (sIt (sVar 3)) (gN 7) (some (sBin opLt (sBin opIx (sVar 7) (sC (.int 0))) (sBin opIx (sVar 7) (sC (.int 1))))) (sVar 7) [7]]))
def f_part : FD := fnS 8 [false, false, false] false g_part
def b_law_k03_2 (ρ : Env) (μ : Sto) : SOut := (sSeq (sSet 6 (sCall opMax2 [sC (.int 0), sCall opMin2 [sC (.int 2399), sCallF [true, false] f__law_of [sVar 3, sVar 4]]]))
  (sSeq (sSet 7 (sCall opMax2 [sBin opAdd (sVar 6) (sC (.int 1)), sCall opMin2 [sC (.int 2400), sCallF [true, false] f__law_of [sVar 3, sBin opAdd (sVar 4) (sLst [sC (.int 2400)])]]]))
  (sSeq (sSet 8 (sCallF [false] f__law_spread [sVar 1]))
  (sSeq (sSet 9 (sCall opDictL [sLk 8 (sComp (sItK 8) (gN 12) (some (sChain opLe opLt (sVar 6) (sVar 12) (sVar 7))) (sTup [sVar 12, sBin opIx (sVar 8) (sVar 12)]) [12])]))
  (sSeq (sSet 10 (sCall opDictL [sLk 8 (sComp (sItK 8) (gN 12) (some (sNot (sChain opLe opLt (sVar 6) (sVar 12) (sVar 7)))) (sTup [sVar 12, sBin opIx (sVar 8) (sVar 12)]) [12])]))
  (sIfS (sOr (sBin opNe (sCallF [false, false, false] f_part [sVar 1, sVar 6, sVar 7]) (sCallF [false] f__law_line_of [sVar 9])) (sBin opNe (sCallF [false, false, false] f_without [sVar 1, sVar 6, sVar 7]) (sCallF [false] f__law_line_of [sVar 10])))
  (sRet (sC (.bl false)))
  (sNext))))))) ρ μ
def b_law_k03_1 (ρ : Env) (μ : Sto) : SOut := (sSeq (sSetC 3 (sCallF [false, false] f__law_bag [sVar 0, sVar 2]))
  (sSeq (sSet 1 (sCallF [true, false] f__law_drawn_line [sVar 3, sC (.int 8)]))
  (sSeq (sSet 4 (sBin opAdd (sLst [sC (.int 0), sC (.int 2399)]) (sCallF [false] f__law_marks [sVar 1])))
  (sFor (argI (k1I rng1) [sC (.int 8)]) (gN 5)
  (b_law_k03_2))))) ρ μ
def g_law_k03 : SS := sSeq (sSet 1 (sCall opTuple [sComp (argI (k1I rng1) [sC (.int 60)]) (gN 11) none (sTup [sBin opMul (sC (.int 4)) (sVar 11), sBin opAdd (sBin opMul (sC (.int 4)) (sVar 11)) (sC (.int 3)), sC (.int 5)]) [11]]))
  (sSeq (sIfS (sOr (sNot (sTru (sCallF [false, false, false] f__law_refused_v2 [sVar 1, sC (.int 1), sC (.int 2)]))) (sOr (sTru (sCallF [false, false, false] f__law_refused_v2 [sVar 1, sC (.int 0), sC (.int 2)])) (sBin opNe (sCall opLen [sCallF [false, false, false] f_part [sVar 1, sC (.int 1), sC (.int 2)]]) (sC (.int 1)))))
  (sRet (sC (.bl false)))
  (sNext))
  (sSeq (sFor (argI (k1I rng1) [sBin opAdd (sCall opMin2 [sCall opLen [sVar 0], sC (.int 10)]) (sC (.int 2))]) (gN 2)
  (b_law_k03_1))
  (sRet (sC (.bl true)))))
def f_law_k03 : FD := fnS 13 [false] false g_law_k03
def g_halved : SS := sSeq (sSet 4 (sCallF [false] f_pieces [sBin opAdd (sCall opList [sCallF [false, false, false] f_part [sVar 0, sVar 2, sVar 3]]) (sCall opList [sCallF [false, false, false] f_part [sVar 1, sVar 2, sVar 3]])]))
  (sSeq (sSet 5 (sComp (sIt (sVar 4)) (gT 3 (gsCons (gN 8) (gsCons (gN 9) (gsCons (gN 10) (gsNil))))) none (sTup [sVar 8, sVar 9, sBin opDiv (sBin opAdd (sCall opSum [sVar 10]) (sC (.int 1))) (sC (.int 2))]) [8, 9, 10]))
  (sSeq (sSet 6 (sComp (sIt (sVar 4)) (gT 3 (gsCons (gN 8) (gsCons (gN 9) (gsCons (gN 10) (gsNil))))) none (sTup [sVar 8, sVar 9, sBin opDiv (sCall opSum [sVar 10]) (sC (.int 2))]) [8, 9, 10]))
  (sSeq (sSet 7 (sComp (sIt (sTup [sTup [sVar 0, sVar 5], sTup [sVar 1, sVar 6]])) (gT 2 (gsCons (gN 11) (gsCons (gN 12) (gsNil)))) none (sCallF [false] f_joined [sCall opSortD [sBin opAdd (sCall opList [sCallF [false, false, false] f_left_of [sVar 11, sVar 2, sVar 3]]) (sVar 12)]]) [11, 12]))
  (sRet (sTup [sCallF [false] f_checked [sBin opIx (sVar 7) (sC (.int 0))], sCallF [false] f_checked [sBin opIx (sVar 7) (sC (.int 1))]])))))
def f_halved : FD := fnS 13 [false, false, false, false] false g_halved
def b_law_k04_3 (ρ : Env) (μ : Sto) : SOut := (sIfS (sOr (sBin (opIn false) (sVar 9) (sVar 11)) (sBin (opIn false) (sVar 9) (sVar 12)))
  (sSeq (sSet 13 (sBin opAdd (sGet2 (sVar 11) (sVar 9) (sC (.int 0))) (sGet2 (sVar 12) (sVar 9) (sC (.int 0)))))
  (sPairS (sTup [sBin opSub (sVar 13) (sBin opDiv (sVar 13) (sC (.int 2))), sBin opDiv (sVar 13) (sC (.int 2))]) (sVar 11) (sVar 9) (sVar 12) (sVar 9)))
  (sNext)) ρ μ
def b_law_k04_2 (ρ : Env) (μ : Sto) : SOut := (sSeq (sSet 6 (sBin opAdd (sBin opAdd (sLst [sC (.int 0), sC (.int 900), sC (.int 1000)]) (sComp (sIt (sBin opAdd (sVar 4) (sVar 5))) (gN 14) none (sBin opIx (sVar 14) (sC (.int 0))) [14])) (sComp (sIt (sBin opAdd (sVar 4) (sVar 5))) (gN 14) none (sBin opSub (sBin opIx (sVar 14) (sC (.int 1))) (sC (.int 1))) [14])))
  (sSeq (sSet 7 (sCall opMin2 [sC (.int 2399), sCall opMax2 [sC (.int 0), sBin opAdd (sCallF [true, false] f__law_of [sVar 2, sVar 6]) (sCallF [true, false] f__law_of [sVar 2, sLst [sNeg (sC (.int 1)), sC (.int 0), sC (.int 1)]])]]))
  (sSeq (sSet 8 (sCall opMin2 [sC (.int 2400), sBin opAdd (sBin opAdd (sVar 7) (sC (.int 1))) (sCallF [true, false] f__law_of [sVar 2, sLst [sC (.int 0), sC (.int 11), sCallF [true, false] f__law_take [sVar 2, sC (.int 300)], sC (.int 2400)]])]))
  (sSeq (sPar true true 11 12 (sCallF [false] f__law_spread [sVar 4]) (sCallF [false] f__law_spread [sVar 5]))
  (sSeq (sFor (argI (k2I rng2) [sVar 7, sVar 8]) (gN 9)
  (b_law_k04_3))
  (sSeq (sSet 10 (sCallF [false, false, false, false] f_halved [sVar 4, sVar 5, sVar 7, sVar 8]))
  (sSeq (sIfS (sBin opNe (sVar 10) (sTup [sCallF [false] f__law_line_of [sVar 11], sCallF [false] f__law_line_of [sVar 12]]))
  (sRet (sC (.bl false)))
  (sNext))
  (sIfS (sBin opNe (sBin opAdd (sCallF [false] f_worth_of [sBin opIx (sVar 10) (sC (.int 0))]) (sCallF [false] f_worth_of [sBin opIx (sVar 10) (sC (.int 1))])) (sBin opAdd (sCallF [false] f_worth_of [sVar 4]) (sCallF [false] f_worth_of [sVar 5])))
  (sRet (sC (.bl false)))
  (sNext))))))))) ρ μ
def b_law_k04_1 (ρ : Env) (μ : Sto) : SOut := (sSeq (sSetC 2 (sCallF [false, false] f__law_bag [sVar 0, sVar 1]))
  (sSeq (sPar false false 4 5 (sCallF [true, false] f__law_drawn_line [sVar 2, sC (.int 5)]) (sCallF [true, false] f__law_drawn_line [sVar 2, sC (.int 5)]))
  (sSeq (sIfS (sBin opEq (sCallF [true, false] f__law_take [sVar 2, sC (.int 5)]) (sC (.int 0)))
  (sSet 5 (sVar 4))
  (sNext))
  (sFor (argI (k1I rng1) [sC (.int 5)]) (gN 3)
  (b_law_k04_2))))) ρ μ
def g_law_k04 : SS := sSeq (sFor (argI (k1I rng1) [sBin opAdd (sCall opMin2 [sCall opLen [sVar 0], sC (.int 10)]) (sC (.int 2))]) (gN 1)
  (b_law_k04_1))
  (sRet (sC (.bl true)))
def f_law_k04 : FD := fnS 15 [false] false g_law_k04
def b_dealt_1 (ρ : Env) (μ : Sto) : SOut := (sAugI (fun i j => i + j) (sVar 3) (sVar 5) (sC (.int 1))) ρ μ
def g_dealt : SS := sSeq (sSet 2 (sCall opSum [sVar 1]))
  (sSeq (sIfS (sBin opEq (sVar 2) (sC (.int 0)))
  (sRaise "NoWeights")
  (sNext))
  (sSeq (sSetC 3 (sComp (sIt (sVar 1)) (gN 6) none (sBin opDiv (sBin opMul (sVar 0) (sVar 6)) (sVar 2)) [6]))
  (sSeq (sSet 4 (sSortKey (sListRg (sCall opLen [sVar 1])) [2, 0, 1] (sTup [sBin opSub (sC (.int 0)) (sBin opMod (sBin opMul (sVar 2) (sBin opIx (sVar 3) (sVar 0))) (sVar 1)), sVar 0])))
  (sSeq (sFor (sIt (sSl (sVar 4) (none) (some (sBin opSub (sVar 0) (sCall opSum [sVar 3]))))) (gN 5)
  (b_dealt_1))
  (sRet (sVar 3))))))
def f_dealt : FD := fnS 7 [false, false] true g_dealt
def g__law_refused_v3 : SS := sSeq (sSet 1 (sC (.bl false)))
  (sSeq (sTryIs (mC [("NoWeights", true)]) (mC [("NoWeights", true)]) 2 1
  (sDrop (sCallF [false, false] f_dealt [sC (.int 5), sVar 0])))
  (sRet (sVar 1)))
def f__law_refused_v3 : FD := fnS 3 [false] false g__law_refused_v3
def b__law_dealt_1 (ρ : Env) (μ : Sto) : SOut := (sSeq (sSet 6 (sMetL opIndexI (sVar 4) [sCall opMaxL [sVar 4]]))
  (sSeq (sSub (sVar 3) (sVar 6) (sBin opAdd (sBin opIx (sVar 3) (sVar 6)) (sC (.int 1))))
  (sSeq (sSub (sVar 4) (sVar 6) (sNeg (sC (.int 1))))
  (sSet 5 (sBin opSub (sVar 5) (sC (.int 1))))))) ρ μ
def g__law_dealt : SS := sSeq (sSet 2 (sCall opSum [sVar 1]))
  (sSeq (sSetC 3 (sComp (sIt (sVar 1)) (gN 7) none (sBin opDiv (sBin opMul (sVar 0) (sVar 7)) (sVar 2)) [7]))
  (sSeq (sSetC 4 (sComp (sIt (sVar 1)) (gN 7) none (sBin opMod (sBin opMul (sVar 0) (sVar 7)) (sVar 2)) [7]))
  (sSeq (sSet 5 (sBin opSub (sVar 0) (sCall opSum [sVar 3])))
  (sSeq (sWhile (fun _ _ => 5000) (sBin opGt (sVar 5) (sC (.int 0)))
  (b__law_dealt_1))
  (sRet (sVar 3))))))
def f__law_dealt : FD := fnS 8 [false, false] true g__law_dealt
def b_law_k05_2 (ρ : Env) (μ : Sto) : SOut := (sDrop (sMetL opAppend (sVar 3) [sCallF [true, false] f__law_of [sVar 2, sLst [sC (.int 0), sC (.int 1), sC (.int 1), sC (.int 3), sC (.int 120), sBin opAdd (sC (.int 1)) (sCallF [true, false] f__law_take [sVar 2, sBin opPow (sC (.int 10)) (sC (.int 6))])]]])) ρ μ
def b_law_k05_1 (ρ : Env) (μ : Sto) : SOut := (sSeq (sSetC 2 (sCallF [false, false] f__law_bag [sVar 0, sVar 1]))
  (sSeq (sSetC 3 (sLst []))
  (sSeq (sFor (argI (k1I rng1) [sBin opAdd (sC (.int 1)) (sCallF [true, false] f__law_take [sVar 2, sC (.int 12)])]) (gN 4)
  (b_law_k05_2))
  (sSeq (sIfS (sBin opEq (sCall opSum [sVar 3]) (sC (.int 0)))
  (sSub (sVar 3) (sC (.int 0)) (sC (.int 7)))
  (sNext))
  (sSeq (sSet 5 (sCallF [true, false] f__law_of [sVar 2, sLst [sC (.int 0), sC (.int 1), sC (.int 2), sC (.int 100), sCallF [true, false] f__law_take [sVar 2, sBin opPow (sC (.int 10)) (sC (.int 5))], sBin opPow (sC (.int 10)) (sC (.int 12))]]))
  (sSeq (sSet 6 (sCall opList [sVar 3]))
  (sSeq (sSet 7 (sCallF [false, false] f_dealt [sVar 5, sVar 3]))
  (sSeq (sIfS (sOr (sBin opNe (sVar 7) (sCallF [false, false] f__law_dealt [sVar 5, sVar 3])) (sOr (sBin opNe (sCall opSum [sVar 7]) (sVar 5)) (sBin opNe (sVar 3) (sVar 6))))
  (sRet (sC (.bl false)))
  (sNext))
  (sIfS (sBin opNe (sComp (argI (k1I rng1) [sCall opLen [sVar 3]]) (gN 8) (some (sAnd (sBin opEq (sBin opIx (sVar 3) (sVar 8)) (sC (.int 0))) (sBin opNe (sBin opIx (sVar 7) (sVar 8)) (sC (.int 0))))) (sVar 8) [8]) (sLst []))
  (sRet (sC (.bl false)))
  (sNext)))))))))) ρ μ
def g_law_k05 : SS := sSeq (sIfS (sOr (sNot (sTru (sCallF [false] f__law_refused_v3 [sLst [sC (.int 0)]]))) (sNot (sTru (sCallF [false] f__law_refused_v3 [sLst [sC (.int 0), sC (.int 0), sC (.int 0)]]))))
  (sRet (sC (.bl false)))
  (sNext))
  (sSeq (sFor (argI (k1I rng1) [sBin opAdd (sCall opMin2 [sCall opLen [sVar 0], sC (.int 14)]) (sC (.int 2))]) (gN 1)
  (b_law_k05_1))
  (sRet (sC (.bl true))))
def f_law_k05 : FD := fnS 9 [false] false g_law_k05
def b__law_land_1 (ρ : Env) (μ : Sto) : SOut := (sDrop (sMetL opAppend (sVar 2) [sTup [sVar 3, sCallF [true, false] f__law_of [sVar 0, sLst [sC (.int 20), sC (.int 5), sC (.int 0), sCallF [true, false] f__law_take [sVar 0, sC (.int 101)]]]]])) ρ μ
def b__law_land_2 (ρ : Env) (μ : Sto) : SOut := (sDrop (sMetL opAppend (sVar 4) [sTup [sVar 5, sCallF [true, false] f__law_of [sVar 0, sLst [sC (.int 1000), sC (.int 1020), sC (.int 1013), sC (.int 999), sBin opAdd (sC (.int 500)) (sCallF [true, false] f__law_take [sVar 0, sC (.int 1501)])]]]])) ρ μ
def g__law_land : SS := sSeq (sSetC 2 (sLst [sTup [sC (.int 0), sCallF [true, false] f__law_of [sVar 0, sLst [sC (.int 15), sC (.int 10), sC (.int 0), sCallF [true, false] f__law_take [sVar 0, sC (.int 101)]]]]]))
  (sSeq (sFor (sIt (sSortSet (sComp (argI (k1I rng1) [sCallF [true, false] f__law_take [sVar 0, sC (.int 4)]]) (gN 11) none (sBin opAdd (sC (.int 1)) (sCallF [true, false] f__law_take [sVar 0, sC (.int 500)])) [11]))) (gN 3)
  (b__law_land_1))
  (sSeq (sSetC 4 (sLst []))
  (sSeq (sFor (sIt (sSortSet (sComp (argI (k1I rng1) [sCallF [true, false] f__law_take [sVar 0, sC (.int 6)]]) (gN 11) none (sBin opAdd (sC (.int 1300)) (sCallF [true, false] f__law_take [sVar 0, sC (.int 1100)])) [11]))) (gN 5)
  (b__law_land_2))
  (sSeq (sSet 6 (sCallF [true, false] f__law_of [sVar 0, sLst [sC (.int 600), sC (.int 720), sC (.int 780), sC (.int 0), sCallF [true, false] f__law_take [sVar 0, sC (.int 1201)]]]))
  (sSeq (sSet 7 (sTup [sVar 6, sCallF [true, false] f__law_of [sVar 0, sLst [sC (.int 1), sC (.int 60), sC (.int 180), sBin opAdd (sC (.int 1)) (sCallF [true, false] f__law_take [sVar 0, sC (.int 600)])]]]))
  (sSeq (sSet 8 (sCallF [true, false] f__law_of [sVar 0, sLst [sC (.int 0), sC (.int 900), sC (.int 5000), sCallF [true, false] f__law_take [sVar 0, sBin opPow (sC (.int 10)) (sC (.int 6))]]]))
  (sSeq (sSet 9 (sTup [sCallF [true, false] f__law_of [sVar 0, sLst [sC (.int 0), sC (.int 12), sCallF [true, false] f__law_take [sVar 0, sC (.int 121)]]], sCall opTuple [sVar 2], sVar 8]))
  (sSeq (sSet 10 (sTup [sCallF [true, false] f__law_of [sVar 0, sLst [sC (.int 480), sC (.int 1), sBin opAdd (sC (.int 1)) (sCallF [true, false] f__law_take [sVar 0, sC (.int 600)])]], sCallF [true, false] f__law_of [sVar 0, sLst [sC (.int 0), sC (.int 6), sC (.int 24), sCallF [true, false] f__law_take [sVar 0, sC (.int 121)]]]]))
  (sRet (sBin opAdd (sBin opAdd (sBin opAdd (sBin opAdd (sTup [sVar 1]) (sVar 7)) (sVar 9)) (sVar 10)) (sTup [sCall opTuple [sVar 4]])))))))))))
def f__law_land : FD := fnS 12 [true, false] false g__law_land
def g__law_lands : SS := sSeq (sSet 2 (sSl (sLst [sC (.str "a"), sC (.str "bb"), sC (.str "c"), sC (.str "dda"), sC (.str "e"), sC (.str "f")]) (none) (some (sBin opAdd (sC (.int 1)) (sCallF [true, false] f__law_take [sVar 0, sVar 1])))))
  (sRet (sCall opTuple [sComp (sIt (sVar 2)) (gN 3) none (sCallF [true, false] f__law_land [sVar 0, sVar 3]) [3]]))
def f__law_lands : FD := fnS 4 [true, false] false g__law_lands
def g_rises : SS := sRet (sCall opAll [sComp (argI (k2I zipL) [sVar 0, sSl (sVar 0) (some (sC (.int 1))) (none)]) (gT 2 (gsCons (gN 1) (gsCons (gN 2) (gsNil)))) none (sBin opLt (sVar 1) (sVar 2)) [1, 2]])
def f_rises : FD := fnS 3 [false] false g_rises
def g_is_pair : SS := sRet (sAnd (sIsi .tuple (sVar 0)) (sAnd (sBin opEq (sCall opLen [sVar 0]) (sC (.int 2))) (sCallF [false, false, false] f_is_from [sBin opIx (sVar 0) (sC (.int 1)), sVar 1, sVar 2])))
def f_is_pair : FD := fnS 3 [false, false, false] false g_is_pair
def g_is_index : SS := sSeq (sIfS (sOr (sNot (sIsi .tuple (sVar 0))) (sBin opGt (sCall opLen [sVar 0]) (sC (.int 20))))
  (sRet (sC (.bl false)))
  (sNext))
  (sSeq (sIfS (sNot (sCall opAll [sComp (sIt (sVar 0)) (gN 1) none (sAnd (sCallF [false, false, false] f_is_pair [sVar 1, sC (.int 500), sC (.int 2000)]) (sCallF [false] f_is_month [sBin opIx (sVar 1) (sC (.int 0))])) [1]]))
  (sRet (sC (.bl false)))
  (sNext))
  (sRet (sCallF [false] f_rises [sComp (sIt (sVar 0)) (gN 1) none (sBin opIx (sVar 1) (sC (.int 0))) [1]])))
def f_is_index : FD := fnS 2 [false] false g_is_index
def g_is_name : SS := sSeq (sIfS (sOr (sNot (sIsi .str (sVar 0))) (sNot (sChain opLe opLe (sC (.int 1)) (sCall opLen [sVar 0]) (sC (.int 8)))))
  (sRet (sC (.bl false)))
  (sNext))
  (sRet (sCall opAll [sComp (sIt (sVar 0)) (gN 1) none (sBin (opIn false) (sVar 1) (sC (.str "abcdefghijklmnopqrstuvwxyz"))) [1]]))
def f_is_name : FD := fnS 2 [false] false g_is_name
def g_are_steps : SS := sSeq (sIfS (sOr (sNot (sIsi .tuple (sVar 0))) (sNot (sChain opLe opLe (sC (.int 1)) (sCall opLen [sVar 0]) (sC (.int 4)))))
  (sRet (sC (.bl false)))
  (sNext))
  (sSeq (sIfS (sNot (sCall opAll [sComp (sIt (sVar 0)) (gN 1) none (sAnd (sCallF [false, false, false] f_is_pair [sVar 1, sC (.int 0), sC (.int 100)]) (sCallF [false, false, false] f_is_from [sBin opIx (sVar 1) (sC (.int 0)), sC (.int 0), sC (.int 1200)])) [1]]))
  (sRet (sC (.bl false)))
  (sNext))
  (sRet (sAnd (sBin opEq (sBin opIx (sBin opIx (sVar 0) (sC (.int 0))) (sC (.int 0))) (sC (.int 0))) (sCallF [false] f_rises [sComp (sIt (sVar 0)) (gN 1) none (sBin opIx (sVar 1) (sC (.int 0))) [1]]))))
def f_are_steps : FD := fnS 2 [false] false g_are_steps
def g_is_land : SS := sSeq (sIfS (sOr (sNot (sIsi .tuple (sVar 0))) (sOr (sBin opNe (sCall opLen [sVar 0]) (sC (.int 9))) (sNot (sTru (sCallF [false] f_is_name [sBin opIx (sVar 0) (sC (.int 0))])))))
  (sRet (sC (.bl false)))
  (sNext))
  (sSeq (sAsg (gT 9 (gsCons (gN 1) (gsCons (gN 2) (gsCons (gN 3) (gsCons (gN 4) (gsCons (gN 5) (gsCons (gN 6) (gsCons (gN 7) (gsCons (gN 8) (gsCons (gN 9) (gsNil))))))))))) (sVar 0))
  (sSeq (sIfS (sOr (sNot (sTru (sCallF [false, false, false] f_is_from [sVar 2, sC (.int 0), sC (.int 1200)]))) (sOr (sNot (sTru (sCallF [false, false, false] f_is_from [sVar 3, sC (.int 1), sC (.int 600)]))) (sOr (sNot (sTru (sCallF [false, false, false] f_is_from [sVar 4, sC (.int 0), sC (.int 120)]))) (sNot (sTru (sCallF [false] f_are_steps [sVar 5]))))))
  (sRet (sC (.bl false)))
  (sNext))
  (sSeq (sIfS (sOr (sNot (sTru (sCallF [false, false, false] f_is_from [sVar 6, sC (.int 0), sBin opPow (sC (.int 10)) (sC (.int 6))]))) (sOr (sNot (sTru (sCallF [false, false, false] f_is_from [sVar 7, sC (.int 1), sC (.int 600)]))) (sNot (sTru (sCallF [false, false, false] f_is_from [sVar 8, sC (.int 0), sC (.int 120)])))))
  (sRet (sC (.bl false)))
  (sNext))
  (sRet (sCallF [false] f_is_index [sVar 9])))))
def f_is_land : FD := fnS 10 [false] false g_is_land
def g_are_lands : SS := sSeq (sIfS (sOr (sNot (sIsi .tuple (sVar 0))) (sOr (sNot (sChain opLe opLe (sC (.int 1)) (sCall opLen [sVar 0]) (sC (.int 6)))) (sNot (sCall opAll [sComp (sIt (sVar 0)) (gN 1) none (sCallF [false] f_is_land [sVar 1]) [1]]))))
  (sRet (sC (.bl false)))
  (sNext))
  (sRet (sCallF [false] f_rises [sComp (sIt (sVar 0)) (gN 1) none (sBin opIx (sVar 1) (sC (.int 0))) [1]]))
def f_are_lands : FD := fnS 2 [false] false g_are_lands
def g__law_rising : SS := sRet (sBin opEq (sCall opList [sVar 0]) (sSortSet (sVar 0)))
def f__law_rising : FD := fnS 1 [false] false g__law_rising
def b__law_pairs_so_1 (ρ : Env) (μ : Sto) : SOut := (sSeq (sIfS (sOr (sNot (sIsi .tuple (sVar 5))) (sBin opNe (sCall opLen [sVar 5]) (sC (.int 2))))
  (sRet (sC (.bl false)))
  (sNext))
  (sIfS (sOr (sNot (sTru (sCallF [false, false, false] f__law_from [sBin opIx (sVar 5) (sC (.int 0)), sC (.int 0), sVar 4]))) (sNot (sTru (sCallF [false, false, false] f__law_from [sBin opIx (sVar 5) (sC (.int 1)), sVar 2, sVar 3]))))
  (sRet (sC (.bl false)))
  (sNext))) ρ μ
def g__law_pairs_so : SS := sSeq (sIfS (sOr (sNot (sIsi .tuple (sVar 0))) (sBin opGt (sCall opLen [sVar 0]) (sVar 1)))
  (sRet (sC (.bl false)))
  (sNext))
  (sSeq (sFor (sIt (sVar 0)) (gN 5)
  (b__law_pairs_so_1))
  (sRet (sCallF [false] f__law_rising [sComp (sIt (sVar 0)) (gN 5) none (sBin opIx (sVar 5) (sC (.int 0))) [5]])))
def f__law_pairs_so : FD := fnS 6 [false, false, false, false, false] false g__law_pairs_so
def g__law_is_name : SS := sSeq (sIfS (sOr (sNot (sIsi .str (sVar 0))) (sNot (sChain opLe opLe (sC (.int 1)) (sCall opLen [sVar 0]) (sC (.int 8)))))
  (sRet (sC (.bl false)))
  (sNext))
  (sRet (sBin opEq (sComp (sIt (sVar 0)) (gN 1) (some (sBin (opIn true) (sVar 1) (sC (.str "abcdefghijklmnopqrstuvwxyz")))) (sVar 1) [1]) (sLst [])))
def f__law_is_name : FD := fnS 2 [false] false g__law_is_name
def g__law_is_land : SS := sSeq (sIfS (sOr (sNot (sIsi .tuple (sVar 0))) (sOr (sBin opNe (sCall opLen [sVar 0]) (sC (.int 9))) (sNot (sTru (sCallF [false] f__law_is_name [sBin opIx (sVar 0) (sC (.int 0))])))))
  (sRet (sC (.bl false)))
  (sNext))
  (sSeq (sSet 1 (sLst [sTup [sC (.int 1), sC (.int 0), sC (.int 1200)], sTup [sC (.int 2), sC (.int 1), sC (.int 600)], sTup [sC (.int 3), sC (.int 0), sC (.int 120)], sTup [sC (.int 5), sC (.int 0), sBin opPow (sC (.int 10)) (sC (.int 6))], sTup [sC (.int 6), sC (.int 1), sC (.int 600)], sTup [sC (.int 7), sC (.int 0), sC (.int 120)]]))
  (sSeq (sIfS (sBin opNe (sComp (sIt (sVar 1)) (gT 3 (gsCons (gN 2) (gsCons (gN 3) (gsCons (gN 4) (gsNil))))) (some (sNot (sTru (sCallF [false, false, false] f__law_from [sBin opIx (sVar 0) (sVar 2), sVar 3, sVar 4])))) (sVar 2) [2, 3, 4]) (sLst []))
  (sRet (sC (.bl false)))
  (sNext))
  (sSeq (sIfS (sOr (sNot (sTru (sCallF [false, false, false, false, false] f__law_pairs_so [sBin opIx (sVar 0) (sC (.int 4)), sC (.int 4), sC (.int 0), sC (.int 100), sC (.int 1200)]))) (sOr (sBin opEq (sBin opIx (sVar 0) (sC (.int 4))) (sTup [])) (sBin opNe (sBin opIx (sBin opIx (sBin opIx (sVar 0) (sC (.int 4))) (sC (.int 0))) (sC (.int 0))) (sC (.int 0)))))
  (sRet (sC (.bl false)))
  (sNext))
  (sRet (sCallF [false, false, false, false, false] f__law_pairs_so [sBin opIx (sVar 0) (sC (.int 8)), sC (.int 20), sC (.int 500), sC (.int 2000), sC (.int 2399)])))))
def f__law_is_land : FD := fnS 5 [false] false g__law_is_land
def g__law_are_lands : SS := sSeq (sIfS (sOr (sNot (sIsi .tuple (sVar 0))) (sNot (sChain opLe opLe (sC (.int 1)) (sCall opLen [sVar 0]) (sC (.int 6)))))
  (sRet (sC (.bl false)))
  (sNext))
  (sRet (sAnd (sBin opEq (sComp (sIt (sVar 0)) (gN 1) (some (sNot (sTru (sCallF [false] f__law_is_land [sVar 1])))) (sVar 1) [1]) (sLst [])) (sCallF [false] f__law_rising [sComp (sIt (sVar 0)) (gN 1) none (sBin opIx (sVar 1) (sC (.int 0))) [1]])))
def f__law_are_lands : FD := fnS 2 [false] false g__law_are_lands
def b_law_k06_2 (ρ : Env) (μ : Sto) : SOut := (sIfS (sNot (sTru (sCallF [false, false] f__law_same [sCallF [false] f_are_lands [sVar 4], sCallF [false] f__law_are_lands [sVar 4]])))
  (sRet (sC (.bl false)))
  (sNext)) ρ μ
def b_law_k06_3 (ρ : Env) (μ : Sto) : SOut := (sSeq (sIfS (sNot (sTru (sCallF [false, false] f__law_same [sCallF [false] f_is_land [sVar 5], sCallF [false] f__law_is_land [sVar 5]])))
  (sRet (sC (.bl false)))
  (sNext))
  (sSeq (sSet 7 (sCallF [true, false] f__law_of [sVar 2, sLst [sNeg (sC (.int 1)), sC (.int 0), sC (.int 1), sC (.int 120), sC (.int 121), sC (.int 600), sC (.int 601), sC (.int 1200), sC (.int 1201), sBin opPow (sC (.int 10)) (sC (.int 6)), sBin opAdd (sBin opPow (sC (.int 10)) (sC (.int 6))) (sC (.int 1)), sC (.bl true), sC .non, sTup [], sC (.str "a")]]))
  (sSeq (sSet 8 (sCallF [true, false] f__law_take [sVar 2, sC (.int 9)]))
  (sIfS (sAnd (sIsi .tuple (sVar 5)) (sAnd (sBin opEq (sCall opLen [sVar 5]) (sC (.int 9))) (sBin opEq (sCallF [true, false] f__law_take [sVar 2, sC (.int 2)]) (sC (.int 0)))))
  (sSet 5 (sBin opAdd (sBin opAdd (sSl (sVar 5) (none) (some (sVar 8))) (sTup [sVar 7])) (sSl (sVar 5) (some (sBin opAdd (sVar 8) (sC (.int 1)))) (none))))
  (sSet 5 (sCallF [true, false, false] (f__law_spoilt 10) [sVar 2, sBin opIx (sVar 3) (sC (.int 0)), sC (.int 4)])))))) ρ μ
def b_law_k06_1 (ρ : Env) (μ : Sto) : SOut := (sSeq (sSetC 2 (sCallF [false, false] f__law_bag [sVar 0, sVar 1]))
  (sSeq (sSet 3 (sCallF [true, false] f__law_lands [sVar 2, sC (.int 6)]))
  (sSeq (sFor (sIt (sLst [sVar 3, sRevA (sVar 3), sBin opAdd (sVar 3) (sSl (sVar 3) (some (sNeg (sC (.int 1)))) (none)), sTup [], sCall opList [sVar 3], sBin opAdd (sVar 3) (sTup [sCallF [true, false] f__law_land [sVar 2, sC (.str "zz")]])])) (gN 4)
  (b_law_k06_2))
  (sSeq (sSet 5 (sBin opIx (sVar 3) (sC (.int 0))))
  (sFor (argI (k1I rng1) [sC (.int 6)]) (gN 6)
  (b_law_k06_3)))))) ρ μ
def g_law_k06 : SS := sSeq (sFor (argI (k1I rng1) [sBin opAdd (sCall opMin2 [sCall opLen [sVar 0], sC (.int 12)]) (sC (.int 2))]) (gN 1)
  (b_law_k06_1))
  (sRet (sC (.bl true)))
def f_law_k06 : FD := fnS 9 [false] false g_law_k06
def b__law_record_1 (ρ : Env) (μ : Sto) : SOut := (sSeq (sSet 4 (sCallF [true, false] f__law_drawn_line [sVar 0, sC (.int 4)]))
  (sIfS (sBin opNe (sVar 4) (sTup []))
  (sDrop (sMetL opAppend (sVar 2) [sTup [sVar 3, sVar 4]]))
  (sNext))) ρ μ
def g__law_record : SS := sSeq (sSetC 2 (sLst []))
  (sSeq (sFor (sIt (sVar 1)) (gN 3)
  (b__law_record_1))
  (sRet (sCall opTuple [sVar 2])))
def f__law_record : FD := fnS 5 [true, false] false g__law_record
def g_line_of : SS := sRet (sGet2 (sCall opDictA [sVar 0]) (sVar 1) (sTup []))
def f_line_of : FD := fnS 2 [false, false] false g_line_of
def g_own_months : SS := sRet (sCallF [false] f_months_in [sCallF [false, false] f_line_of [sVar 0, sVar 1]])
def f_own_months : FD := fnS 2 [false, false] false g_own_months
def g_total_months : SS := sSeq (sSet 1 (sComp2 (sIt (sVar 0)) (gT 2 (gsCons (gN 3) (gsCons (gN 4) (gsNil)))) (sIt (sVar 4)) (gN 2) (sVar 2) [3, 4, 2] [2]))
  (sRet (sCall opSum [sComp (sIt (sCallF [false] f_pieces [sVar 1])) (gT 3 (gsCons (gN 5) (gsCons (gN 6) (gsCons (gN 7) (gsNil))))) none (sBin opSub (sVar 6) (sVar 5)) [5, 6, 7]]))
def f_total_months : FD := fnS 8 [false] false g_total_months
def b_degree_1 (ρ : Env) (μ : Sto) : SOut := (sSeq (sSet 4 (sIf (sBin opLt (sBin opAdd (sVar 3) (sC (.int 1))) (sCall opLen [sVar 0])) (sBin opIx (sBin opIx (sVar 0) (sBin opAdd (sVar 3) (sC (.int 1)))) (sC (.int 0))) (sVar 1)))
  (sAug augAdd 2 (sBin opMul (sVar 6) (sCall opMax2 [sC (.int 0), sBin opSub (sCall opMin2 [sVar 4, sVar 1]) (sVar 5)])))) ρ μ
def g_degree : SS := sSeq (sSet 2 (sC (.int 0)))
  (sSeq (sFor (argI (k1I enumL) [sVar 0]) (gT 2 (gsCons (gN 3) (gsCons (gT 2 (gsCons (gN 5) (gsCons (gN 6) (gsNil)))) (gsNil))))
  (b_degree_1))
  (sRet (sVar 2)))
def f_degree : FD := fnS 7 [false, false] false g_degree
def b__law_degree_1 (ρ : Env) (μ : Sto) : SOut := (sSet 2 (sBin opAdd (sVar 2) (sBin opIx (sComp (sIt (sVar 0)) (gT 2 (gsCons (gN 4) (gsCons (gN 5) (gsNil)))) (some (sBin opLt (sVar 4) (sVar 3))) (sVar 5) [4, 5]) (sNeg (sC (.int 1)))))) ρ μ
def g__law_degree : SS := sSeq (sSet 2 (sC (.int 0)))
  (sSeq (sFor (argI (k2I rng2) [sC (.int 1), sBin opAdd (sVar 1) (sC (.int 1))]) (gN 3)
  (b__law_degree_1))
  (sRet (sVar 2)))
def f__law_degree : FD := fnS 6 [false, false] false g__law_degree
def b_is_record_1 (ρ : Env) (μ : Sto) : SOut := (sIfS (sOr (sNot (sIsi .tuple (sVar 1))) (sOr (sBin opNe (sCall opLen [sVar 1]) (sC (.int 2))) (sOr (sNot (sTru (sCallF [false] f_is_name [sBin opIx (sVar 1) (sC (.int 0))]))) (sOr (sNot (sTru (sCallF [false] f_is_line [sBin opIx (sVar 1) (sC (.int 1))]))) (sBin opEq (sBin opIx (sVar 1) (sC (.int 1))) (sTup []))))))
  (sRet (sC (.bl false)))
  (sNext)) ρ μ
def g_is_record : SS := sSeq (sIfS (sOr (sNot (sIsi .tuple (sVar 0))) (sBin opGt (sCall opLen [sVar 0]) (sC (.int 6))))
  (sRet (sC (.bl false)))
  (sNext))
  (sSeq (sFor (sIt (sVar 0)) (gN 1)
  (b_is_record_1))
  (sRet (sCallF [false] f_rises [sComp (sIt (sVar 0)) (gN 1) none (sBin opIx (sVar 1) (sC (.int 0))) [1]])))
def f_is_record : FD := fnS 2 [false] false g_is_record
def b__law_is_record_1 (ρ : Env) (μ : Sto) : SOut := (sSeq (sIfS (sOr (sNot (sIsi .tuple (sVar 1))) (sOr (sBin opNe (sCall opLen [sVar 1]) (sC (.int 2))) (sNot (sTru (sCallF [false] f__law_is_name [sBin opIx (sVar 1) (sC (.int 0))])))))
  (sRet (sC (.bl false)))
  (sNext))
  (sIfS (sOr (sNot (sTru (sCallF [false] f__law_is_line [sBin opIx (sVar 1) (sC (.int 1))]))) (sBin opEq (sBin opIx (sVar 1) (sC (.int 1))) (sTup [])))
  (sRet (sC (.bl false)))
  (sNext))) ρ μ
def g__law_is_record : SS := sSeq (sIfS (sOr (sNot (sIsi .tuple (sVar 0))) (sBin opGt (sCall opLen [sVar 0]) (sC (.int 6))))
  (sRet (sC (.bl false)))
  (sNext))
  (sSeq (sFor (sIt (sVar 0)) (gN 1)
  (b__law_is_record_1))
  (sRet (sCallF [false] f__law_rising [sComp (sIt (sVar 0)) (gN 1) none (sBin opIx (sVar 1) (sC (.int 0))) [1]])))
def f__law_is_record : FD := fnS 2 [false] false g__law_is_record
def b_law_k07_2 (ρ : Env) (μ : Sto) : SOut := (sSeq (sDrop (sMetD opUpd (sVar 5) [sCallF [false] f__law_spread [sVar 12]]))
  (sIfS (sBin opNe (sCallF [false, false] f_own_months [sVar 4, sVar 11]) (sCall opLen [sCallF [false] f__law_spread [sVar 12]]))
  (sRet (sC (.bl false)))
  (sNext))) ρ μ
def b_law_k07_3 (ρ : Env) (μ : Sto) : SOut := (sIfS (sBin opNe (sCallF [false, false] f_degree [sVar 6, sVar 8]) (sCallF [false, false] f__law_degree [sVar 6, sVar 8]))
  (sRet (sC (.bl false)))
  (sNext)) ρ μ
def b_law_k07_4 (ρ : Env) (μ : Sto) : SOut := (sSeq (sIfS (sNot (sTru (sCallF [false, false] f__law_same [sCallF [false] f_is_record [sVar 9], sCallF [false] f__law_is_record [sVar 9]])))
  (sRet (sC (.bl false)))
  (sNext))
  (sSet 9 (sCallF [true, false, false] (f__law_spoilt 10) [sVar 2, sVar 9, sC (.int 4)]))) ρ μ
def b_law_k07_1 (ρ : Env) (μ : Sto) : SOut := (sSeq (sSetC 2 (sCallF [false, false] f__law_bag [sVar 0, sVar 1]))
  (sSeq (sSet 3 (sCallF [true, false] f__law_lands [sVar 2, sC (.int 6)]))
  (sSeq (sSet 4 (sCallF [true, false] f__law_record [sVar 2, sComp (sIt (sVar 3)) (gN 13) none (sBin opIx (sVar 13) (sC (.int 0))) [13]]))
  (sSeq (sSetC 5 (sNewK))
  (sSeq (sFor (sIt (sVar 4)) (gT 2 (gsCons (gN 11) (gsCons (gN 12) (gsNil))))
  (b_law_k07_2))
  (sSeq (sIfS (sOr (sBin opNe (sCallF [false] f_total_months [sVar 4]) (sCall opLen [sVar 5])) (sBin opNe (sCallF [false, false] f_own_months [sVar 4, sC (.str "nobody")]) (sC (.int 0))))
  (sRet (sC (.bl false)))
  (sNext))
  (sSeq (sSet 6 (sBin opIx (sBin opIx (sVar 3) (sC (.int 0))) (sC (.int 4))))
  (sSeq (sSet 7 (sBin opAdd (sLst [sC (.int 0), sC (.int 1), sCallF [true, false] f__law_take [sVar 2, sC (.int 900)], sC (.int 2400)]) (sComp (sIt (sVar 6)) (gT 2 (gsCons (gN 14) (gsCons (gN 15) (gsNil)))) none (sVar 14) [14, 15])))
  (sSeq (sFor (sIt (sBin opAdd (sVar 7) (sComp (sIt (sVar 6)) (gT 2 (gsCons (gN 14) (gsCons (gN 15) (gsNil)))) none (sBin opAdd (sVar 14) (sC (.int 1))) [14, 15]))) (gN 8)
  (b_law_k07_3))
  (sSeq (sSet 9 (sVar 4))
  (sFor (argI (k1I rng1) [sC (.int 4)]) (gN 10)
  (b_law_k07_4)))))))))))) ρ μ
def g_law_k07 : SS := sSeq (sFor (argI (k1I rng1) [sBin opAdd (sCall opMin2 [sCall opLen [sVar 0], sC (.int 10)]) (sC (.int 2))]) (gN 1)
  (b_law_k07_1))
  (sRet (sC (.bl true)))
def f_law_k07 : FD := fnS 16 [false] false g_law_k07
def g_paper : SS := sSeq (sStar 5 (gsCons (gN 9) (gsCons (gN 10) (gsCons (gN 11) (gsCons (gN 12) (gsCons (gN 13) (gsCons (gN 16) (gsNil))))))) (sVar 0))
  (sSeq (sPar false false 14 15 (sCallF [false, false] f_own_months [sVar 1, sVar 9]) (sCallF [false] f_total_months [sVar 1]))
  (sSeq (sIfS (sBin opEq (sVar 14) (sC (.int 0)))
  (sRet (sTup [sC (.int 0), sVar 15, sC (.int 0), sC (.int 0), sTup [], sC (.int 0), sC (.int 0), sC (.int 0)]))
  (sNext))
  (sSeq (sSet 2 (sCallF [false] f_worth_of [sCallF [false, false] f_line_of [sVar 1, sVar 9]]))
  (sSeq (sSet 3 (sBin opDiv (sBin opMul (sVar 2) (sCallF [false, false] f_degree [sVar 13, sVar 15])) (sBin opMul (sC (.int 10000)) (sVar 14))))
  (sSeq (sSet 4 (sCallF [false, false] f_dealt [sVar 3, sComp (sIt (sVar 1)) (gT 2 (gsCons (gN 17) (gsCons (gN 18) (gsNil)))) none (sCallF [false] f_months_in [sVar 18]) [17, 18]]))
  (sSeq (sSet 5 (sCall opTuple [sComp (argI (k2I zipL) [sVar 1, sVar 4]) (gT 2 (gsCons (gN 17) (gsCons (gN 19) (gsNil)))) none (sTup [sBin opIx (sVar 17) (sC (.int 0)), sVar 19]) [17, 19]]))
  (sSeq (sSet 6 (sIf (sBin opGe (sVar 14) (sVar 11)) (sBin opDiv (sBin opMul (sVar 2) (sCallF [false, false] f_degree [sVar 13, sVar 14])) (sBin opMul (sC (.int 10000)) (sVar 14))) (sC (.int 0))))
  (sSeq (sSet 7 (sBin opIx (sCall opDictA [sVar 5]) (sVar 9)))
  (sSeq (sSet 8 (sAnd (sBin opGe (sVar 14) (sVar 12)) (sBin opGe (sVar 15) (sVar 11))))
  (sRet (sTup [sVar 14, sVar 15, sVar 2, sVar 3, sVar 5, sVar 6, sVar 7, sIf (sTru (sVar 8)) (sCall opMax2 [sVar 6, sVar 7]) (sC (.int 0))])))))))))))
def f_paper : FD := fnS 20 [false, false] false g_paper
def g_amount : SS := sRet (sBin opIx (sCallF [false, false] f_paper [sVar 0, sVar 1]) (sNeg (sC (.int 1))))
def f_amount : FD := fnS 2 [false, false] false g_amount
def b_behind_months_1 (ρ : Env) (μ : Sto) : SOut := (sSeq (sIfS (sBin opLe (sVar 1) (sBin opSub (sVar 3) (sVar 2)))
  (sRet (sBin opAdd (sVar 2) (sVar 1)))
  (sNext))
  (sAug augSub 1 (sBin opSub (sVar 3) (sVar 2)))) ρ μ
def g_behind_months : SS := sSeq (sFor (sIt (sVar 0)) (gT 3 (gsCons (gN 2) (gsCons (gN 3) (gsCons (gN 4) (gsNil)))))
  (b_behind_months_1))
  (sRet (sC .non))
def f_behind_months : FD := fnS 5 [false, false] false g_behind_months
def g_start : SS := sSeq (sSet 3 (sCallF [false, false] f_behind_months [sCallF [false, false] f_line_of [sVar 2, sBin opIx (sVar 0) (sC (.int 0))], sCall opMax2 [sC (.int 1), sBin opIx (sVar 0) (sC (.int 3))]]))
  (sSeq (sSet 4 (sCallF [false, false] f_behind_months [sCallF [false] f_pieces [sComp2 (sIt (sVar 2)) (gT 2 (gsCons (gN 7) (gsCons (gN 8) (gsNil)))) (sIt (sVar 8)) (gN 6) (sVar 6) [7, 8, 6] [6]], sBin opIx (sVar 0) (sC (.int 2))]))
  (sSeq (sIfS (sOr (sBin (isN false) (sVar 3) (sC .non)) (sBin (isN false) (sVar 4) (sC .non)))
  (sRet (sC .non))
  (sNext))
  (sSeq (sSet 5 (sCall opMax3 [sBin opAdd (sVar 1) (sBin opIx (sVar 0) (sC (.int 1))), sVar 3, sVar 4]))
  (sRet (sIf (sBin opLe (sVar 5) (sC (.int 2399))) (sVar 5) (sC .non))))))
def f_start : FD := fnS 9 [false, false, false] false g_start
def b__law_begun_1 (ρ : Env) (μ : Sto) : SOut := (sSeq (sIfS (sAnd (sBin opGe (sVar 5) (sBin opAdd (sVar 1) (sBin opIx (sVar 0) (sC (.int 1))))) (sAnd (sBin opGe (sVar 6) (sCall opMax2 [sC (.int 1), sBin opIx (sVar 0) (sC (.int 3))])) (sBin opGe (sVar 7) (sBin opIx (sVar 0) (sC (.int 2))))))
  (sRet (sVar 5))
  (sNext))
  (sSeq (sSet 6 (sBin opAdd (sVar 6) (sCall opInt [sBin (opIn false) (sVar 5) (sVar 4)])))
  (sSet 7 (sBin opAdd (sVar 7) (sCall opInt [sBin opNe (sLk 3 (sComp (sItK 3) (gN 8) (some (sBin (opIn false) (sVar 5) (sBin opIx (sVar 3) (sVar 8)))) (sC (.int 1)) [8])) (sLst [])]))))) ρ μ
def g__law_begun : SS := sSeq (sAsg (gT 2 (gsCons (gN 6) (gsCons (gN 7) (gsNil)))) (sTup [sC (.int 0), sC (.int 0)]))
  (sSeq (sSet 3 (sCall opDictL [sComp (sIt (sVar 2)) (gT 2 (gsCons (gN 8) (gsCons (gN 9) (gsNil)))) none (sTup [sVar 8, sCallF [false] f__law_spread [sVar 9]]) [8, 9]]))
  (sSeq (sSet 4 (sGet2 (sVar 3) (sBin opIx (sVar 0) (sC (.int 0))) (sNewK)))
  (sSeq (sFor (argI (k1I rng1) [sC (.int 2400)]) (gN 5)
  (b__law_begun_1))
  (sRet (sC .non)))))
def f__law_begun : FD := fnS 10 [false, false, false] false g__law_begun
def b_law_k10_3 (ρ : Env) (μ : Sto) : SOut := (sIfS (sBin opNe (sCallF [false, false, false] f_start [sVar 8, sVar 5, sVar 4]) (sCallF [false, false, false] f__law_begun [sVar 8, sVar 5, sVar 4]))
  (sRet (sC (.bl false)))
  (sNext)) ρ μ
def b_law_k10_2 (ρ : Env) (μ : Sto) : SOut := (sSeq (sSet 7 (sLst [sVar 6, sBin opAdd (sBin opAdd (sSl (sVar 6) (none) (some (sC (.int 1)))) (sTup [sC (.int 0)])) (sSl (sVar 6) (some (sC (.int 2))) (none)), sBin opAdd (sBin opAdd (sSl (sVar 6) (none) (some (sC (.int 1)))) (sTup [sC (.int 0), sC (.int 1), sC (.int 0)])) (sSl (sVar 6) (some (sC (.int 4))) (none))]))
  (sFor (sIt (sBin opAdd (sVar 7) (sLst [sBin opAdd (sBin opAdd (sSl (sVar 6) (none) (some (sC (.int 3)))) (sTup [sC (.int 0)])) (sSl (sVar 6) (some (sC (.int 4))) (none))]))) (gN 8)
  (b_law_k10_3))) ρ μ
def b_law_k10_1 (ρ : Env) (μ : Sto) : SOut := (sSeq (sSetC 2 (sCallF [false, false] f__law_bag [sVar 0, sVar 1]))
  (sSeq (sSet 3 (sCallF [true, false] f__law_lands [sVar 2, sC (.int 4)]))
  (sSeq (sSet 4 (sCallF [true, false] f__law_record [sVar 2, sComp (sIt (sVar 3)) (gN 6) none (sBin opIx (sVar 6) (sC (.int 0))) [6]]))
  (sSeq (sSet 5 (sCallF [true, false] f__law_of [sVar 2, sLst [sC (.int 0), sC (.int 300), sC (.int 700), sC (.int 2399), sCallF [true, false] f__law_take [sVar 2, sC (.int 2400)]]]))
  (sFor (sIt (sVar 3)) (gN 6)
  (b_law_k10_2)))))) ρ μ
def g_law_k10 : SS := sSeq (sFor (argI (k1I rng1) [sBin opAdd (sCall opMin2 [sCall opLen [sVar 0], sC (.int 6)]) (sC (.int 2))]) (gN 1)
  (b_law_k10_1))
  (sRet (sC (.bl true)))
def f_law_k10 : FD := fnS 9 [false] false g_law_k10
def g__law_drawn_homes : SS := sSeq (sSet 3 (sSortSet (sComp (argI (k1I rng1) [sCallF [true, false] f__law_take [sVar 0, sBin opAdd (sVar 2) (sC (.int 1))]]) (gN 5) none (sCallF [true, false] f__law_take [sVar 0, sC (.int 2400)]) [5])))
  (sRet (sCall opTuple [sComp (sIt (sVar 3)) (gN 4) none (sTup [sVar 4, sBin opIx (sCallF [true, false] f__law_of [sVar 0, sVar 1]) (sC (.int 0))]) [4]]))
def f__law_drawn_homes : FD := fnS 6 [true, false, false] false g__law_drawn_homes
def b_are_homes_1 (ρ : Env) (μ : Sto) : SOut := (sIfS (sOr (sNot (sIsi .tuple (sVar 1))) (sOr (sBin opNe (sCall opLen [sVar 1]) (sC (.int 2))) (sOr (sNot (sTru (sCallF [false] f_is_month [sBin opIx (sVar 1) (sC (.int 0))]))) (sNot (sIsi .str (sBin opIx (sVar 1) (sC (.int 1))))))))
  (sRet (sC (.bl false)))
  (sNext)) ρ μ
def g_are_homes : SS := sSeq (sIfS (sOr (sNot (sIsi .tuple (sVar 0))) (sBin opGt (sCall opLen [sVar 0]) (sC (.int 12))))
  (sRet (sC (.bl false)))
  (sNext))
  (sSeq (sFor (sIt (sVar 0)) (gN 1)
  (b_are_homes_1))
  (sRet (sCallF [false] f_rises [sComp (sIt (sVar 0)) (gN 1) none (sBin opIx (sVar 1) (sC (.int 0))) [1]])))
def f_are_homes : FD := fnS 2 [false] false g_are_homes
def b_land_of_1 (ρ : Env) (μ : Sto) : SOut := (sIfS (sBin opEq (sBin opIx (sVar 2) (sC (.int 0))) (sVar 1))
  (sRet (sVar 2))
  (sNext)) ρ μ
def g_land_of : SS := sSeq (sFor (sIt (sVar 0)) (gN 2)
  (b_land_of_1))
  (sRet (sC .non))
def f_land_of : FD := fnS 3 [false, false] false g_land_of
def g_is_person : SS := sSeq (sIfS (sOr (sNot (sIsi .tuple (sVar 1))) (sOr (sBin opNe (sCall opLen [sVar 1]) (sC (.int 3))) (sNot (sTru (sCallF [false] f_is_month [sBin opIx (sVar 1) (sC (.int 0))])))))
  (sRet (sC (.bl false)))
  (sNext))
  (sSeq (sIfS (sOr (sNot (sTru (sCallF [false] f_is_record [sBin opIx (sVar 1) (sC (.int 1))]))) (sNot (sTru (sCallF [false] f_are_homes [sBin opIx (sVar 1) (sC (.int 2))]))))
  (sRet (sC (.bl false)))
  (sNext))
  (sSeq (sSet 2 (sBin opAdd (sComp (sIt (sBin opIx (sVar 1) (sC (.int 1)))) (gN 3) none (sBin opIx (sVar 3) (sC (.int 0))) [3]) (sComp (sIt (sBin opIx (sVar 1) (sC (.int 2)))) (gN 3) none (sBin opIx (sVar 3) (sC (.int 1))) [3])))
  (sRet (sCall opAll [sComp (sIt (sVar 2)) (gN 4) none (sBin (isN true) (sCallF [false, false] f_land_of [sVar 0, sVar 4]) (sC .non)) [4]]))))
def f_is_person : FD := fnS 5 [false, false] false g_is_person
def b__law_is_person_1 (ρ : Env) (μ : Sto) : SOut := (sSeq (sIfS (sOr (sNot (sIsi .tuple (sVar 3))) (sOr (sBin opNe (sCall opLen [sVar 3]) (sC (.int 2))) (sNot (sTru (sCallF [false, false, false] f__law_from [sBin opIx (sVar 3) (sC (.int 0)), sC (.int 0), sC (.int 2399)])))))
  (sRet (sC (.bl false)))
  (sNext))
  (sIfS (sOr (sNot (sIsi .str (sBin opIx (sVar 3) (sC (.int 1))))) (sBin (opIn true) (sBin opIx (sVar 3) (sC (.int 1))) (sVar 2)))
  (sRet (sC (.bl false)))
  (sNext))) ρ μ
def g__law_is_person : SS := sSeq (sSet 2 (sComp (sIt (sVar 0)) (gN 4) none (sBin opIx (sVar 4) (sC (.int 0))) [4]))
  (sSeq (sIfS (sOr (sNot (sIsi .tuple (sVar 1))) (sOr (sBin opNe (sCall opLen [sVar 1]) (sC (.int 3))) (sNot (sTru (sCallF [false, false, false] f__law_from [sBin opIx (sVar 1) (sC (.int 0)), sC (.int 0), sC (.int 2399)])))))
  (sRet (sC (.bl false)))
  (sNext))
  (sSeq (sIfS (sOr (sNot (sTru (sCallF [false] f__law_is_record [sBin opIx (sVar 1) (sC (.int 1))]))) (sOr (sNot (sIsi .tuple (sBin opIx (sVar 1) (sC (.int 2))))) (sBin opGt (sCall opLen [sBin opIx (sVar 1) (sC (.int 2))]) (sC (.int 12)))))
  (sRet (sC (.bl false)))
  (sNext))
  (sSeq (sFor (sIt (sBin opIx (sVar 1) (sC (.int 2)))) (gN 3)
  (b__law_is_person_1))
  (sRet (sAnd (sCallF [false] f__law_rising [sComp (sIt (sBin opIx (sVar 1) (sC (.int 2)))) (gN 3) none (sBin opIx (sVar 3) (sC (.int 0))) [3]]) (sBin opEq (sComp (sIt (sBin opIx (sVar 1) (sC (.int 1)))) (gN 5) (some (sBin (opIn true) (sBin opIx (sVar 5) (sC (.int 0))) (sVar 2))) (sVar 5) [5]) (sLst [])))))))
def f__law_is_person : FD := fnS 6 [false, false] false g__law_is_person
def b_law_k12_2 (ρ : Env) (μ : Sto) : SOut := (sIfS (sNot (sTru (sCallF [false, false] f__law_same [sCallF [false, false] f_is_person [sVar 3, sVar 7], sCallF [false, false] f__law_is_person [sVar 3, sVar 7]])))
  (sRet (sC (.bl false)))
  (sNext)) ρ μ
def b_law_k12_3 (ρ : Env) (μ : Sto) : SOut := (sSeq (sIfS (sNot (sTru (sCallF [false, false] f__law_same [sCallF [false, false] f_is_person [sVar 3, sVar 6], sCallF [false, false] f__law_is_person [sVar 3, sVar 6]])))
  (sRet (sC (.bl false)))
  (sNext))
  (sSet 6 (sCallF [true, false, false] (f__law_spoilt 10) [sVar 2, sVar 6, sC (.int 5)]))) ρ μ
def b_law_k12_1 (ρ : Env) (μ : Sto) : SOut := (sSeq (sSetC 2 (sCallF [false, false] f__law_bag [sVar 0, sVar 1]))
  (sSeq (sSet 3 (sCallF [true, false] f__law_lands [sVar 2, sC (.int 4)]))
  (sSeq (sSet 4 (sComp (sIt (sVar 3)) (gN 9) none (sBin opIx (sVar 9) (sC (.int 0))) [9]))
  (sSeq (sSet 5 (sCallF [true, false, false] f__law_drawn_homes [sVar 2, sVar 3, sC (.int 14)]))
  (sSeq (sSet 6 (sTup [sCallF [true, false] f__law_take [sVar 2, sC (.int 2400)], sCallF [true, false] f__law_record [sVar 2, sVar 4], sVar 5]))
  (sSeq (sFor (sIt (sLst [sVar 6, sBin opAdd (sSl (sVar 6) (none) (some (sC (.int 2)))) (sTup [sRevA (sVar 5)]), sBin opAdd (sBin opAdd (sSl (sVar 6) (none) (some (sC (.int 1)))) (sTup [sCallF [true, false] f__law_record [sVar 2, sLst [sC (.str "zz")]]])) (sSl (sVar 6) (some (sC (.int 2))) (none))])) (gN 7)
  (b_law_k12_2))
  (sFor (argI (k1I rng1) [sC (.int 5)]) (gN 8)
  (b_law_k12_3)))))))) ρ μ
def g_law_k12 : SS := sSeq (sFor (argI (k1I rng1) [sBin opAdd (sCall opMin2 [sCall opLen [sVar 0], sC (.int 12)]) (sC (.int 2))]) (gN 1)
  (b_law_k12_1))
  (sRet (sC (.bl true)))
def f_law_k12 : FD := fnS 10 [false] false g_law_k12
def b__law_life_2 (ρ : Env) (μ : Sto) : SOut := (sSub (sVar 4) (sVar 8) (sVar 6)) ρ μ
def b__law_life_1 (ρ : Env) (μ : Sto) : SOut := (sSeq (sSet 6 (sCallF [true, false] f__law_of [sVar 0, sVar 1]))
  (sSeq (sSet 7 (sBin opAdd (sC (.int 1)) (sCallF [true, false] f__law_take [sVar 0, sC (.int 90)])))
  (sSeq (sFor (argI (k2I rng2) [sVar 5, sBin opAdd (sVar 5) (sVar 7)]) (gN 8)
  (b__law_life_2))
  (sSet 5 (sBin opAdd (sBin opAdd (sVar 5) (sVar 7)) (sCallF [true, false] f__law_of [sVar 0, sLst [sC (.int 0), sC (.int 0), sC (.int 1), sC (.int 30)]])))))) ρ μ
def g__law_life : SS := sSeq (sPar true false 4 5 (sNewK) (sVar 2))
  (sSeq (sFor (argI (k1I rng1) [sBin opAdd (sC (.int 2)) (sCallF [true, false] f__law_take [sVar 0, sC (.int 8)])]) (gN 3)
  (b__law_life_1))
  (sRet (sVar 4)))
def f__law_life : FD := fnS 9 [true, false, false] false g__law_life
def b__law_parted_1 (ρ : Env) (μ : Sto) : SOut := (sSeq (sIfS (sAnd (sBin opLt (sVar 6) (sC (.int 50))) (sBin opEq (sCallF [true, false] f__law_take [sVar 0, sC (.int 20)]) (sC (.int 0))))
  (sPar false false 5 6 (sCallF [true, false] f__law_of [sVar 0, sVar 2]) (sBin opAdd (sVar 6) (sC (.int 1))))
  (sNext))
  (sSub (sVar 4) (sVar 3) (sVar 5))) ρ μ
def g__law_parted : SS := sSeq (sAsg (gT 3 (gsCons (gN 4) (gsCons (gN 5) (gsCons (gN 6) (gsNil))))) (sTup [sNewK, sBin opIx (sVar 2) (sC (.int 0)), sC (.int 0)]))
  (sSeq (sFor (sIt (sCall opSortI [sVar 1])) (gN 3)
  (b__law_parted_1))
  (sRet (sVar 4)))
def f__law_parted : FD := fnS 7 [true, false, false] false g__law_parted
def b__law_record_of_1 (ρ : Env) (μ : Sto) : SOut := (sSeq (sSet 4 (sCall opDictL [sComp (sIt (sVar 0)) (gN 5) (some (sBin opEq (sBin opIx (sVar 0) (sVar 5)) (sVar 3))) (sTup [sVar 5, sVar 1]) [5]]))
  (sDrop (sMetL opAppend (sVar 2) [sTup [sVar 3, sCallF [false] f__law_line_of [sVar 4]]]))) ρ μ
def g__law_record_of : SS := sSeq (sSetC 2 (sLst []))
  (sSeq (sFor (sIt (sSortSet (sListVals (sVar 0)))) (gN 3)
  (b__law_record_of_1))
  (sRet (sCall opTuple [sVar 2])))
def f__law_record_of : FD := fnS 6 [false, false] false g__law_record_of
def b_law_k18_2 (ρ : Env) (μ : Sto) : SOut := (sSeq (sSet 13 (sTup [sBin opAdd (sC (.int 1)) (sCallF [true, false] f__law_take [sVar 2, sC (.int 300)]), sCallF [true, false] f__law_take [sVar 2, sC (.int 60)]]))
  (sDrop (sMetL opAppend (sVar 5) [sBin opAdd (sBin opAdd (sTup [sVar 6, sCallF [true, false] f__law_take [sVar 2, sC (.int 900)]]) (sVar 13)) (sSl (sVar 3) (some (sC (.int 4))) (none))]))) ρ μ
def b_law_k18_4 (ρ : Env) (μ : Sto) : SOut := (sSet 15 (sBin opAdd (sVar 15) (sBin opMul (sLst [sCallF [false, false] f_paper [sVar 16, sVar 14]]) (sCall opInt [sBin (opIn false) (sBin opIx (sVar 16) (sC (.int 0))) (sCall opDictA [sVar 14])])))) ρ μ
def b_law_k18_5 (ρ : Env) (μ : Sto) : SOut := (sSeq (sSet 20 (sBin opSub (sBin opMul (sBin opIx (sVar 17) (sC (.int 6))) (sCall opLen [sVar 7])) (sBin opMul (sVar 11) (sBin opIx (sVar 17) (sC (.int 0))))))
  (sIfS (sBin opGe (sCall opAbs [sVar 20]) (sCall opLen [sVar 7]))
  (sRet (sC (.bl false)))
  (sNext))) ρ μ
def b_law_k18_3 (ρ : Env) (μ : Sto) : SOut := (sSeq (sSet 14 (sCallF [false, false] f__law_record_of [sVar 12, sVar 8]))
  (sSeq (sSet 15 (sLst []))
  (sSeq (sFor (sIt (sVar 5)) (gN 16)
  (b_law_k18_4))
  (sSeq (sIfS (sBin opNe (sComp (sIt (sVar 15)) (gN 17) (some (sBin opNe (sBin opIx (sVar 17) (sC (.int 3))) (sVar 11))) (sVar 17) [17]) (sLst []))
  (sRet (sC (.bl false)))
  (sNext))
  (sSeq (sIfS (sBin opNe (sComp (sIt (sVar 15)) (gN 17) (some (sBin opNe (sBin opIx (sVar 17) (sC (.int 1))) (sCall opLen [sVar 7]))) (sVar 17) [17]) (sLst []))
  (sRet (sC (.bl false)))
  (sNext))
  (sSeq (sIfS (sBin opNe (sCall opSum [sComp (sIt (sVar 15)) (gN 17) none (sBin opIx (sVar 17) (sC (.int 6))) [17]]) (sVar 11))
  (sRet (sC (.bl false)))
  (sNext))
  (sSeq (sFor (sIt (sVar 15)) (gN 17)
  (b_law_k18_5))
  (sSeq (sSet 18 (sCallF [false] f__law_line_of [sCall opDictL [sComp (sIt (sVar 12)) (gN 21) (some (sBin opGt (sBin opMod (sBin opDiv (sVar 21) (sC (.int 20))) (sC (.int 3))) (sC (.int 0)))) (sTup [sVar 21, sC (.int 7)]) [21]]]))
  (sSeq (sSet 19 (sBin opAdd (sSl (sVar 14) (none) (some (sC (.int 5)))) (sBin opMul (sTup [sTup [sC (.str "zz"), sVar 18]]) (sCall opInt [sBin opNe (sVar 18) (sTup [])]))))
  (sIfS (sAnd (sBin opLt (sCall opLen [sVar 14]) (sC (.int 6))) (sBin opNe (sCallF [false] f_total_months [sVar 19]) (sCall opLen [sVar 7])))
  (sRet (sC (.bl false)))
  (sNext))))))))))) ρ μ
def b_law_k18_1 (ρ : Env) (μ : Sto) : SOut := (sSeq (sSetC 2 (sCallF [false, false] f__law_bag [sVar 0, sVar 1]))
  (sSeq (sSet 3 (sCallF [true, false] f__law_land [sVar 2, sC (.str "a")]))
  (sSeq (sSet 4 (sSl (sLst [sC (.str "a"), sC (.str "bb"), sC (.str "c"), sC (.str "dda"), sC (.str "e"), sC (.str "f")]) (none) (some (sBin opAdd (sC (.int 2)) (sCallF [true, false] f__law_take [sVar 2, sC (.int 5)])))))
  (sSeq (sSetC 5 (sLst []))
  (sSeq (sFor (sIt (sVar 4)) (gN 6)
  (b_law_k18_2))
  (sSeq (sSet 7 (sCallF [true, false, false] f__law_life [sVar 2, sVar 4, sC (.int 800)]))
  (sSeq (sSet 8 (sCallF [true, false] f__law_of [sVar 2, sLst [sC (.int 1), sC (.int 2500), sC (.int 99999), sCallF [true, false] f__law_take [sVar 2, sBin opPow (sC (.int 10)) (sC (.int 6))]]]))
  (sSeq (sSet 9 (sCallF [false] f__law_line_of [sCall opDictL [sLk 7 (sComp (sItK 7) (gN 21) none (sTup [sVar 21, sVar 8]) [21])]]))
  (sSeq (sSet 10 (sCallF [false, false] f_paper [sBin opIx (sVar 5) (sC (.int 0)), sTup [sTup [sC (.str "a"), sVar 9]]]))
  (sSeq (sSet 11 (sBin opDiv (sBin opMul (sVar 8) (sCallF [false, false] f_degree [sBin opIx (sVar 3) (sC (.int 4)), sCall opLen [sVar 7]])) (sC (.int 10000))))
  (sSeq (sIfS (sOr (sBin opNe (sBin opIx (sVar 10) (sC (.int 3))) (sVar 11)) (sBin opNe (sCallF [false] f_total_months [sTup [sTup [sC (.str "a"), sVar 9]]]) (sCall opLen [sVar 7])))
  (sRet (sC (.bl false)))
  (sNext))
  (sFor (sIt (sLst [sVar 7, sCallF [true, false, false] f__law_parted [sVar 2, sVar 7, sVar 4]])) (gN 12)
  (b_law_k18_3))))))))))))) ρ μ
def g_law_k18 : SS := sSeq (sFor (argI (k1I rng1) [sBin opAdd (sCall opMin2 [sCall opLen [sVar 0], sC (.int 8)]) (sC (.int 2))]) (gN 1)
  (b_law_k18_1))
  (sRet (sC (.bl true)))
def f_law_k18 : FD := fnS 22 [false] false g_law_k18
def b__law_richer_2 (ρ : Env) (μ : Sto) : SOut := (sSub (sVar 3) (sVar 6) (sCall opMin2 [sBin opPow (sC (.int 10)) (sC (.int 9)), sBin opAdd (sVar 9) (sVar 5)])) ρ μ
def b__law_richer_1 (ρ : Env) (μ : Sto) : SOut := (sSeq (sAsg (gT 3 (gsCons (gN 7) (gsCons (gN 8) (gsCons (gN 9) (gsNil))))) (sBin opIx (sVar 1) (sVar 4)))
  (sSeq (sSet 5 (sIf (sBin opEq (sVar 4) (sVar 2)) (sBin opAdd (sC (.int 1)) (sCallF [true, false] f__law_take [sVar 0, sC (.int 5000)])) (sC (.int 0))))
  (sFor (argI (k2I rng2) [sVar 7, sVar 8]) (gN 6)
  (b__law_richer_2)))) ρ μ
def g__law_richer : SS := sSeq (sSet 2 (sCallF [true, false] f__law_take [sVar 0, sCall opLen [sVar 1]]))
  (sSeq (sSetC 3 (sNewK))
  (sSeq (sFor (argI (k1I rng1) [sCall opLen [sVar 1]]) (gN 4)
  (b__law_richer_1))
  (sRet (sCallF [false] f__law_line_of [sVar 3]))))
def f__law_richer : FD := fnS 10 [true, false] false g__law_richer
def b_law_k26_3 (ρ : Env) (μ : Sto) : SOut := (sSeq (sPar false false 15 14 (sCallF [false, false] f_amount [sVar 6, sVar 4]) (sCallF [false, false] f_amount [sVar 6, sVar 7]))
  (sIfS (sOr (sBin opLt (sVar 14) (sBin opSub (sVar 15) (sC (.int 1)))) (sAnd (sBin opNe (sBin opIx (sVar 6) (sC (.int 0))) (sVar 11)) (sBin opNe (sVar 14) (sVar 15))))
  (sRet (sC (.bl false)))
  (sNext))) ρ μ
def b_law_k26_2 (ρ : Env) (μ : Sto) : SOut := (sSeq (sAsg (gT 2 (gsCons (gN 11) (gsCons (gN 12) (gsNil)))) (sBin opIx (sVar 4) (sVar 5)))
  (sSeq (sSet 7 (sBin opAdd (sBin opAdd (sSl (sVar 4) (none) (some (sVar 5))) (sTup [sTup [sVar 11, sCallF [true, false] f__law_richer [sVar 2, sVar 12]]])) (sSl (sVar 4) (some (sBin opAdd (sVar 5) (sC (.int 1)))) (none))))
  (sFor (sIt (sVar 3)) (gN 6)
  (b_law_k26_3)))) ρ μ
def b_law_k26_4 (ρ : Env) (μ : Sto) : SOut := (sSeq (sSet 8 (sCall opTuple [sComp (sIt (sBin opIx (sVar 6) (sC (.int 4)))) (gT 2 (gsCons (gN 15) (gsCons (gN 16) (gsNil)))) none (sTup [sVar 15, sCall opMin2 [sC (.int 100), sBin opAdd (sVar 16) (sC (.int 1))]]) [15, 16]]))
  (sSeq (sIfS (sBin opLt (sCallF [false, false] f_amount [sBin opAdd (sBin opAdd (sSl (sVar 6) (none) (some (sC (.int 4)))) (sTup [sVar 8])) (sSl (sVar 6) (some (sC (.int 5))) (none)), sVar 4]) (sBin opSub (sCallF [false, false] f_amount [sVar 6, sVar 4]) (sC (.int 1))))
  (sRet (sC (.bl false)))
  (sNext))
  (sSeq (sSet 9 (sCallF [false, false] f_paper [sVar 6, sVar 4]))
  (sIfS (sOr (sBin (opIn true) (sBin opIx (sVar 9) (sC (.int 7))) (sLst [sC (.int 0), sCall opMax2 [sBin opIx (sVar 9) (sC (.int 5)), sBin opIx (sVar 9) (sC (.int 6))]])) (sOr (sBin opGt (sBin opIx (sVar 9) (sC (.int 0))) (sBin opIx (sVar 9) (sC (.int 1)))) (sBin opGt (sBin opIx (sVar 9) (sC (.int 6))) (sBin opIx (sVar 9) (sC (.int 3))))))
  (sRet (sC (.bl false)))
  (sNext))))) ρ μ
def b_law_k26_1 (ρ : Env) (μ : Sto) : SOut := (sSeq (sSetC 2 (sCallF [false, false] f__law_bag [sVar 0, sVar 1]))
  (sSeq (sSet 3 (sCallF [true, false] f__law_lands [sVar 2, sC (.int 4)]))
  (sSeq (sSet 4 (sCallF [true, false] f__law_record [sVar 2, sComp (sIt (sVar 3)) (gN 6) none (sBin opIx (sVar 6) (sC (.int 0))) [6]]))
  (sSeq (sFor (argI (k1I rng1) [sCall opLen [sVar 4]]) (gN 5)
  (b_law_k26_2))
  (sSeq (sFor (sIt (sVar 3)) (gN 6)
  (b_law_k26_4))
  (sIfS (sBin opGt (sCall opLen [sVar 4]) (sC (.int 1)))
  (sSeq (sPar false false 13 14 (sBin opIx (sBin opIx (sVar 4) (sC (.int 0))) (sC (.int 1))) (sBin opIx (sBin opIx (sVar 4) (sC (.int 1))) (sC (.int 1))))
  (sSeq (sSet 10 (sCallF [false, false, false, false] f_halved [sVar 13, sVar 14, sC (.int 0), sC (.int 2400)]))
  (sSeq (sIfS (sBin opNe (sBin opAdd (sCallF [false] f_worth_of [sBin opIx (sVar 10) (sC (.int 0))]) (sCallF [false] f_worth_of [sBin opIx (sVar 10) (sC (.int 1))])) (sBin opAdd (sCallF [false] f_worth_of [sVar 13]) (sCallF [false] f_worth_of [sVar 14])))
  (sRet (sC (.bl false)))
  (sNext))
  (sIfS (sBin opNe (sCallF [false, false, false, false] f_halved [sBin opIx (sVar 10) (sC (.int 0)), sBin opIx (sVar 10) (sC (.int 1)), sC (.int 0), sC (.int 2400)]) (sVar 10))
  (sRet (sC (.bl false)))
  (sNext)))))
  (sNext))))))) ρ μ
def g_law_k26 : SS := sSeq (sFor (argI (k1I rng1) [sBin opAdd (sCall opMin2 [sCall opLen [sVar 0], sC (.int 6)]) (sC (.int 2))]) (gN 1)
  (b_law_k26_1))
  (sRet (sC (.bl true)))
def f_law_k26 : FD := fnS 17 [false] false g_law_k26
end Sx

/-! SxBag: what the laws draw from. -/
namespace Sx
open PySem L2
/-- the law's bag: what is left of the cell, the seed -/
structure Bag where
  a : Int
  b : Int
  ha : 0 ≤ a
  hA : a < 10 ^ 60
  hb : 0 ≤ b
  hB : b < 2147483647
def Bag.cell (g : Bag) : Cell := .lst [.int g.a, .int g.b]
def Bag.sd (g : Bag) : Int := g.b * 48271 % 2147483647
def Bag.val (g : Bag) (c : Int) : Int := if 0 < g.a then g.a % c else g.sd / 13 * (g.sd % 32749 + 17) % 2147483629 / 32 % c
theorem Bag.sd_lo (g : Bag) : 0 ≤ g.sd := Int.emod_nonneg _ (by decide)
theorem Bag.sd_hi (g : Bag) : g.sd < 2147483647 := Int.emod_lt_of_pos _ (by decide)
def Bag.nxt (g : Bag) (c : Int) : Bag :=
  if h : 0 < g.a ∧ 0 < c then ⟨g.a / c, g.b, Int.ediv_nonneg g.ha (Int.le_of_lt h.2), Int.lt_of_le_of_lt (Int.ediv_le_self _ g.ha) g.hA, g.hb, g.hB⟩
  else if 0 < g.a then g else ⟨g.a, g.sd, g.ha, g.hA, g.sd_lo, g.sd_hi⟩
theorem Bag.val_lo (g : Bag) {c : Int} (h : 0 < c) : 0 ≤ g.val c := by
  unfold Bag.val
  split <;> exact Int.emod_nonneg _ (by omega)
theorem Bag.val_hi (g : Bag) {c : Int} (h : 0 < c) : g.val c < c := by
  unfold Bag.val
  split <;> exact Int.emod_lt_of_pos _ h
theorem take_ok (g : Bag) {c : Int} (h : 0 < c) (h2 : c < big) : f__law_take [g.cell] [.int c] = .ok (.dat (.int (g.val c))) [(g.nxt c).cell] := by
  have b0 := g.hb
  have b1 := g.hB
  have s0 := g.sd_lo
  have s1 := g.sd_hi
  by_cases ha : 0 < g.a
  · have e : (g.nxt c).cell = .lst [.int (g.a / c), .int g.b] := by unfold Bag.nxt; rw [dif_pos ⟨ha, h⟩]; rfl
    have e2 : g.val c = g.a % c := if_pos ha
    rw [e, e2]
    simp [f__law_take, g__law_take, fnS_ap, startE_ap, Bag.cell, ha, h, h2]
  · have e : (g.nxt c).cell = .lst [.int g.a, .int g.sd] := by unfold Bag.nxt; rw [dif_neg (by omega), if_neg ha]; rfl
    have e2 : g.val c = g.sd / 13 * (g.sd % 32749 + 17) % 2147483629 / 32 % c := if_neg ha
    rw [e, e2]
    have z0 : 0 ≤ g.sd / 13 := Int.ediv_nonneg s0 (by decide)
    have z1 : g.sd / 13 < 2147483647 := Int.lt_of_le_of_lt (Int.ediv_le_self _ s0) s1
    have z2 : 0 ≤ g.sd % 32749 := Int.emod_nonneg _ (by decide)
    have z3 : g.sd % 32749 < 32749 := Int.emod_lt_of_pos _ (by decide)
    have m1 : opMul [g.cell] (.dat (.int g.b)) (.dat (.int 48271)) = some (.dat (.int (g.b * 48271))) := mul_small (by omega) (by omega)
    have m2 : ∀ μ, opMul μ (.dat (.int (g.sd / 13))) (.dat (.int (g.sd % 32749 + 17))) = some (.dat (.int (g.sd / 13 * (g.sd % 32749 + 17)))) := fun μ => mul_small (by omega) (by omega)
    unfold Bag.sd at m2 ⊢
    unfold Bag.cell at m1
    simp [f__law_take, g__law_take, fnS_ap, startE_ap, Bag.cell, ha, h, h2, m1, m2]
theorem bag_ok {ns : List Int} {k : Int} (h0 : 0 ≤ k) (h1 : k < 2 ^ 40) : ∃ g : Bag, f__law_bag [] [.scr ns, .int k] = .ok (.new g.cell) [] := by
  have kb : k < big := lt_big (by omega)
  have kb' : -big < k := gt_big (by omega)
  have key : ∀ c : Int, 0 ≤ c → c < 10 ^ 60 → ∃ g : Bag, g.cell = .lst [.int (if c < 10 ^ 18 then 0 else c), .int (1 + (c % 2147483629 * 16807 + 40009 * k * k + 7919 * k + 1009) % 2147483645)] := fun c c0 c1 => by
    have z0 := Int.emod_nonneg (c % 2147483629 * 16807 + 40009 * k * k + 7919 * k + 1009) (b := 2147483645) (by decide)
    have z1 := Int.emod_lt_of_pos (c % 2147483629 * 16807 + 40009 * k * k + 7919 * k + 1009) (b := 2147483645) (by decide)
    refine ⟨⟨if c < 10 ^ 18 then 0 else c, _, ?_, ?_, ?_, ?_⟩, rfl⟩
    · split <;> omega
    · split <;> omega
    · omega
    · omega
  have m1 : ∀ (μ : Sto) (c : Int), opMul μ (.dat (.int (c % 2147483629))) (.dat (.int 16807)) = some (.dat (.int (c % 2147483629 * 16807))) := fun μ c => by
    have z0 := Int.emod_nonneg c (b := 2147483629) (by decide)
    have z1 := Int.emod_lt_of_pos c (b := 2147483629) (by decide)
    exact mul_small (by omega) (by omega)
  have m2 : ∀ μ : Sto, opMul μ (.dat (.int (40009 * k))) (.dat (.int k)) = some (.dat (.int (40009 * k * k))) := fun μ => mul_small (by omega) (by omega)
  by_cases hk : k < ns.length
  · have hk2 : k.toNat < ns.length := by omega
    have e : atI (ns.map D.int) k = some (.int ns[k.toNat]) := by
      rw [atI_in h0 (by simpa using hk)]
      simp [List.getD_eq_getElem?_getD, List.getElem?_eq_getElem hk2]
    have ix : ∀ μ : Sto, opIx μ (.dat (.scr ns)) (.dat (.int k)) = some (.dat (.int ns[k.toNat])) := fun μ => ix_sq rfl e
    have c0 := Int.emod_nonneg ns[k.toNat] (b := 10 ^ 60) (by decide)
    have c1 := Int.emod_lt_of_pos ns[k.toNat] (b := 10 ^ 60) (by decide)
    obtain ⟨g, hg⟩ := key _ c0 c1
    refine ⟨g, ?_⟩
    rw [hg]
    simp [f__law_bag, g__law_bag, fnS_ap, startE_ap, hk, ix, m1, m2, kb, kb']
    split <;> rfl
  · obtain ⟨g, hg⟩ := key 0 (by decide) (by decide)
    refine ⟨g, ?_⟩
    rw [hg]
    simp [f__law_bag, g__law_bag, fnS_ap, startE_ap, hk, m1, m2, kb, kb']
theorem of_ok (g : Bag) {ds : List D} (h : 0 < ds.length) (h2 : ds.length < 2 ^ 62) : f__law_of [g.cell] [.lst ds] = .ok (.dat (ds.getD (g.val ds.length).toNat .non)) [(g.nxt ds.length).cell] := by
  have a := g.val_lo (c := ds.length) (by omega)
  have b := g.val_hi (c := ds.length) (by omega)
  have t := take_ok g (c := ds.length) (by omega) (lt_big (by omega))
  have ix : ∀ μ : Sto, opIx μ (.dat (.lst ds)) (.dat (.int (g.val ds.length))) = some (.dat (ds.getD (g.val ds.length).toNat .non)) := fun μ => ix_sq rfl (atI_in a b)
  simp [f__law_of, g__law_of, fnS_ap, startE_ap, t, ix]
theorem of_ints (g : Bag) {ns : List Int} (h : 0 < ns.length) (h2 : ns.length < 2 ^ 62) : ∃ n, n ∈ ns ∧ f__law_of [g.cell] [.lst (ns.map .int)] = .ok (.dat (.int n)) [(g.nxt ns.length).cell] := by
  have o := of_ok g (ds := ns.map .int) (by simpa using h) (by simpa using h2)
  have a := g.val_lo (c := ns.length) (by omega)
  have b := g.val_hi (c := ns.length) (by omega)
  simp only [List.length_map] at o
  have hb : (g.val ns.length).toNat < ns.length := by omega
  refine ⟨ns[(g.val ns.length).toNat], List.getElem_mem _, ?_⟩
  rw [o]
  simp [List.getD_eq_getElem?_getD, List.getElem?_eq_getElem hb]
end Sx

/-! SxDraw: rows, months' worths, lines as the laws draw them. -/
namespace Sx
open PySem L2
abbrev Row := Int × Int × Int
def encR (r : Row) : D := .tup [.int r.1, .int r.2.1, .int r.2.2]
abbrev Wm := List (Int × Int)
def encM (kv : Wm) : List (Key × D) := kv.map fun p => (.inl p.1, .int p.2)
@[simp] theorem encM_nil : encM [] = [] := rfl
@[simp] theorem encM_len {kv : Wm} : (encM kv).length = kv.length := by simp [encM]
theorem encM_get (kv : Wm) (m : Int) : dGet (encM kv) (.inl m) = (dGet kv m).map .int := by
  induction kv with
  | nil => rfl
  | cons p kv ih =>
    obtain ⟨a, b⟩ := p
    unfold dGet encM at ih ⊢
    by_cases h : a = m
    · simp [List.find?_cons, h]
    · simpa [List.find?_cons, h] using ih
theorem encM_put (kv : Wm) (m w : Int) : dPut (encM kv) (.inl m) (.int w) = encM (dPut kv m w) := by
  have e : ((encM kv).any fun p => decide (p.1 = .inl m)) = (kv.any fun p => decide (p.1 = m)) := by simp [encM, List.any_map, Function.comp_def]
  unfold dPut
  rw [e]
  split
  · simp only [encM, List.map_map]
    apply List.map_congr_left
    intro p _
    simp only [Function.comp_apply, Sum.inl.injEq]
    split <;> rfl
  · simp [encM]
theorem dPut_len {κ τ : Type} [DecidableEq κ] (kv : List (κ × τ)) (k : κ) (v : τ) : (dPut kv k v).length ≤ kv.length + 1 := by
  unfold dPut
  split <;> simp
/-- the worth at a month -/
def getM (kv : Wm) (m : Int) : Int := (dGet kv m).getD 0
def addM (kv : Wm) (m w : Int) : Wm := dPut kv m (getM kv m + w)
def spreadN (kv : Wm) (b : Int) (w : Int) : Nat → Wm
  | 0 => kv
  | n + 1 => spreadN (addM kv b w) (b + 1) w n
def spreadR (kv : Wm) (r : Row) : Wm := spreadN kv r.1 r.2.2 (r.2.1 - r.1).toNat
def spreadL (rows : List Row) : Wm := rows.foldl spreadR []
theorem spreadN_len (kv : Wm) (b w : Int) (n : Nat) : (spreadN kv b w n).length ≤ kv.length + n := by
  induction n generalizing kv b with
  | zero => exact Nat.le_refl _
  | succ n ih =>
    have h := ih (addM kv b w) (b + 1)
    have h2 : (addM kv b w).length ≤ kv.length + 1 := dPut_len kv b (getM kv b + w)
    simp only [spreadN]
    omega
/-- a row as the program means it -/
def RowOk (r : Row) : Prop := 0 ≤ r.1 ∧ r.1 < r.2.1 ∧ r.2.1 ≤ 2400 ∧ 0 ≤ r.2.2
theorem spread_in (x : Option Val) (bb ss : Option Val) (w : Int) (n : Nat) : ∀ (b : Int) (kv : Wm) (om : Option Val), kv.length + n ≤ 10000000 →
    ∃ om', forL (gN 5) b__law_spread_2 (rngD b n) [x, some (.loc 0), bb, ss, some (.dat (.int w)), om] [.dic (encM kv)] =
      .next [x, some (.loc 0), bb, ss, some (.dat (.int w)), om'] [.dic (encM (spreadN kv b w n))] := by
  induction n with
  | zero => intro b kv om _; exact ⟨om, by simp [spreadN]⟩
  | succ n ih =>
    intro b kv om h
    have h2 := dPut_len kv b (getM kv b + w)
    obtain ⟨om', e⟩ := ih (b + 1) (addM kv b w) (some (.dat (.int b))) (by unfold addM; omega)
    refine ⟨om', ?_⟩
    rw [rngD_succ]
    have lt : kv.length < sizeLine := by rw [sizeLine_eq]; omega
    have gg : ∀ μ : Sto, getR (.dat (.int 0)) μ (some (dGet (encM kv) (.inl b))) = .ok (.dat (.int (getM kv b))) μ := fun μ => by
      rw [encM_get]
      unfold getM
      cases dGet kv b <;> rfl
    simp [forL, b__law_spread_2, gg, lt, encM_put, spreadN]
    exact e
theorem spread_out (x : Option Val) (rows : List Row) : ∀ (kv : Wm) (o2 o3 o4 o5 : Option Val) (m : Nat), (∀ r ∈ rows, RowOk r) → kv.length + rows.length * 2400 ≤ 10000000 →
    ∃ o2' o3' o4' o5', forL (gT 3 (gsCons (gN 2) (gsCons (gN 3) (gsCons (gN 4) (gsNil))))) b__law_spread_1 (rows.map encR) [x, some (.loc 0), o2, o3, o4, o5] [.dic (encM kv)] =
      .next [x, some (.loc 0), o2', o3', o4', o5'] [.dic (encM (rows.foldl spreadR kv))] := by
  induction rows with
  | nil => intro kv o2 o3 o4 o5 _ _ _; exact ⟨o2, o3, o4, o5, rfl⟩
  | cons r rows ih =>
    intro kv o2 o3 o4 o5 m hr h
    obtain ⟨b, s, w⟩ := r
    obtain ⟨r1, r2, r3, r4⟩ : 0 ≤ b ∧ b < s ∧ s ≤ 2400 ∧ 0 ≤ w := hr _ List.mem_cons_self
    have l1 := spreadN_len kv b w (s - b).toNat
    have hl : (rows.length + 1) * 2400 = rows.length * 2400 + 2400 := by omega
    simp only [List.length_cons, hl] at h
    obtain ⟨om', e⟩ := spread_in x (some (.dat (.int b))) (some (.dat (.int s))) w (s - b).toNat b kv o5 (by omega)
    obtain ⟨o2', o3', o4', o5', e2⟩ := ih (spreadN kv b w (s - b).toNat) (some (.dat (.int b))) (some (.dat (.int s))) (some (.dat (.int w))) om' m (fun r h => hr r (List.mem_cons_of_mem _ h)) (by omega)
    refine ⟨o2', o3', o4', o5', ?_⟩
    have rg : rng2 (.dat (.int b)) (.dat (.int s)) = some (rngD b (s - b).toNat) := rng2_ok (by omega) (by omega) (by omega) (by omega) (by omega)
    simp [forL, b__law_spread_1, encR, rg, e]
    exact e2
theorem spread_ok {d : D} {rows : List Row} (hd : ∀ μ, itA (.dat d) μ = some (rows.map encR)) (h : ∀ r ∈ rows, RowOk r) (hl : rows.length ≤ 4000) : f__law_spread [] [d] = .ok (.new (.dic (encM (spreadL rows)))) [] := by
  obtain ⟨o2, o3, o4, o5, e⟩ := spread_out (some (.dat d)) rows [] none none none none 0 h (by simp; omega)
  simp only [encM_nil] at e
  simp [f__law_spread, g__law_spread, fnS_ap, startE_ap, hd, e, spreadL]
/-! ### a row -/
theorem row_ok (g : Bag) {base : Int} (h0 : -(10 ^ 9) ≤ base) (h1 : base ≤ 10 ^ 9) : ∃ (r : Row) (g' : Bag), f__law_row [g.cell] [.int base] = .ok (.dat (encR r)) [g'.cell] ∧ RowOk r ∧ r.2.1 - r.1 ≤ 300 ∧ r.2.2 ≤ 10 ^ 6 := by
  have c : ∀ n : Int, 0 < n → n < 2 ^ 62 → n < big := fun n _ h => lt_big (by omega)
  have t1 := take_ok g (c := 400) (by decide) (c _ (by decide) (by decide))
  have v0 := g.val_lo (c := 400) (by decide)
  have v1 := g.val_hi (c := 400) (by decide)
  let g1 := g.nxt 400
  have t2 := take_ok g1 (c := 300) (by decide) (c _ (by decide) (by decide))
  have w0 := g1.val_lo (c := 300) (by decide)
  have w1 := g1.val_hi (c := 300) (by decide)
  let g2 := g1.nxt 300
  obtain ⟨many, hm, t3⟩ := of_ints g2 (ns := [1, 12, 40, 120, 1 + g1.val 300]) (by simp) (by simp)
  let g3 := g2.nxt 5
  have t4 := take_ok g3 (c := 100000) (by decide) (c _ (by decide) (by decide))
  have x0 := g3.val_lo (c := 100000) (by decide)
  have x1 := g3.val_hi (c := 100000) (by decide)
  let g4 := g3.nxt 100000
  obtain ⟨wo, hw, t5⟩ := of_ints g4 (ns := [0, 1000, 1000, 2500, 2501, g3.val 100000, 1000000]) (by simp) (by simp)
  let g5 := g4.nxt 7
  refine ⟨(max 0 (min 2399 (base + g.val 400)), min 2400 (max 0 (min 2399 (base + g.val 400)) + many), wo), g5, ?_, ?_⟩
  · simp only [List.map_cons, List.map_nil, List.length_cons, List.length_nil] at t3 t5
    have t3 : f__law_of [(g2).cell] [.lst [.int 1, .int 12, .int 40, .int 120, .int (1 + g1.val 300)]] = .ok (.dat (.int many)) [g3.cell] := t3
    have t5 : f__law_of [(g4).cell] [.lst [.int 0, .int 1000, .int 1000, .int 2500, .int 2501, .int (g3.val 100000), .int 1000000]] = .ok (.dat (.int wo)) [g5.cell] := t5
    have t1 : f__law_take [g.cell] [.int 400] = .ok (.dat (.int (g.val 400))) [g1.cell] := t1
    have t2 : f__law_take [g1.cell] [.int 300] = .ok (.dat (.int (g1.val 300))) [g2.cell] := t2
    have t4 : f__law_take [g3.cell] [.int 100000] = .ok (.dat (.int (g3.val 100000))) [g4.cell] := t4
    clear_value g1 g2 g3 g4 g5
    simp [f__law_row, g__law_row, fnS_ap, startE_ap, t1, t2, t3, t4, t5, encR]
  · have hm2 : 1 ≤ many ∧ many ≤ 300 := by
      simp only [List.mem_cons, List.not_mem_nil, or_false] at hm
      have w0' : 0 ≤ g1.val 300 := w0
      have w1' : g1.val 300 < 300 := w1
      omega
    have hw2 : 0 ≤ wo ∧ wo ≤ 1000000 := by
      simp only [List.mem_cons, List.not_mem_nil, or_false] at hw
      have x0' : 0 ≤ g3.val 100000 := x0
      have x1' : g3.val 100000 < 100000 := x1
      omega
    unfold RowOk
    simp only
    omega
/-! ### rows drawn -/
theorem cell_set {μ : Sto} {k : Nat} {c c' : Cell} (h : μ[k]? = some c) : (μ.set k c')[k]? = some c' := by
  have hk := (List.getElem?_eq_some_iff.mp h).1
  rw [List.getElem?_set_self hk]
theorem enc_rows {ds : List D} {P : Row → Prop} (h : ∀ d ∈ ds, ∃ r, d = encR r ∧ P r) : ∃ rows : List Row, ds = rows.map encR ∧ ∀ r ∈ rows, P r := by
  induction ds with
  | nil => exact ⟨[], rfl, by simp⟩
  | cons d ds ih =>
    obtain ⟨r, rfl, p⟩ := h d List.mem_cons_self
    obtain ⟨rows, rfl, q⟩ := ih fun d hd => h d (List.mem_cons_of_mem _ hd)
    exact ⟨r :: rows, rfl, fun x hx => (List.mem_cons.mp hx).elim (fun e => e ▸ p) (q x)⟩
def SmallRow (r : Row) : Prop := RowOk r ∧ r.2.1 - r.1 ≤ 300 ∧ r.2.2 ≤ 10 ^ 6
theorem drawn_rows_ok (g : Bag) {most : Int} (h0 : 0 ≤ most) (h1 : most ≤ 1000) : ∃ (rows : List Row) (g' : Bag), f__law_drawn_rows [g.cell] [.int most] = .ok (.dat (.lst (rows.map encR))) [g'.cell] ∧ (∀ r ∈ rows, SmallRow r) ∧ rows.length ≤ most := by
  obtain ⟨base, hb, t1⟩ := of_ints g (ns := [900, 900, 1000, 0, 2200]) (by simp) (by simp)
  have t1 : f__law_of [g.cell] [.lst [.int 900, .int 900, .int 1000, .int 0, .int 2200]] = .ok (.dat (.int base)) [(g.nxt 5).cell] := t1
  have hb2 : -(10 ^ 9) ≤ base ∧ base ≤ 10 ^ 9 := by
    simp only [List.mem_cons, List.not_mem_nil, or_false] at hb
    omega
  have t2 := take_ok (g.nxt 5) (c := most + 1) (by omega) (lt_big (by omega))
  have v0 := (g.nxt 5).val_lo (c := most + 1) (by omega)
  have v1 := (g.nxt 5).val_hi (c := most + 1) (by omega)
  have rg : rng1 (.dat (.int ((g.nxt 5).val (most + 1)))) = some (rngD 0 ((g.nxt 5).val (most + 1)).toNat) := rng1_ok (by omega) (by omega)
  obtain ⟨xs, μ', e1, e2, ⟨g', rfl⟩, e4⟩ := compL_sat (g := gN 3) (ρ := [some (.loc 0), some (.dat (.int most)), some (.dat (.int base)), none]) (μ := [((g.nxt 5).nxt (most + 1)).cell]) (ds := rngD 0 ((g.nxt 5).val (most + 1)).toNat)
    (e := sCallF [true, false] f__law_row [sVar 0, sVar 2]) (fun μ => ∃ g' : Bag, μ = [g'.cell]) (fun d => ∃ r, d = encR r ∧ SmallRow r) (by
      rintro d μ hd ⟨g2, rfl⟩
      obtain ⟨r, g3, f1, f2, f3, f4⟩ := row_ok g2 hb2.1 hb2.2
      exact ⟨_, rfl, .dat (encR r), [g3.cell], by simp [f1], by simp, ⟨r, rfl, f2, f3, f4⟩, g3, rfl⟩) ⟨_, rfl⟩
  obtain ⟨rows, rfl, hr⟩ := enc_rows e2
  refine ⟨rows, g', ?_, hr, ?_⟩
  · simp [f__law_drawn_rows, g__law_drawn_rows, fnS_ap, startE_ap, t1, t2, rg, e1]
  · rw [List.length_map] at e4
    rw [e4]
    simp only [rngD, List.length_map, List.length_range]
    omega
/-! ### a line of worths by months -/
def lineStep (acc : List Row) (m w : Int) : List Row := match acc.getLast? with
  | some (b, s, v) => if s = m ∧ v = w then acc.dropLast ++ [(b, m + 1, w)] else acc ++ [(m, m + 1, w)]
  | none => [(m, m + 1, w)]
def lineGo (kv : Wm) : List Int → List Row → List Row
  | [], acc => acc
  | m :: ms, acc => lineGo kv ms (lineStep acc m (getM kv m))
def lineOf (kv : Wm) : List Row := lineGo kv (srtI (kv.map (·.1))) []
theorem keysI_enc (kv : Wm) : keysI (encM kv) = some (kv.map (·.1)) := by
  induction kv with
  | nil => rfl
  | cons p kv ih =>
    show (keysI (encM kv)).map (p.1 :: ·) = _
    rw [ih]; rfl
theorem sort_enc {μ : Sto} (kv : Wm) : opSortI μ [.dat (.dic (encM kv))] = some (.new (.lst ((srtI (kv.map (·.1))).map .int))) := by
  simp [opSortI, c1, rdL, rdD, keysI_enc]
theorem py_rows (rows : List Row) : ∃ ps, (rows.map encR).mapM (D.py 29) = some ps ∧ ps.length = rows.length := by
  induction rows with
  | nil => exact ⟨[], rfl, rfl⟩
  | cons r rows ih =>
    obtain ⟨ps, e, l⟩ := ih
    refine ⟨.tuple [.int r.1, .int r.2.1, .int r.2.2] :: ps, ?_, by simp [l]⟩
    rw [List.map_cons, List.mapM_cons, e]
    rfl
theorem ne_empty {μ : Sto} {k : Nat} {rows : List Row} (h : μ[k]? = some (.lst (rows.map encR))) : opNe μ (.loc k) (.dat (.lst [])) = some (.dat (.bl (!rows.isEmpty))) := by
  obtain ⟨ps, e, l⟩ := py_rows rows
  have z : ssO (fun i j => !decide (i = j)) μ (.loc k) (.dat (.lst [])) = none := rfl
  unfold opNe orO
  rw [z, Option.none_or]
  unfold eqData
  have e1 : D.py 30 (.lst (rows.map encR)) = some (.list ps) := by simp [D.py, e]
  simp only [toD, h, Option.map_some, frz_lst, e1]
  show some (Res.dat (.bl (!PyData.eqv (.list ps) (.list [])))) = _
  congr 3
  cases ps with
  | nil => cases rows with
    | nil => rfl
    | cons => simp at l
  | cons p ps => cases rows with
    | nil => simp at l
    | cons => rfl
theorem atI_last {ds : List D} {d : D} : atI (ds ++ [d]) (-1) = some d := by
  unfold atI ixN
  rw [if_neg (by omega), if_pos (by simp; omega)]
  have e : (-1 + ((ds ++ [d]).length : Int)).toNat = ds.length := by
    rw [List.length_append, List.length_singleton]; omega
  simp only [Option.bind_some, e]
  simp
theorem ixN_last {n : Nat} (h : 0 < n) : ixN n (-1) = some (n - 1) := by
  unfold ixN
  rw [if_neg (by omega), if_pos (by omega)]
  congr 1
  omega
theorem mem_getM {kv : Wm} {m : Int} (h : m ∈ kv.map (·.1)) : dGet kv m = some (getM kv m) := by
  unfold getM
  cases e : dGet kv m with
  | some w => rfl
  | none =>
    unfold dGet at e
    rw [Option.map_eq_none_iff, List.find?_eq_none] at e
    obtain ⟨p, hp, rfl⟩ := List.mem_map.mp h
    exact absurd (by simp) (e p hp)
theorem line_step (kv : Wm) (acc : List Row) (m : Int) (hm : m ∈ kv.map (·.1)) (hl : acc.length < 1000000) :
    b__law_line_of_1 [some (.dat (.dic (encM kv))), some (.loc 0), some (.dat (.int m))] [.lst (acc.map encR)] =
      .next [some (.dat (.dic (encM kv))), some (.loc 0), some (.dat (.int m))] [.lst ((lineStep acc m (getM kv m)).map encR)] := by
  have gx : ∀ μ : Sto, opIx μ (.dat (.dic (encM kv))) (.dat (.int m)) = some (.dat (.int (getM kv m))) := fun μ => ix_dic rfl rfl (by rw [encM_get, mem_getM hm]; rfl)
  have ne : opNe [.lst (acc.map encR)] (.loc 0) (.dat (.lst [])) = some (.dat (.bl (!acc.isEmpty))) := ne_empty rfl
  have ap : sMetL opAppend (sVar 1) [sTup [sVar 2, sBin opAdd (sVar 2) (sC (.int 1)), sBin opIx (sVar 0) (sVar 2)]] [some (.dat (.dic (encM kv))), some (.loc 0), some (.dat (.int m))] [.lst (acc.map encR)] = .ok (.dat .non) [.lst ((acc ++ [(m, m + 1, getM kv m)]).map encR)] := by
    rw [sMet_loc (k := 0) (ds := acc.map encR) (μ1 := [.lst (acc.map encR)]) (μ2 := [.lst (acc.map encR)]) (as := [.dat (encR (m, m + 1, getM kv m))]) (by simp) rfl (by simp [gx, encR]) (append_ok rfl (by rw [sizeLine_eq]; simp; omega))]
    simp
  rcases List.eq_nil_or_concat acc with rfl | ⟨ini, ⟨b, s, v⟩, rfl⟩
  · simp only [List.map_nil, List.isEmpty_nil, Bool.not_true] at ne ap
    simp [b__law_line_of_1, ne, ap, lineStep]
  · rw [List.concat_eq_append] at ne ap hl ⊢
    have lx : ∀ μ : Sto, μ[0]? = some (.lst ((ini ++ [(b, s, v)]).map encR)) → opIx μ (.loc 0) (.dat (.int (-1))) = some (.dat (encR (b, s, v))) := fun μ h => ix_sq (rdS_loc h) (by rw [List.map_append]; exact atI_last)
    have e0 : (ini ++ [(b, s, v)]).isEmpty = false := by simp
    rw [e0] at ne
    have lx := lx [.lst ((ini ++ [(b, s, v)]).map encR)] rfl
    have st : setC [.lst ((ini ++ [(b, s, v)]).map encR)] 0 (.dat (.int (-1))) (encR (b, m + 1, getM kv m)) = some [.lst ((ini ++ [(b, m + 1, getM kv m)]).map encR)] := by
      rw [setC_0 (ixN_last (by simp))]
      simp [encR]
    have ls : lineStep (ini ++ [(b, s, v)]) m (getM kv m) = if s = m ∧ v = getM kv m then ini ++ [(b, m + 1, getM kv m)] else (ini ++ [(b, s, v)]) ++ [(m, m + 1, getM kv m)] := by simp [lineStep]
    rw [ls]
    generalize (ini ++ [(b, s, v)]).map encR = A at ne ap lx st ⊢
    by_cases h1 : s = m
    · by_cases h2 : v = getM kv m
      · rw [if_pos ⟨h1, h2⟩]
        simp only [encR] at st lx
        simp [b__law_line_of_1, ne, lx, encR, h1, h2, gx, st]
      · rw [if_neg (by simp [h2])]
        simp only [encR] at lx
        simp only [List.map_append] at ap
        simp [b__law_line_of_1, ne, lx, h1, h2, gx, ap]
    · rw [if_neg (by simp [h1])]
      simp only [encR] at lx
      simp [b__law_line_of_1, ne, lx, h1, gx, ap]
theorem lineStep_len (acc : List Row) (m w : Int) : (lineStep acc m w).length ≤ acc.length + 1 := by
  rcases List.eq_nil_or_concat acc with rfl | ⟨ini, ⟨b, s, v⟩, rfl⟩
  · simp [lineStep]
  · rw [List.concat_eq_append]
    have ls : lineStep (ini ++ [(b, s, v)]) m w = if s = m ∧ v = w then ini ++ [(b, m + 1, w)] else (ini ++ [(b, s, v)]) ++ [(m, m + 1, w)] := by simp [lineStep]
    rw [ls]
    split <;> simp
theorem line_loop (kv : Wm) : ∀ (ms : List Int) (acc : List Row) (o : Option Val), (∀ m ∈ ms, m ∈ kv.map (·.1)) → acc.length + ms.length ≤ 1000000 →
    ∃ o', forL (gN 2) b__law_line_of_1 (ms.map .int) [some (.dat (.dic (encM kv))), some (.loc 0), o] [.lst (acc.map encR)] =
      .next [some (.dat (.dic (encM kv))), some (.loc 0), o'] [.lst ((lineGo kv ms acc).map encR)] := by
  intro ms
  induction ms with
  | nil => intro acc o _ _; exact ⟨o, rfl⟩
  | cons m ms ih =>
    intro acc o hm hl
    simp only [List.length_cons] at hl
    have l1 := lineStep_len acc m (getM kv m)
    obtain ⟨o', e⟩ := ih (lineStep acc m (getM kv m)) (some (.dat (.int m))) (fun x h => hm x (List.mem_cons_of_mem _ h)) (by omega)
    refine ⟨o', ?_⟩
    have st := line_step kv acc m (hm m List.mem_cons_self) (by omega)
    simp only [List.map_cons, forL, gN_ap, List.set_cons_succ, List.set_cons_zero]
    rw [st]
    exact e
theorem line_of_ok (kv : Wm) (hl : kv.length ≤ 1000000) : f__law_line_of [] [.dic (encM kv)] = .ok (.dat (.tup ((lineOf kv).map encR))) [] := by
  have hp := srtI_perm (kv.map (·.1))
  obtain ⟨o, e⟩ := line_loop kv (srtI (kv.map (·.1))) [] none (fun m h => hp.mem_iff.mp h) (by simp [hp.length_eq]; omega)
  simp only [List.map_nil] at e
  simp [f__law_line_of, g__law_line_of, fnS_ap, startE_ap, sort_enc, e, tuple_sq (rdS_loc0 (ds := (lineGo kv (srtI (kv.map (·.1))) []).map encR)), lineOf]
theorem spreadL_len (rows : List Row) (kv : Wm) (h : ∀ r ∈ rows, RowOk r) : (rows.foldl spreadR kv).length ≤ kv.length + rows.length * 2400 := by
  induction rows generalizing kv with
  | nil => simp
  | cons r rows ih =>
    have h1 := spreadN_len kv r.1 r.2.2 (r.2.1 - r.1).toNat
    obtain ⟨a, b, c, d⟩ := h r List.mem_cons_self
    have h2 := ih (spreadR kv r) fun x hx => h x (List.mem_cons_of_mem _ hx)
    simp only [List.foldl_cons, List.length_cons]
    unfold spreadR at h2 ⊢
    omega
theorem drawn_line_ok (g : Bag) {most : Int} (h0 : 0 ≤ most) (h1 : most ≤ 400) : ∃ (rows : List Row) (g' : Bag), f__law_drawn_line [g.cell] [.int most] = .ok (.dat (.tup ((lineOf (spreadL rows)).map encR))) [g'.cell] ∧ (∀ r ∈ rows, SmallRow r) ∧ rows.length ≤ most := by
  obtain ⟨rows, g', e1, e2, e3⟩ := drawn_rows_ok g h0 (by omega : most ≤ 1000)
  refine ⟨rows, g', ?_, e2, e3⟩
  have sp := spread_ok (d := .lst (rows.map encR)) (fun _ => rfl) (fun r h => (e2 r h).1) (by omega)
  have ln := line_of_ok (spreadL rows) (by have := spreadL_len rows [] fun r h => (e2 r h).1; unfold spreadL; simp at this; omega)
  simp [f__law_drawn_line, g__law_drawn_line, fnS_ap, startE_ap, e1, sp, ln]
end Sx

/-! SxM1: lines, plainly: what a line has in a month; lines that say the same are the same. -/
namespace Sx
/-- what a line has in a month -/
def look : List Row → Int → Option Int
  | [], _ => none
  | r :: rs, m => if r.1 ≤ m ∧ m < r.2.1 then some r.2.2 else look rs m
def Link (r s : Row) : Prop := r.2.1 ≤ s.1 ∧ ¬ (r.2.1 = s.1 ∧ r.2.2 = s.2.2)
structure Flat (l : List Row) : Prop where
  pw : l.Pairwise fun r s => r.2.1 ≤ s.1
  ne : ∀ r ∈ l, r.1 < r.2.1
structure Canon (l : List Row) : Prop where
  pw : l.Pairwise Link
  ne : ∀ r ∈ l, r.1 < r.2.1
theorem Canon.flat {l : List Row} (h : Canon l) : Flat l := ⟨h.pw.imp fun h => h.1, h.ne⟩
theorem Canon.nil : Canon [] := ⟨.nil, by simp⟩
theorem Flat.nil : Flat [] := ⟨.nil, by simp⟩
theorem Canon.tail {r : Row} {l : List Row} (h : Canon (r :: l)) : Canon l := ⟨(List.pairwise_cons.mp h.pw).2, fun s hs => h.ne s (List.mem_cons_of_mem _ hs)⟩
theorem Flat.tail {r : Row} {l : List Row} (h : Flat (r :: l)) : Flat l := ⟨(List.pairwise_cons.mp h.pw).2, fun s hs => h.ne s (List.mem_cons_of_mem _ hs)⟩
theorem look_none {l : List Row} {m : Int} (h : ∀ r ∈ l, ¬ (r.1 ≤ m ∧ m < r.2.1)) : look l m = none := by
  induction l with
  | nil => rfl
  | cons r l ih =>
    unfold look
    rw [if_neg (h r List.mem_cons_self)]
    exact ih fun s hs => h s (List.mem_cons_of_mem _ hs)
theorem look_append {l k : List Row} {m : Int} : look (l ++ k) m = (look l m).or (look k m) := by
  induction l with
  | nil => rfl
  | cons r l ih =>
    simp only [List.cons_append, look]
    split
    · rfl
    · exact ih
theorem look_some {l : List Row} {m w : Int} (h : look l m = some w) : ∃ r ∈ l, r.1 ≤ m ∧ m < r.2.1 ∧ r.2.2 = w := by
  induction l with
  | nil => cases h
  | cons r l ih =>
    unfold look at h
    split at h
    · rename_i q; exact ⟨r, List.mem_cons_self, q.1, q.2, Option.some.inj h⟩
    · obtain ⟨s, h1, h2⟩ := ih h; exact ⟨s, List.mem_cons_of_mem _ h1, h2⟩
theorem look_mem {l : List Row} (h : Flat l) {r : Row} (hr : r ∈ l) {m : Int} (h1 : r.1 ≤ m) (h2 : m < r.2.1) : look l m = some r.2.2 := by
  induction l with
  | nil => cases hr
  | cons s l ih =>
    rcases List.mem_cons.mp hr with rfl | hr
    · unfold look; rw [if_pos ⟨h1, h2⟩]
    · have := (List.pairwise_cons.mp h.pw).1 r hr
      unfold look
      rw [if_neg (by omega)]
      exact ih h.tail hr
/-- lines that say the same of each month are the same -/
theorem canon_ext : ∀ {l k : List Row}, Canon l → Canon k → (∀ m, look l m = look k m) → l = k
  | [], [], _, _, _ => rfl
  | [], s :: k, _, hk, e => by
    have := look_mem hk.flat List.mem_cons_self (m := s.1) (Int.le_refl _) (hk.ne s List.mem_cons_self)
    rw [← e] at this; cases this
  | r :: l, [], hl, _, e => by
    have := look_mem hl.flat List.mem_cons_self (m := r.1) (Int.le_refl _) (hl.ne r List.mem_cons_self)
    rw [e] at this; cases this
  | r :: l, s :: k, hl, hk, e => by
    have r0 := hl.ne r List.mem_cons_self
    have s0 := hk.ne s List.mem_cons_self
    have rl := (List.pairwise_cons.mp hl.pw).1
    have sk := (List.pairwise_cons.mp hk.pw).1
    have bef : ∀ {r : Row} {l : List Row}, Canon (r :: l) → ∀ m, m < r.1 → look (r :: l) m = none := fun {r l} h m hm => look_none fun t ht => by
      rcases List.mem_cons.mp ht with rfl | ht
      · omega
      · have := ((List.pairwise_cons.mp h.pw).1 t ht).1
        have := h.ne r List.mem_cons_self
        omega
    have a1 := look_mem hl.flat List.mem_cons_self (m := r.1) (Int.le_refl _) r0
    have b1 := look_mem hk.flat List.mem_cons_self (m := s.1) (Int.le_refl _) s0
    have e1 : r.1 = s.1 := by
      rcases Int.lt_trichotomy r.1 s.1 with h | h | h
      · rw [e, bef hk _ h] at a1; cases a1
      · exact h
      · rw [← e, bef hl _ h] at b1; cases b1
    have e2 : r.2.2 = s.2.2 := by
      rw [e, e1, b1] at a1; exact (Option.some.inj a1).symm
    -- the ends
    have key : ∀ {r s : Row} {l k : List Row}, Canon (r :: l) → Canon (s :: k) → (∀ m, look (r :: l) m = look (s :: k) m) → r.1 = s.1 → r.2.2 = s.2.2 → ¬ r.2.1 < s.2.1 := by
      intro r s l k hl hk e e1 e2 h
      have r0 := hl.ne r List.mem_cons_self
      have q := look_mem hk.flat List.mem_cons_self (m := r.2.1) (by omega) h
      rw [← e] at q
      obtain ⟨t, ht, t1, t2, t3⟩ := look_some q
      rcases List.mem_cons.mp ht with rfl | ht
      · omega
      · obtain ⟨u1, u2⟩ := (List.pairwise_cons.mp hl.pw).1 t ht
        exact u2 ⟨by omega, by omega⟩
    have e3 : r.2.1 = s.2.1 := by
      have := key hl hk e e1 e2
      have := key hk hl (fun m => (e m).symm) e1.symm e2.symm
      omega
    have ers : r = s := by
      obtain ⟨a, b, c⟩ := r; obtain ⟨a', b', c'⟩ := s
      simp only at e1 e2 e3
      rw [e1, e2, e3]
    subst ers
    rw [canon_ext hl.tail hk.tail fun m => ?_]
    by_cases hm : m < r.2.1
    · rw [look_none fun t ht => by have := (rl t ht).1; omega, look_none fun t ht => by have := (sk t ht).1; omega]
    · have := e m
      unfold look at this
      rwa [if_neg (by omega), if_neg (by omega)] at this

/-! ### rows joined -/
def joinStep (acc : List Row) (r : Row) : List Row := match acc.getLast? with
  | some q => if q.2.1 = r.1 ∧ q.2.2 = r.2.2 then acc.dropLast ++ [(q.1, r.2.1, r.2.2)] else acc ++ [r]
  | none => [r]
def joined (rows : List Row) : List Row := rows.foldl joinStep []
theorem joinStep_nil {r : Row} : joinStep [] r = [r] := rfl
theorem joinStep_snoc {acc : List Row} {q r : Row} : joinStep (acc ++ [q]) r = if q.2.1 = r.1 ∧ q.2.2 = r.2.2 then acc ++ [(q.1, r.2.1, r.2.2)] else (acc ++ [q]) ++ [r] := by simp [joinStep]
theorem lineStep_join (acc : List Row) (m w : Int) : lineStep acc m w = joinStep acc (m, m + 1, w) := by
  unfold lineStep joinStep
  cases acc.getLast? with
  | none => rfl
  | some q => rfl
theorem snoc_cases (l : List Row) : l = [] ∨ ∃ k q, l = k ++ [q] := by
  rcases List.eq_nil_or_concat l with h | ⟨k, q, h⟩
  · exact .inl h
  · exact .inr ⟨k, q, by rw [h, List.concat_eq_append]⟩
theorem canon_snoc {l : List Row} {r : Row} : Canon (l ++ [r]) ↔ Canon l ∧ r.1 < r.2.1 ∧ ∀ q ∈ l, Link q r := by
  constructor
  · intro h
    have := List.pairwise_append.mp h.pw
    exact ⟨⟨this.1, fun s hs => h.ne s (by simp [hs])⟩, h.ne r (by simp), fun q hq => this.2.2 q hq r (by simp)⟩
  · rintro ⟨h1, h2, h3⟩
    refine ⟨List.pairwise_append.mpr ⟨h1.pw, by simp, fun a ha b hb => by rw [List.mem_singleton.mp hb]; exact h3 a ha⟩, fun s hs => ?_⟩
    rcases List.mem_append.mp hs with hs | hs
    · exact h1.ne s hs
    · rw [List.mem_singleton.mp hs]; exact h2
theorem flat_snoc {l : List Row} {r : Row} : Flat (l ++ [r]) ↔ Flat l ∧ r.1 < r.2.1 ∧ ∀ q ∈ l, q.2.1 ≤ r.1 := by
  constructor
  · intro h
    have := List.pairwise_append.mp h.pw
    exact ⟨⟨this.1, fun s hs => h.ne s (by simp [hs])⟩, h.ne r (by simp), fun q hq => this.2.2 q hq r (by simp)⟩
  · rintro ⟨h1, h2, h3⟩
    refine ⟨List.pairwise_append.mpr ⟨h1.pw, by simp, fun a ha b hb => by rw [List.mem_singleton.mp hb]; exact h3 a ha⟩, fun s hs => ?_⟩
    rcases List.mem_append.mp hs with hs | hs
    · exact h1.ne s hs
    · rw [List.mem_singleton.mp hs]; exact h2
def ends (l : List Row) (b : Int) : Prop := ∀ q ∈ l, q.2.1 ≤ b
theorem join_step {acc : List Row} {r : Row} (h : Canon acc) (hr : r.1 < r.2.1) (he : ends acc r.1) : Canon (joinStep acc r) ∧ (∀ m, look (joinStep acc r) m = look (acc ++ [r]) m) ∧ ends (joinStep acc r) r.2.1 := by
  rcases snoc_cases acc with rfl | ⟨k, q, rfl⟩
  · rw [joinStep_nil]
    exact ⟨⟨by simp, by simpa using hr⟩, fun m => rfl, fun q hq => by rw [List.mem_singleton.mp hq]; exact Int.le_refl _⟩
  · rw [joinStep_snoc]
    have hq := he q (by simp)
    obtain ⟨hk, q0, hl⟩ := canon_snoc.mp h
    split
    · rename_i hm
      refine ⟨canon_snoc.mpr ⟨hk, by simp only; omega, fun s hs => ⟨(hl s hs).1, fun z => (hl s hs).2 ⟨z.1, by rw [hm.2]; exact z.2⟩⟩⟩, fun m => ?_, fun s hs => ?_⟩
      · simp only [look_append, List.append_assoc, Option.or_assoc]
        congr 1
        simp only [look]
        by_cases h1 : q.1 ≤ m ∧ m < q.2.1
        · rw [if_pos h1, if_pos (by omega), hm.2]; rfl
        · rw [if_neg h1]
          by_cases h2 : r.1 ≤ m ∧ m < r.2.1
          · rw [if_pos h2, if_pos (by omega)]; rfl
          · rw [if_neg h2, if_neg (by omega)]; rfl
      · rcases List.mem_append.mp hs with hs | hs
        · have := (hl s hs).1; omega
        · rw [List.mem_singleton.mp hs]; exact Int.le_refl _
    · rename_i hm
      refine ⟨canon_snoc.mpr ⟨h, hr, fun s hs => ?_⟩, fun m => rfl, fun s hs => ?_⟩
      · rcases List.mem_append.mp hs with hs | hs
        · have := (hl s hs).1
          exact ⟨by omega, fun z => by omega⟩
        · rw [List.mem_singleton.mp hs]; exact ⟨hq, hm⟩
      · rcases List.mem_append.mp hs with hs | hs
        · have := he s hs; omega
        · rw [List.mem_singleton.mp hs]; exact Int.le_refl _
theorem join_fold : ∀ (rows acc : List Row), Canon acc → Flat rows → (∀ r ∈ rows, ends acc r.1) → Canon (rows.foldl joinStep acc) ∧ ∀ m, look (rows.foldl joinStep acc) m = look (acc ++ rows) m
  | [], acc, h, _, _ => ⟨h, fun m => by simp⟩
  | r :: rows, acc, h, hf, he => by
    obtain ⟨h1, h2, h3⟩ := join_step h (hf.ne r List.mem_cons_self) (he r List.mem_cons_self)
    obtain ⟨h4, h5⟩ := join_fold rows (joinStep acc r) h1 hf.tail fun s hs q hq => Int.le_trans (h3 q hq) ((List.pairwise_cons.mp hf.pw).1 s hs)
    refine ⟨h4, fun m => ?_⟩
    rw [List.foldl_cons, h5, look_append, h2, ← look_append, List.append_assoc]; rfl
theorem joined_canon {rows : List Row} (h : Flat rows) : Canon (joined rows) := (join_fold rows [] Canon.nil h fun _ _ _ hq => by cases hq).1
theorem joined_look {rows : List Row} (h : Flat rows) (m : Int) : look (joined rows) m = look rows m := (join_fold rows [] Canon.nil h fun _ _ _ hq => by cases hq).2 m
theorem joined_of_canon {l : List Row} (h : Canon l) : joined l = l := canon_ext (joined_canon h.flat) h fun m => joined_look h.flat m
theorem joined_eq {l k : List Row} (h : Flat l) (hk : Canon k) (e : ∀ m, look l m = look k m) : joined l = k := canon_ext (joined_canon h) hk fun m => (joined_look h m).trans (e m)

/-! ### how many months, what they come to -/
def monthsIn (l : List Row) : Int := (l.map fun r => r.2.1 - r.1).sum
def worthOf (l : List Row) : Int := (l.map fun r => (r.2.1 - r.1) * r.2.2).sum
theorem monthsIn_append (l k : List Row) : monthsIn (l ++ k) = monthsIn l + monthsIn k := by simp [monthsIn]
theorem worthOf_append (l k : List Row) : worthOf (l ++ k) = worthOf l + worthOf k := by simp [worthOf]
theorem joinStep_sums (acc : List Row) (r : Row) : monthsIn (joinStep acc r) = monthsIn (acc ++ [r]) ∧ worthOf (joinStep acc r) = worthOf (acc ++ [r]) := by
  rcases snoc_cases acc with rfl | ⟨k, q, rfl⟩
  · exact ⟨rfl, rfl⟩
  · rw [joinStep_snoc]
    split
    · rename_i hm
      constructor
      · simp only [monthsIn_append]
        simp only [monthsIn, List.map_cons, List.map_nil, List.sum_cons, List.sum_nil]; omega
      · simp only [worthOf_append]
        simp only [worthOf, List.map_cons, List.map_nil, List.sum_cons, List.sum_nil]
        rw [hm.2, ← hm.1]
        simp only [Int.sub_mul]
        omega
    · exact ⟨rfl, rfl⟩
theorem joined_sums (rows : List Row) : monthsIn (joined rows) = monthsIn rows ∧ worthOf (joined rows) = worthOf rows := by
  have key : ∀ (rows acc : List Row), monthsIn (rows.foldl joinStep acc) = monthsIn (acc ++ rows) ∧ worthOf (rows.foldl joinStep acc) = worthOf (acc ++ rows) := by
    intro rows
    induction rows with
    | nil => intro acc; simp
    | cons r rows ih =>
      intro acc
      have := ih (joinStep acc r)
      have s := joinStep_sums acc r
      simp only [List.foldl_cons, this.1, this.2, monthsIn_append, worthOf_append, s.1, s.2]
      have z1 : monthsIn (r :: rows) = monthsIn [r] + monthsIn rows := monthsIn_append [r] rows
      have z2 : worthOf (r :: rows) = worthOf [r] + worthOf rows := worthOf_append [r] rows
      rw [z1, z2]
      omega
  exact key rows []

/-! ### the law's line of worths -/
def unit (kv : Wm) (m : Int) : Row := (m, m + 1, getM kv m)
def units (kv : Wm) : List Row := (srtI (kv.map (·.1))).map (unit kv)
theorem lineGo_join (kv : Wm) : ∀ (ms : List Int) (acc : List Row), lineGo kv ms acc = (ms.map (unit kv)).foldl joinStep acc
  | [], _ => rfl
  | m :: ms, acc => by
    rw [List.map_cons, List.foldl_cons, ← lineGo_join kv ms, lineGo, lineStep_join]; rfl
theorem lineOf_join (kv : Wm) : lineOf kv = joined (units kv) := lineGo_join kv _ []
/-- each key once -/
def Uniq {τ : Type} (kv : List (Int × τ)) : Prop := (kv.map (·.1)).Nodup
theorem sorted_lt {ns : List Int} (h : ns.Nodup) : (srtI ns).Pairwise (· < ·) := by
  have h1 := srtI_sorted ns
  have h2 : (srtI ns).Nodup := (srtI_perm ns).symm.nodup h
  have h3 : (srtI ns).Pairwise (· ≠ ·) := h2
  exact (h1.and h3).imp fun h => by omega
theorem units_flat {kv : Wm} (h : Uniq kv) : Flat (units kv) := by
  refine ⟨List.pairwise_map.mpr ((sorted_lt h).imp fun {a b} h => ?_), fun r hr => ?_⟩
  · show a + 1 ≤ b; omega
  · obtain ⟨m, _, rfl⟩ := List.mem_map.mp hr; show m < m + 1; omega
theorem dGet_none {τ : Type} {kv : List (Int × τ)} {m : Int} : dGet kv m = none ↔ m ∉ kv.map (·.1) := by
  unfold dGet
  rw [Option.map_eq_none_iff, List.find?_eq_none]
  simp only [decide_eq_true_eq, List.mem_map, not_exists, not_and]
theorem dGet_getM {kv : Wm} {m : Int} (h : m ∈ kv.map (·.1)) : dGet kv m = some (getM kv m) := by
  unfold getM
  cases e : dGet kv m with
  | none => exact absurd h (dGet_none.mp e)
  | some w => rfl
theorem units_look {kv : Wm} (h : Uniq kv) (m : Int) : look (units kv) m = dGet kv m := by
  by_cases hm : m ∈ kv.map (·.1)
  · rw [dGet_getM hm]
    exact look_mem (units_flat h) (r := unit kv m) (List.mem_map.mpr ⟨m, (srtI_perm _).mem_iff.mpr hm, rfl⟩) (Int.le_refl _) (by show m < m + 1; omega)
  · rw [dGet_none.mpr hm]
    refine look_none fun r hr => ?_
    obtain ⟨x, hx, rfl⟩ := List.mem_map.mp hr
    rintro ⟨h1, h2⟩
    have h1 : x ≤ m := h1
    have h2 : m < x + 1 := h2
    have : x = m := by omega
    subst this
    exact hm ((srtI_perm _).mem_iff.mp hx)
theorem lineOf_canon {kv : Wm} (h : Uniq kv) : Canon (lineOf kv) := by rw [lineOf_join]; exact joined_canon (units_flat h)
theorem lineOf_look {kv : Wm} (h : Uniq kv) (m : Int) : look (lineOf kv) m = dGet kv m := by rw [lineOf_join, joined_look (units_flat h), units_look h]
theorem lineOf_ext {kv kv' : Wm} (h : Uniq kv) (h' : Uniq kv') (e : ∀ m, dGet kv m = dGet kv' m) : lineOf kv = lineOf kv' :=
  canon_ext (lineOf_canon h) (lineOf_canon h') fun m => by rw [lineOf_look h, lineOf_look h', e]
theorem line_eq {l : List Row} {kv : Wm} (hl : Canon l) (h : Uniq kv) (e : ∀ m, look l m = dGet kv m) : l = lineOf kv := canon_ext hl (lineOf_canon h) fun m => by rw [e, lineOf_look h]
theorem monthsIn_units (kv : Wm) (ms : List Int) : monthsIn (ms.map (unit kv)) = ms.length := by
  induction ms with
  | nil => rfl
  | cons m ms ih =>
    have z : monthsIn (unit kv m :: ms.map (unit kv)) = (m + 1 - m) + monthsIn (ms.map (unit kv)) := by simp [monthsIn, unit]
    rw [List.map_cons, z, ih, List.length_cons]; omega
theorem lineOf_months (kv : Wm) : monthsIn (lineOf kv) = kv.length := by
  rw [lineOf_join, (joined_sums _).1, units, monthsIn_units, (srtI_perm _).length_eq, List.length_map]
theorem worthOf_units (kv : Wm) (ms : List Int) : worthOf (ms.map (unit kv)) = (ms.map (getM kv)).sum := by
  induction ms with
  | nil => rfl
  | cons m ms ih =>
    have z : worthOf (unit kv m :: ms.map (unit kv)) = (m + 1 - m) * getM kv m + worthOf (ms.map (unit kv)) := by simp [worthOf, unit]
    rw [List.map_cons, z, ih, List.map_cons, List.sum_cons, show m + 1 - m = 1 by omega]; omega
theorem perm_sum {a b : List Int} (h : a.Perm b) : a.sum = b.sum := by
  induction h with
  | nil => rfl
  | cons x _ ih => simp [ih]
  | swap x y l => simp only [List.sum_cons]; omega
  | trans _ _ h1 h2 => exact h1.trans h2
theorem getM_cons {p : Int × Int} {kv : Wm} {m : Int} (h : p.1 ≠ m) : getM (p :: kv) m = getM kv m := by
  unfold getM dGet
  rw [List.find?_cons]
  simp [h]
theorem uniq_vals : ∀ {kv : Wm}, Uniq kv → (kv.map (·.1)).map (getM kv) = kv.map (·.2)
  | [], _ => rfl
  | p :: kv, h => by
    have h := List.nodup_cons.mp h
    have e : (kv.map (·.1)).map (getM (p :: kv)) = (kv.map (·.1)).map (getM kv) := List.map_congr_left fun m hm => getM_cons fun z => h.1 (by show p.1 ∈ _; rw [z]; exact hm)
    rw [List.map_cons, List.map_cons, e, uniq_vals h.2, List.map_cons]
    congr 1
    simp [getM, dGet]
theorem lineOf_worth {kv : Wm} (h : Uniq kv) : worthOf (lineOf kv) = (kv.map (·.2)).sum := by
  rw [lineOf_join, (joined_sums _).2, units, worthOf_units, ← uniq_vals h]
  exact perm_sum ((srtI_perm _).map _)
/-- as many rows as keys at most -/
theorem joinStep_len (acc : List Row) (r : Row) : (joinStep acc r).length ≤ acc.length + 1 := by
  rcases snoc_cases acc with rfl | ⟨k, q, rfl⟩
  · simp [joinStep_nil]
  · rw [joinStep_snoc]; split <;> simp
theorem joined_len (rows : List Row) : (joined rows).length ≤ rows.length := by
  have key : ∀ (rows acc : List Row), (rows.foldl joinStep acc).length ≤ acc.length + rows.length := by
    intro rows
    induction rows with
    | nil => intro acc; simp
    | cons r rows ih =>
      intro acc
      have := ih (joinStep acc r)
      have := joinStep_len acc r
      simp only [List.foldl_cons, List.length_cons]; omega
  have := key rows []
  simpa [joined] using this

/-! ### dicts of months -/
theorem dGet_put {τ : Type} (kv : List (Int × τ)) (k : Int) (v : τ) (m : Int) : dGet (dPut kv k v) m = if m = k then some v else dGet kv m := by
  unfold dPut
  by_cases h : (kv.any fun p => decide (p.1 = k)) = true
  · rw [if_pos h]
    induction kv with
    | nil => cases h
    | cons p kv ih =>
      unfold dGet at ih ⊢
      by_cases e : p.1 = k
      · by_cases hm : m = k
        · simp [List.find?_cons, e, hm]
        · have hm' : ¬ k = m := fun z => hm z.symm
          simp only [List.map_cons, e, if_true, List.find?_cons, hm', decide_false, hm, if_false]
          by_cases h2 : (kv.any fun p => decide (p.1 = k)) = true
          · have := ih h2; rw [if_neg hm] at this; exact this
          · have : kv.map (fun p => if p.1 = k then (p.1, v) else p) = kv := by
              conv => rhs; rw [← List.map_id kv]
              refine List.map_congr_left fun q hq => ?_
              rw [if_neg fun z => h2 (List.any_eq_true.mpr ⟨q, hq, by simp [z]⟩)]; rfl
            rw [this]
      · have h2 : (kv.any fun p => decide (p.1 = k)) = true := by simpa [List.any_cons, e] using h
        have := ih h2
        simp only [List.map_cons, e, if_false, List.find?_cons]
        by_cases hm : p.1 = m
        · have : ¬ m = k := fun z => e (hm.trans z)
          simp [hm, this]
        · simpa [hm] using this
  · rw [if_neg h]
    have n : dGet kv k = none := by
      rw [dGet_none]
      intro z
      obtain ⟨q, hq, e⟩ := List.mem_map.mp z
      exact h (List.any_eq_true.mpr ⟨q, hq, by simp [e]⟩)
    unfold dGet at n ⊢
    rw [List.find?_append]
    by_cases hm : m = k
    · subst hm
      rw [Option.map_eq_none_iff] at n
      simp [n]
    · have hm' : ¬ k = m := fun z => hm z.symm
      simp [hm, hm']
theorem uniq_put {τ : Type} {kv : List (Int × τ)} (h : Uniq kv) (k : Int) (v : τ) : Uniq (dPut kv k v) := by
  unfold Uniq at h ⊢
  unfold dPut
  split
  · have : (kv.map fun p => if p.1 = k then (p.1, v) else p).map (·.1) = kv.map (·.1) := by
      rw [List.map_map]
      refine List.map_congr_left fun p _ => ?_
      simp only [Function.comp_apply]; split <;> rfl
    rw [this]; exact h
  · rename_i hn
    rw [List.map_append, List.nodup_append]
    refine ⟨h, by simp, fun a ha b hb => ?_⟩
    rw [List.mem_singleton.mp hb]
    rintro rfl
    obtain ⟨q, hq, e⟩ := List.mem_map.mp ha
    exact hn (List.any_eq_true.mpr ⟨q, hq, by simp [e]⟩)
/-- the worths of rows that have a month -/
def has (m : Int) (r : Row) : Bool := decide (r.1 ≤ m) && decide (m < r.2.1)
def worthsAt (rows : List Row) (m : Int) : List Int := (rows.filter (has m)).map (·.2.2)
def sumO : List Int → Option Int
  | [] => none
  | ws => some ws.sum
theorem sumO_some {ws : List Int} (h : ws ≠ []) : sumO ws = some ws.sum := by cases ws <;> first | exact absurd rfl h | rfl
def plusO (o : Option Int) (w : Int) : Option Int := some (o.getD 0 + w)
theorem spreadN_get (kv : Wm) (b w : Int) (n : Nat) (m : Int) : dGet (spreadN kv b w n) m = if b ≤ m ∧ m < b + n then plusO (dGet kv m) w else dGet kv m := by
  induction n generalizing kv b with
  | zero => rw [if_neg (by omega)]; rfl
  | succ n ih =>
    rw [spreadN, ih, addM, dGet_put]
    by_cases h1 : m = b
    · subst h1
      rw [if_neg (by omega), if_pos rfl, if_pos (by omega)]; rfl
    · rw [if_neg h1]
      by_cases h2 : b + 1 ≤ m ∧ m < b + 1 + n
      · rw [if_pos h2, if_pos (by omega)]
      · rw [if_neg h2, if_neg (by omega)]
theorem spreadN_uniq {kv : Wm} (h : Uniq kv) (b w : Int) (n : Nat) : Uniq (spreadN kv b w n) := by
  induction n generalizing kv b with
  | zero => exact h
  | succ n ih => exact ih (uniq_put h _ _) _
theorem spread_uniq : ∀ (rows : List Row) {kv : Wm}, Uniq kv → Uniq (rows.foldl spreadR kv)
  | [], _, h => h
  | _ :: rows, _, h => spread_uniq rows (spreadN_uniq h _ _ _)
theorem spreadL_uniq (rows : List Row) : Uniq (spreadL rows) := spread_uniq rows List.nodup_nil
theorem spread_get (m : Int) : ∀ (rows : List Row) (kv : Wm), (∀ r ∈ rows, r.1 ≤ r.2.1) → dGet (rows.foldl spreadR kv) m = if worthsAt rows m = [] then dGet kv m else some ((dGet kv m).getD 0 + (worthsAt rows m).sum)
  | [], kv, _ => rfl
  | r :: rows, kv, h => by
    have hr := h r List.mem_cons_self
    rw [List.foldl_cons, spread_get m rows (spreadR kv r) fun s hs => h s (List.mem_cons_of_mem _ hs), spreadR, spreadN_get]
    have e0 : r.1 + ((r.2.1 - r.1).toNat : Int) = r.2.1 := by omega
    rw [e0]
    have wc : worthsAt (r :: rows) m = if has m r = true then r.2.2 :: worthsAt rows m else worthsAt rows m := by
      unfold worthsAt; rw [List.filter_cons]; split <;> rfl
    rw [wc]
    generalize worthsAt rows m = ws
    by_cases hm : r.1 ≤ m ∧ m < r.2.1
    · have hb : has m r = true := by simp [has, hm]
      simp only [if_pos hm, hb, if_true, List.sum_cons, reduceCtorEq, if_false, plusO, Option.getD_some]
      split
      · rename_i e; rw [e]; simp
      · congr 1; omega
    · have hb : has m r = false := by simpa [has] using hm
      simp only [if_neg hm, hb, Bool.false_eq_true, if_false]
theorem spreadL_get {rows : List Row} (h : ∀ r ∈ rows, r.1 ≤ r.2.1) (m : Int) : dGet (spreadL rows) m = sumO (worthsAt rows m) := by
  rw [spreadL, spread_get m rows [] h]
  cases e : worthsAt rows m with
  | nil => rfl
  | cons w ws => simp [sumO, dGet]
theorem worthsAt_flat {l : List Row} (h : Flat l) (m : Int) : worthsAt l m = (look l m).toList := by
  induction l with
  | nil => rfl
  | cons r l ih =>
    unfold worthsAt look
    rw [List.filter_cons]
    by_cases hm : r.1 ≤ m ∧ m < r.2.1
    · rw [if_pos (by simp [has, hm]), if_pos hm]
      have : worthsAt l m = [] := by
        rw [ih h.tail, look_none fun s hs => by have := (List.pairwise_cons.mp h.pw).1 s hs; omega]; rfl
      unfold worthsAt at this
      rw [List.map_cons, this]; rfl
    · rw [if_neg (by simpa [has] using hm), if_neg hm]
      exact ih h.tail
/-- spread and lined up again a line is itself -/
theorem spread_look {l : List Row} (h : Flat l) (m : Int) : dGet (spreadL l) m = look l m := by
  rw [spreadL_get (fun r hr => by have := h.ne r hr; omega), worthsAt_flat h]
  cases look l m <;> simp [sumO]
theorem lineOf_spread {l : List Row} (h : Canon l) : lineOf (spreadL l) = l := (line_eq h (spreadL_uniq l) fun m => (spread_look h.flat m).symm).symm
end Sx

/-! SxM2: pieces, sums, parts, what is left, halves, plainly. -/
namespace Sx
abbrev Piece := Int × Int × List Int
/-- the worths of rows that have all of b .. e -/
def cover (rows : List Row) (b e : Int) : List Int := (rows.filter fun r => decide (r.1 ≤ b) && decide (e ≤ r.2.1)).map (·.2.2)
def pcs (rows : List Row) : List Int → List Piece
  | b :: e :: ms => if cover rows b e = [] then pcs rows (e :: ms) else (b, e, cover rows b e) :: pcs rows (e :: ms)
  | _ => []
def marks (rows : List Row) : List Int := riseI (rows.flatMap fun r => [r.1, r.2.1])
def pieces (rows : List Row) : List Piece := pcs rows (marks rows)
def pRow (f : List Int → Int) (p : Piece) : Row := (p.1, p.2.1, f p.2.2)
def valO (f : List Int → Int) (ws : List Int) : Option Int := if ws = [] then none else some (f ws)
theorem worthsAt_append (a b : List Row) (m : Int) : worthsAt (a ++ b) m = worthsAt a m ++ worthsAt b m := by simp [worthsAt]
def Sep (rows : List Row) : List Int → Prop
  | b :: e :: ms => b < e ∧ (∀ r ∈ rows, (r.1 ≤ b ∨ e ≤ r.1) ∧ (r.2.1 ≤ b ∨ e ≤ r.2.1)) ∧ Sep rows (e :: ms)
  | _ => True
theorem sep_of {rows : List Row} : ∀ (pre L : List Int), (pre ++ L).Pairwise (· < ·) → (∀ r ∈ rows, r.1 ∈ pre ++ L ∧ r.2.1 ∈ pre ++ L) → Sep rows L
  | _, [], _, _ => trivial
  | _, [_], _, _ => trivial
  | pre, b :: e :: ms, h, hm => by
    have hL := (List.pairwise_append.mp h).2.1
    have hP := (List.pairwise_append.mp h).2.2
    have hb := (List.pairwise_cons.mp hL).1
    have he := (List.pairwise_cons.mp (List.pairwise_cons.mp hL).2).1
    have at_ : ∀ x, x ∈ pre ++ b :: e :: ms → x ≤ b ∨ e ≤ x := fun x hx => by
      rcases List.mem_append.mp hx with hx | hx
      · have := hP x hx b (by simp); omega
      · rcases List.mem_cons.mp hx with rfl | hx
        · omega
        · rcases List.mem_cons.mp hx with rfl | hx
          · omega
          · have := he x hx; omega
    refine ⟨hb e (by simp), fun r hr => ⟨at_ _ (hm r hr).1, at_ _ (hm r hr).2⟩, sep_of (pre ++ [b]) (e :: ms) (by simpa using h) (by simpa using hm)⟩
theorem pcs_ge {rows : List Row} : ∀ (ms : List Int), Sep rows ms → ∀ b, ms.head? = some b → ∀ p ∈ pcs rows ms, b ≤ p.1 ∧ p.1 < p.2.1
  | [], _, _, h, _, _ => by cases h
  | [_], _, _, _, _, hp => by cases hp
  | b :: e :: ms, h, b', hb, p, hp => by
    cases hb
    have tl := pcs_ge (e :: ms) h.2.2 e rfl
    unfold pcs at hp
    split at hp
    · have := tl p hp; have := h.1; omega
    · rcases List.mem_cons.mp hp with rfl | hp
      · exact ⟨Int.le_refl _, h.1⟩
      · have := tl p hp; have := h.1; omega
theorem pcs_flat {rows : List Row} (f : List Int → Int) : ∀ (ms : List Int), Sep rows ms → Flat ((pcs rows ms).map (pRow f))
  | [], _ => Flat.nil
  | [_], _ => Flat.nil
  | b :: e :: ms, h => by
    have tl := pcs_ge (e :: ms) h.2.2 e rfl
    have ih := pcs_flat f (e :: ms) h.2.2
    unfold pcs
    split
    · exact ih
    · refine ⟨List.pairwise_cons.mpr ⟨fun r hr => ?_, ih.pw⟩, fun r hr => ?_⟩
      · obtain ⟨p, hp, rfl⟩ := List.mem_map.mp hr
        exact (tl p hp).1
      · rcases List.mem_cons.mp hr with rfl | hr
        · exact h.1
        · exact ih.ne r hr
theorem cover_at {rows : List Row} {b e m : Int} (h : ∀ r ∈ rows, (r.1 ≤ b ∨ e ≤ r.1) ∧ (r.2.1 ≤ b ∨ e ≤ r.2.1)) (h1 : b ≤ m) (h2 : m < e) : cover rows b e = worthsAt rows m := by
  unfold cover worthsAt
  congr 1
  refine List.filter_congr fun r hr => ?_
  have := h r hr
  unfold has
  have e1 : decide (r.1 ≤ b) = decide (r.1 ≤ m) := decide_eq_decide.mpr (by omega)
  have e2 : decide (e ≤ r.2.1) = decide (m < r.2.1) := decide_eq_decide.mpr (by omega)
  rw [e1, e2]
theorem pcs_look {rows : List Row} (f : List Int → Int) (m : Int) : ∀ (b : Int) (ms : List Int), Sep rows (b :: ms) → look ((pcs rows (b :: ms)).map (pRow f)) m = if b ≤ m ∧ m < ms.getLastD b then valO f (worthsAt rows m) else none
  | b, [], _ => by rw [if_neg (by simp)]; rfl
  | b, e :: ms, h => by
    have ih := pcs_look f m e ms h.2.2
    have tl := pcs_ge (e :: ms) h.2.2 e rfl
    have hl : e ≤ ms.getLastD e := by
      have key : ∀ (ms : List Int) (e : Int), Sep rows (e :: ms) → e ≤ ms.getLastD e := by
        intro ms
        induction ms with
        | nil => intro e _; exact Int.le_refl _
        | cons x ms ih => intro e h; have := ih x h.2.2; have := h.1; rw [List.getLastD_cons]; omega
      exact key ms e h.2.2
    rw [List.getLastD_cons]
    have h1 := h.1
    have tn : m < e → look ((pcs rows (e :: ms)).map (pRow f)) m = none := fun hm => look_none fun r hr => by
      obtain ⟨p, hp, rfl⟩ := List.mem_map.mp hr
      have := tl p hp
      show ¬ (p.1 ≤ m ∧ _)
      omega
    unfold pcs
    by_cases hm : b ≤ m ∧ m < e
    · have cv := cover_at h.2.1 hm.1 hm.2
      have e1 : b ≤ m ∧ m < ms.getLastD e := ⟨hm.1, by omega⟩
      rw [cv, if_pos e1]
      split
      · rename_i z; rw [tn hm.2, z]; rfl
      · rename_i z
        rw [List.map_cons, look, valO, if_neg z]
        exact if_pos hm
    · have sk : look ((if cover rows b e = [] then pcs rows (e :: ms) else (b, e, cover rows b e) :: pcs rows (e :: ms)).map (pRow f)) m = look ((pcs rows (e :: ms)).map (pRow f)) m := by
        split
        · rfl
        · rw [List.map_cons, look]; exact if_neg hm
      rw [sk, ih]
      by_cases h2 : e ≤ m ∧ m < ms.getLastD e
      · rw [if_pos h2, if_pos (by omega)]
      · rw [if_neg h2, if_neg (by omega)]
theorem marks_mem {rows : List Row} {r : Row} (h : r ∈ rows) : r.1 ∈ marks rows ∧ r.2.1 ∈ marks rows := by
  unfold marks
  exact ⟨riseI_mem.mpr (List.mem_flatMap.mpr ⟨r, h, by simp⟩), riseI_mem.mpr (List.mem_flatMap.mpr ⟨r, h, by simp⟩)⟩
theorem marks_sep (rows : List Row) : Sep rows (marks rows) := sep_of [] _ (riseI_rise _) fun r hr => marks_mem hr
theorem pieces_flat (f : List Int → Int) (rows : List Row) : Flat ((pieces rows).map (pRow f)) := pcs_flat f _ (marks_sep rows)
theorem le_last {ms : List Int} {b x : Int} (h : (b :: ms).Pairwise (· < ·)) (hx : x ∈ b :: ms) : b ≤ x ∧ x ≤ ms.getLastD b := by
  induction ms generalizing b x with
  | nil => rw [List.mem_singleton.mp hx]; simp
  | cons e ms ih =>
    have h' := List.pairwise_cons.mp h
    rw [List.getLastD_cons]
    have he := h'.1 e (by simp)
    rcases List.mem_cons.mp hx with rfl | hx
    · have := (ih h'.2 (x := e) (by simp)).2; omega
    · have := ih h'.2 hx; omega
theorem pieces_look (f : List Int → Int) (rows : List Row) (m : Int) : look ((pieces rows).map (pRow f)) m = valO f (worthsAt rows m) := by
  have rs := riseI_rise (rows.flatMap fun r => [r.1, r.2.1])
  have sp := marks_sep rows
  have mm := fun r => marks_mem (rows := rows) (r := r)
  unfold pieces
  have rs : (marks rows).Pairwise (· < ·) := rs
  cases e : marks rows with
  | nil =>
    have : rows = [] := by
      cases rows with
      | nil => rfl
      | cons r rows => have := (mm r (by simp)).1; rw [e] at this; cases this
    subst this
    rfl
  | cons b ms =>
    rw [e] at rs sp mm
    rw [pcs_look f m b ms sp]
    split
    · rfl
    · rename_i hn
      have : worthsAt rows m = [] := by
        unfold worthsAt
        rw [List.map_eq_nil_iff, List.filter_eq_nil_iff]
        intro r hr
        have h1 := le_last rs (mm r hr).1
        have h2 := le_last rs (mm r hr).2
        simp only [has, Bool.and_eq_true, decide_eq_true_eq]
        omega
      rw [this]; rfl
/-- the worths of rows together -/
def summed (rows : List Row) : List Row := joined ((pieces rows).map (pRow List.sum))
theorem valO_sum (ws : List Int) : valO List.sum ws = sumO ws := by cases ws <;> rfl
theorem summed_canon (rows : List Row) : Canon (summed rows) := joined_canon (pieces_flat _ rows)
theorem summed_look (rows : List Row) (m : Int) : look (summed rows) m = sumO (worthsAt rows m) := by
  rw [summed, joined_look (pieces_flat _ rows), pieces_look, valO_sum]
/-- the law's line of rows is the program's -/
theorem summed_eq {rows : List Row} (h : ∀ r ∈ rows, r.1 ≤ r.2.1) : summed rows = lineOf (spreadL rows) :=
  line_eq (summed_canon rows) (spreadL_uniq rows) fun m => by rw [summed_look, spreadL_get h]
/-! ### parts -/
def clip (b e : Int) (r : Row) : Row := (max b r.1, min e r.2.1, r.2.2)
def nonE (r : Row) : Bool := decide (r.1 < r.2.1)
def partL (l : List Row) (b e : Int) : List Row := (l.map (clip b e)).filter nonE
theorem part_canon {l : List Row} (h : Canon l) (b e : Int) : Canon (partL l b e) := by
  refine ⟨List.pairwise_filter.mpr (List.pairwise_map.mpr (h.pw.imp_of_mem fun {r s} hr hs q n1 n2 => ?_)), fun r hr => ?_⟩
  · have r0 := h.ne r hr
    have s0 := h.ne s hs
    simp only [nonE, clip, decide_eq_true_eq] at n1 n2
    obtain ⟨q1, q2⟩ := q
    refine ⟨?_, fun z => q2 ⟨?_, z.2⟩⟩
    · simp only [clip]; omega
    · have z1 := z.1
      simp only [clip] at z1
      omega
  · simpa [nonE] using (List.mem_filter.mp hr).2
theorem part_look (l : List Row) (b e m : Int) : look (partL l b e) m = if b ≤ m ∧ m < e then look l m else none := by
  induction l with
  | nil => simp [partL, look]
  | cons r l ih =>
    have st : partL (r :: l) b e = if nonE (clip b e r) = true then clip b e r :: partL l b e else partL l b e := by
      unfold partL; rw [List.map_cons, List.filter_cons]
    rw [st]
    by_cases hm : b ≤ m ∧ m < e
    · rw [if_pos hm] at ih ⊢
      by_cases hr : r.1 ≤ m ∧ m < r.2.1
      · have n : nonE (clip b e r) = true := by
          have : max b r.1 < min e r.2.1 := by omega
          exact decide_eq_true this
        have c : (clip b e r).1 ≤ m ∧ m < (clip b e r).2.1 := by simp only [clip]; omega
        rw [if_pos n, look, look, if_pos hr, if_pos c]; rfl
      · have c : ¬ ((clip b e r).1 ≤ m ∧ m < (clip b e r).2.1) := by simp only [clip]; omega
        rw [look, if_neg hr]
        split
        · rw [look, if_neg c, ih]
        · exact ih
    · rw [if_neg hm] at ih ⊢
      have c : ¬ ((clip b e r).1 ≤ m ∧ m < (clip b e r).2.1) := by simp only [clip]; omega
      split
      · rw [look, if_neg c, ih]
      · exact ih
/-! ### what is left -/
def two (b e : Int) (r : Row) : List Row := [(r.1, min r.2.1 b, r.2.2), (max r.1 e, r.2.1, r.2.2)].filter nonE
def leftRows (l : List Row) (b e : Int) : List Row := l.flatMap (two b e)
def leftOf (l : List Row) (b e : Int) : List Row := joined (leftRows l b e)
theorem two_mem {b e : Int} {r q : Row} (h : q ∈ two b e r) : r.1 ≤ q.1 ∧ q.1 < q.2.1 ∧ q.2.1 ≤ r.2.1 := by
  unfold two at h
  obtain ⟨h1, h2⟩ := List.mem_filter.mp h
  simp only [nonE, decide_eq_true_eq] at h2
  simp only [List.mem_cons, List.not_mem_nil, or_false] at h1
  rcases h1 with rfl | rfl
  · simp only at h2 ⊢; omega
  · simp only at h2 ⊢; omega
theorem left_flat {l : List Row} (h : Flat l) {b e : Int} (he : b ≤ e) : Flat (leftRows l b e) := by
  induction l with
  | nil => exact Flat.nil
  | cons r l ih =>
    have ih := ih h.tail
    have hp := (List.pairwise_cons.mp h.pw).1
    have e1 : leftRows (r :: l) b e = two b e r ++ leftRows l b e := by simp [leftRows]
    rw [e1]
    refine ⟨List.pairwise_append.mpr ⟨?_, ih.pw, fun p hp1 q hq => ?_⟩, fun q hq => ?_⟩
    · unfold two
      refine List.Pairwise.filter _ ?_
      simp only [List.pairwise_cons, List.mem_cons, List.not_mem_nil, or_false, forall_eq, List.Pairwise.nil, and_true, false_implies, implies_true]
      omega
    · obtain ⟨s, hs, hq⟩ := List.mem_flatMap.mp hq
      have := hp s hs
      have := two_mem hp1
      have := two_mem hq
      omega
    · rcases List.mem_append.mp hq with hq | hq
      · exact (two_mem hq).2.1
      · exact ih.ne q hq
theorem two_look {r : Row} {b e : Int} (m : Int) : look (two b e r) m = if b ≤ m ∧ m < e then none else if r.1 ≤ m ∧ m < r.2.1 then some r.2.2 else none := by
  have key : ∀ (q : Row) (rest : List Row), look ((q :: rest).filter nonE) m = if q.1 ≤ m ∧ m < q.2.1 then some q.2.2 else look (rest.filter nonE) m := by
    intro q rest
    rw [List.filter_cons]
    by_cases n : nonE q = true
    · rw [if_pos n, look]
    · rw [if_neg n]
      have n : ¬ q.1 < q.2.1 := by simpa [nonE] using n
      rw [if_neg (by omega)]
  unfold two
  rw [key, key]
  by_cases h1 : b ≤ m ∧ m < e
  · rw [if_pos h1, if_neg (by simp only; omega), if_neg (by simp only; omega)]; rfl
  · rw [if_neg h1]
    by_cases h2 : r.1 ≤ m ∧ m < r.2.1
    · rw [if_pos h2]
      by_cases h3 : m < b
      · exact if_pos (by simp only; omega)
      · rw [if_neg (by simp only; omega)]
        exact if_pos (by simp only; omega)
    · rw [if_neg h2, if_neg (by simp only; omega), if_neg (by simp only; omega)]; rfl
theorem left_look {l : List Row} {b e : Int} (m : Int) : look (leftRows l b e) m = if b ≤ m ∧ m < e then none else look l m := by
  induction l with
  | nil => simp [leftRows, look]
  | cons r l ih =>
    have e1 : leftRows (r :: l) b e = two b e r ++ leftRows l b e := by simp [leftRows]
    rw [e1, look_append, two_look, ih, look]
    split
    · rfl
    · split <;> rfl
theorem leftOf_canon {l : List Row} (h : Flat l) {b e : Int} (he : b ≤ e) : Canon (leftOf l b e) := joined_canon (left_flat h he)
theorem leftOf_look {l : List Row} (h : Flat l) {b e : Int} (he : b ≤ e) (m : Int) : look (leftOf l b e) m = if b ≤ m ∧ m < e then none else look l m := by
  rw [leftOf, joined_look (left_flat h he), left_look]
end Sx

/-! SxM3: rows in order, halves, plainly. -/
namespace Sx
/-- in order, by a relation -/
def insB {α : Type} (le : α → α → Bool) (x : α) : List α → List α
  | [] => [x]
  | y :: ys => if le x y = true then x :: y :: ys else y :: insB le x ys
def srtB {α : Type} (le : α → α → Bool) : List α → List α
  | [] => []
  | x :: xs => insB le x (srtB le xs)
section
variable {α : Type} {le : α → α → Bool}
theorem insB_perm (x : α) : ∀ ys : List α, (insB le x ys).Perm (x :: ys)
  | [] => List.Perm.refl _
  | y :: ys => by
    unfold insB
    split
    · exact List.Perm.refl _
    · exact ((insB_perm x ys).cons y).trans (List.Perm.swap x y ys)
theorem srtB_perm : ∀ xs : List α, (srtB le xs).Perm xs
  | [] => List.Perm.refl _
  | x :: xs => (insB_perm x _).trans ((srtB_perm xs).cons x)
theorem insB_sorted (tot : ∀ a b, le a b = true ∨ le b a = true) (tr : ∀ a b c, le a b = true → le b c = true → le a c = true) (x : α) : ∀ {ys : List α}, ys.Pairwise (fun a b => le a b = true) → (insB le x ys).Pairwise fun a b => le a b = true
  | [], _ => by simp [insB]
  | y :: ys, h => by
    unfold insB
    have h' := List.pairwise_cons.mp h
    split
    · rename_i hn
      refine List.pairwise_cons.mpr ⟨fun z hz => ?_, h⟩
      rcases List.mem_cons.mp hz with rfl | hz
      · exact hn
      · exact tr _ _ _ hn (h'.1 z hz)
    · rename_i hn
      refine List.pairwise_cons.mpr ⟨fun z hz => ?_, insB_sorted tot tr x h'.2⟩
      rcases List.mem_cons.mp ((insB_perm x ys).mem_iff.mp hz) with rfl | hz
      · rcases tot y z with h | h
        · exact h
        · exact absurd h hn
      · exact h'.1 z hz
theorem srtB_sorted (tot : ∀ a b, le a b = true ∨ le b a = true) (tr : ∀ a b c, le a b = true → le b c = true → le a c = true) : ∀ xs : List α, (srtB le xs).Pairwise fun a b => le a b = true
  | [] => .nil
  | x :: xs => insB_sorted tot tr x (srtB_sorted tot tr xs)
/-- sorted perm of a list with strict order is unique -/
theorem srtB_uniq (as : ∀ a b, le a b = true → le b a = true → a = b) : ∀ {xs ys : List α}, xs.Perm ys → xs.Pairwise (fun a b => le a b = true) → ys.Pairwise (fun a b => le a b = true) → xs = ys
  | [], ys, p, _, _ => by rw [List.nil_perm.mp p]
  | x :: xs, [], p, _, _ => by have := p.length_eq; simp at this
  | x :: xs, y :: ys, p, h1, h2 => by
    have h1' := List.pairwise_cons.mp h1
    have h2' := List.pairwise_cons.mp h2
    have e : x = y := by
      have a : x ∈ y :: ys := p.mem_iff.mp List.mem_cons_self
      have b : y ∈ x :: xs := p.mem_iff.mpr List.mem_cons_self
      rcases List.mem_cons.mp a with a | a
      · exact a
      · rcases List.mem_cons.mp b with b | b
        · exact b.symm
        · exact as _ _ (h1'.1 y b) (h2'.1 x a)
    subst e
    rw [srtB_uniq as (List.Perm.cons_inv p) h1'.2 h2'.2]
end
def leR (r s : Row) : Bool := decide (r.1 < s.1) || (decide (r.1 = s.1) && (decide (r.2.1 < s.2.1) || (decide (r.2.1 = s.2.1) && decide (r.2.2 ≤ s.2.2))))
theorem leR_iff (r s : Row) : leR r s = true ↔ r.1 < s.1 ∨ (r.1 = s.1 ∧ (r.2.1 < s.2.1 ∨ (r.2.1 = s.2.1 ∧ r.2.2 ≤ s.2.2))) := by simp [leR]
theorem leR_tot (r s : Row) : leR r s = true ∨ leR s r = true := by rw [leR_iff, leR_iff]; omega
theorem leR_tr (r s t : Row) (h1 : leR r s = true) (h2 : leR s t = true) : leR r t = true := by rw [leR_iff] at *; omega
theorem leR_as (r s : Row) (h1 : leR r s = true) (h2 : leR s r = true) : r = s := by
  rw [leR_iff] at *
  obtain ⟨a, b, c⟩ := r
  obtain ⟨a', b', c'⟩ := s
  simp only at h1 h2
  have : a = a' := by omega
  have : b = b' := by omega
  have : c = c' := by omega
  subst_vars; rfl
def srtR (l : List Row) : List Row := srtB leR l
/-- rows none of which overlaps another one -/
structure Disj (l : List Row) : Prop where
  pw : l.Pairwise fun r s => r.2.1 ≤ s.1 ∨ s.2.1 ≤ r.1
  ne : ∀ r ∈ l, r.1 < r.2.1
theorem Disj.perm {l k : List Row} (h : Disj l) (p : k.Perm l) : Disj k := ⟨(p.pairwise_iff (fun {a b} h => Or.symm h)).mpr h.pw, fun r hr => h.ne r (p.mem_iff.mp hr)⟩
theorem srtR_flat {l : List Row} (h : Disj l) : Flat (srtR l) := by
  have d := h.perm (srtB_perm (le := leR) l)
  have s := srtB_sorted leR_tot leR_tr l
  refine ⟨(d.pw.and s).imp_of_mem fun {r q} hr hq z => ?_, d.ne⟩
  have := d.ne r hr
  have := d.ne q hq
  have z2 := (leR_iff _ _).mp z.2
  omega
theorem worthsAt_perm {l k : List Row} (p : l.Perm k) (m : Int) : (worthsAt l m).Perm (worthsAt k m) := (p.filter _).map _
theorem toList_inj {a b : Option Int} (h : a.toList = b.toList) : a = b := by cases a <;> cases b <;> simp_all
theorem srtR_look {l k : List Row} (hl : Flat l) (hk : Flat k) (hd : ∀ r ∈ l, ∀ s ∈ k, r.2.1 ≤ s.1 ∨ s.2.1 ≤ r.1) (m : Int) : Flat (srtR (l ++ k)) ∧ look (srtR (l ++ k)) m = (look l m).or (look k m) := by
  have d : Disj (l ++ k) := ⟨List.pairwise_append.mpr ⟨hl.pw.imp fun h => .inl h, hk.pw.imp fun h => .inl h, hd⟩, fun r hr => (List.mem_append.mp hr).elim (hl.ne r) (hk.ne r)⟩
  have f := srtR_flat d
  refine ⟨f, ?_⟩
  have p := worthsAt_perm (srtB_perm (le := leR) (l ++ k)) m
  rw [worthsAt_append, worthsAt_flat hl, worthsAt_flat hk] at p
  have e := worthsAt_flat f m
  unfold srtR at e ⊢
  rw [e] at p
  cases h1 : look l m with
  | none =>
    rw [h1] at p
    cases h2 : look k m with
    | none => rw [h2] at p; exact toList_inj (List.perm_nil.mp p)
    | some w => rw [h2] at p; exact toList_inj (List.perm_singleton.mp p)
  | some w =>
    rw [h1] at p
    have h2 : look k m = none := by
      cases h2 : look k m with
      | none => rfl
      | some v =>
        exfalso
        obtain ⟨r, hr, r1, r2, _⟩ := look_some h1
        obtain ⟨s, hs, s1, s2, _⟩ := look_some h2
        have := hd r hr s hs
        omega
    rw [h2] at p
    exact toList_inj (List.perm_singleton.mp p)
/-! ### halves -/
def both (one other : List Row) (b e : Int) : List Piece := pieces (partL one b e ++ partL other b e)
def up (ws : List Int) : Int := (ws.sum + 1) / 2
def dn (ws : List Int) : Int := ws.sum / 2
def halfOf (f : List Int → Int) (mine one other : List Row) (b e : Int) : List Row := joined (srtR (leftOf mine b e ++ (both one other b e).map (pRow f)))
def pairO (f : Int → Int) (a b : Option Int) : Option Int := match a, b with
  | none, none => none
  | a, b => some (f (a.getD 0 + b.getD 0))
theorem both_look (f : Int → Int) {one other : List Row} (h1 : Canon one) (h2 : Canon other) (b e m : Int) : look ((both one other b e).map (pRow fun ws => f ws.sum)) m = if b ≤ m ∧ m < e then pairO f (look one m) (look other m) else none := by
  unfold both
  rw [pieces_look, worthsAt_append, worthsAt_flat (part_canon h1 b e).flat, worthsAt_flat (part_canon h2 b e).flat, part_look, part_look]
  split
  · cases look one m <;> cases look other m <;> simp [valO, pairO]
  · rfl
theorem pcs_in {rows : List Row} : ∀ (ms : List Int), ∀ p ∈ pcs rows ms, p.1 ∈ ms ∧ p.2.1 ∈ ms
  | [], _, h => by cases h
  | [_], _, h => by cases h
  | b :: e :: ms, p, h => by
    unfold pcs at h
    split at h
    · have := pcs_in (e :: ms) p h
      exact ⟨List.mem_cons_of_mem _ this.1, List.mem_cons_of_mem _ this.2⟩
    · rcases List.mem_cons.mp h with rfl | h
      · simp
      · have := pcs_in (e :: ms) p h
        exact ⟨List.mem_cons_of_mem _ this.1, List.mem_cons_of_mem _ this.2⟩
theorem piece_in {rows : List Row} {p : Piece} (h : p ∈ pieces rows) : (∃ r ∈ rows, p.1 = r.1 ∨ p.1 = r.2.1) ∧ ∃ r ∈ rows, p.2.1 = r.1 ∨ p.2.1 = r.2.1 := by
  have := pcs_in _ p h
  constructor
  · obtain ⟨r, hr, hx⟩ := List.mem_flatMap.mp (riseI_mem.mp this.1)
    exact ⟨r, hr, by simpa using hx⟩
  · obtain ⟨r, hr, hx⟩ := List.mem_flatMap.mp (riseI_mem.mp this.2)
    exact ⟨r, hr, by simpa using hx⟩
theorem part_in {l : List Row} {b e : Int} {r : Row} (h : r ∈ partL l b e) : b ≤ r.1 ∧ r.1 < r.2.1 ∧ r.2.1 ≤ e := by
  obtain ⟨h1, h2⟩ := List.mem_filter.mp h
  obtain ⟨s, _, rfl⟩ := List.mem_map.mp h1
  simp only [nonE, decide_eq_true_eq] at h2
  simp only [clip] at h2 ⊢
  omega
theorem both_in {one other : List Row} {b e : Int} {p : Piece} (h : p ∈ both one other b e) : b ≤ p.1 ∧ p.2.1 ≤ e := by
  obtain ⟨⟨r, hr, h1⟩, ⟨s, hs, h2⟩⟩ := piece_in h
  have key : ∀ r ∈ partL one b e ++ partL other b e, b ≤ r.1 ∧ r.1 < r.2.1 ∧ r.2.1 ≤ e := fun r hr => (List.mem_append.mp hr).elim part_in part_in
  have := key r hr
  have := key s hs
  omega
theorem left_out {l : List Row} (h : Flat l) {b e : Int} (hbe : b < e) {r : Row} (hr : r ∈ leftOf l b e) : r.2.1 ≤ b ∨ e ≤ r.1 := by
  have hb : b ≤ e := Int.le_of_lt hbe
  have c := leftOf_canon h hb
  have r0 := c.ne r hr
  by_cases h1 : r.2.1 ≤ b
  · exact .inl h1
  by_cases h2 : e ≤ r.1
  · exact .inr h2
  exfalso
  have := look_mem c.flat hr (m := max r.1 b) (by omega) (by omega)
  rw [leftOf_look h hb, if_pos (by omega)] at this
  cases this
theorem half_canon (f : Int → Int) {mine one other : List Row} (h0 : Canon mine) (h1 : Canon one) (h2 : Canon other) {b e : Int} (hb : b < e) :
    Canon (halfOf (fun ws => f ws.sum) mine one other b e) ∧ ∀ m, look (halfOf (fun ws => f ws.sum) mine one other b e) m = if b ≤ m ∧ m < e then pairO f (look one m) (look other m) else look mine m := by
  have lf := leftOf_canon h0.flat (Int.le_of_lt hb)
  have bf : Flat ((both one other b e).map (pRow fun ws => f ws.sum)) := pieces_flat (fun ws => f ws.sum) (partL one b e ++ partL other b e)
  have hd : ∀ r ∈ leftOf mine b e, ∀ s ∈ (both one other b e).map (pRow fun ws => f ws.sum), r.2.1 ≤ s.1 ∨ s.2.1 ≤ r.1 := fun r hr s hs => by
    obtain ⟨p, hp, rfl⟩ := List.mem_map.mp hs
    have := left_out h0.flat hb hr
    have := both_in hp
    show r.2.1 ≤ p.1 ∨ p.2.1 ≤ r.1
    omega
  have sr := srtR_look lf.flat bf hd
  refine ⟨joined_canon (sr 0).1, fun m => ?_⟩
  unfold halfOf
  rw [joined_look (sr 0).1, (sr m).2, leftOf_look h0.flat (Int.le_of_lt hb), both_look f h1 h2]
  split
  · rfl
  · cases look mine m <;> rfl
end Sx

/-! SxM4: an amount dealt by weights, plainly. -/
namespace Sx
def quo (a e : Int) (ws : List Int) : List Int := ws.map fun w => a * w / e
def rst (a e : Int) (ws : List Int) : List Int := ws.map fun w => a * w % e
def at0 (xs : List Int) (i : Nat) : Int := xs.getD i 0
def bump (xs : List Int) (i : Nat) : List Int := xs.set i (at0 xs i + 1)
/-- by rests, the greatest first, of like ones the first -/
def Fore (rs : List Int) (i j : Nat) : Prop := at0 rs j < at0 rs i ∨ (at0 rs i = at0 rs j ∧ i < j)
structure Order (rs : List Int) (os : List Nat) : Prop where
  perm : os.Perm (List.range rs.length)
  pw : os.Pairwise (Fore rs)
/-- the program's way -/
def dealtP (a : Int) (ws : List Int) (os : List Nat) : List Int := (os.take (a - (quo a ws.sum ws).sum).toNat).foldl bump (quo a ws.sum ws)
/-- the first of the greatest -/
def maxL : List Int → Int
  | [] => 0
  | [x] => x
  | x :: y :: ys => max x (maxL (y :: ys))
def idx (xs : List Int) (v : Int) : Nat := xs.findIdx fun x => decide (x = v)
def dealStep (s : List Int × List Int) : List Int × List Int := (bump s.1 (idx s.2 (maxL s.2)), s.2.set (idx s.2 (maxL s.2)) (-1))
def dealL : Nat → List Int × List Int → List Int × List Int
  | 0, s => s
  | n + 1, s => dealL n (dealStep s)
/-- the law's way -/
def dealtL (a : Int) (ws : List Int) : List Int := (dealL (a - (quo a ws.sum ws).sum).toNat (quo a ws.sum ws, rst a ws.sum ws)).1
theorem maxL_ge : ∀ {xs : List Int} {x : Int}, x ∈ xs → x ≤ maxL xs
  | [y], x, h => by rw [List.mem_singleton.mp h]; exact Int.le_refl _
  | y :: z :: ys, x, h => by
    unfold maxL
    rcases List.mem_cons.mp h with rfl | h
    · omega
    · have := maxL_ge h; omega
theorem maxL_mem : ∀ {xs : List Int}, xs ≠ [] → maxL xs ∈ xs
  | [y], _ => by simp [maxL]
  | y :: z :: ys, _ => by
    have ih := maxL_mem (xs := z :: ys) (by simp)
    unfold maxL
    by_cases h : y ≤ maxL (z :: ys)
    · rw [show max y (maxL (z :: ys)) = maxL (z :: ys) by omega]; exact List.mem_cons_of_mem _ ih
    · rw [show max y (maxL (z :: ys)) = y by omega]; exact List.mem_cons_self
/-- what has been taken is -1 -/
def dead (rs : List Int) (pk : List Nat) : List Int := pk.foldl (fun rs i => rs.set i (-1)) rs
theorem dead_len (pk : List Nat) : ∀ rs : List Int, (dead rs pk).length = rs.length := by
  induction pk with
  | nil => intro rs; rfl
  | cons i pk ih => intro rs; unfold dead; rw [List.foldl_cons]; exact (ih _).trans (by simp)
theorem at0_set {rs : List Int} {i j : Nat} {v : Int} (h : i < rs.length) : at0 (rs.set i v) j = if j = i then v else at0 rs j := by
  unfold at0
  rw [List.getD_eq_getElem?_getD, List.getD_eq_getElem?_getD]
  by_cases e : j = i
  · subst e; rw [if_pos rfl, List.getElem?_set_self h]; rfl
  · rw [if_neg e, List.getElem?_set_ne (fun z => e z.symm)]
theorem dead_at (pk : List Nat) : ∀ (rs : List Int), (∀ i ∈ pk, i < rs.length) → ∀ j, at0 (dead rs pk) j = if j ∈ pk then -1 else at0 rs j := by
  induction pk with
  | nil => intro rs _ j; simp [dead]
  | cons i pk ih =>
    intro rs h j
    have e : dead rs (i :: pk) = dead (rs.set i (-1)) pk := rfl
    rw [e, ih (rs.set i (-1)) (fun k hk => by rw [List.length_set]; exact h k (List.mem_cons_of_mem _ hk)), at0_set (h i List.mem_cons_self)]
    by_cases h1 : j ∈ pk
    · simp [h1]
    · by_cases h2 : j = i <;> simp [h1, h2]
theorem at0_mem {xs : List Int} {i : Nat} (h : i < xs.length) : at0 xs i ∈ xs := by
  unfold at0; rw [List.getD_eq_getElem?_getD, List.getElem?_eq_getElem h]; exact List.getElem_mem h
theorem mem_at0 {xs : List Int} {x : Int} (h : x ∈ xs) : ∃ i, i < xs.length ∧ at0 xs i = x := by
  obtain ⟨i, hi, e⟩ := List.mem_iff_getElem.mp h
  exact ⟨i, hi, by unfold at0; rw [List.getD_eq_getElem?_getD, List.getElem?_eq_getElem hi]; exact e⟩
theorem idx_spec {xs : List Int} {i : Nat} (hi : i < xs.length) (h : ∀ j, j < i → at0 xs j ≠ at0 xs i) : idx xs (at0 xs i) = i := by
  unfold idx
  have g : ∀ j, j < xs.length → ∀ (hj : j < xs.length), xs[j] = at0 xs j := fun j _ hj => by unfold at0; rw [List.getD_eq_getElem?_getD, List.getElem?_eq_getElem hj]; rfl
  rw [List.findIdx_eq hi]
  refine ⟨by rw [g i hi hi]; simp, fun j hj => ?_⟩
  have hj2 : j < xs.length := Nat.lt_trans hj hi
  rw [g j hj2 hj2]
  simpa using h j hj
/-- the next one that the law takes is the next one in order -/
theorem pick_next {rs : List Int} (pos : ∀ r ∈ rs, 0 ≤ r) {pre post : List Nat} {k : Nat} (o : Order rs (pre ++ k :: post)) : idx (dead rs pre) (maxL (dead rs pre)) = k := by
  have inr : ∀ i ∈ pre ++ k :: post, i < rs.length := fun i hi => List.mem_range.mp (o.perm.mem_iff.mp hi)
  have nd : (pre ++ k :: post).Nodup := o.perm.symm.nodup List.nodup_range
  have hk : k < rs.length := inr k (by simp)
  have kn : k ∉ pre := fun h => (List.nodup_append.mp nd).2.2 k h k (by simp) rfl
  have da := dead_at pre rs fun i hi => inr i (by simp [hi])
  have dl := dead_len pre rs
  have ek : at0 (dead rs pre) k = at0 rs k := by rw [da, if_neg kn]
  have k0 : 0 ≤ at0 rs k := pos _ (at0_mem hk)
  have pk := (List.pairwise_cons.mp (List.pairwise_append.mp o.pw).2.1).1
  have cl : ∀ j, j < rs.length → j ∈ pre ∨ j = k ∨ j ∈ post := fun j hj => by
    have := o.perm.mem_iff.mpr (List.mem_range.mpr hj)
    simpa using this
  have mx : maxL (dead rs pre) = at0 (dead rs pre) k := by
    have h1 := maxL_ge (at0_mem (xs := dead rs pre) (i := k) (by omega))
    have h2 := maxL_mem (xs := dead rs pre) (fun z => by rw [z] at dl; simp at dl; omega)
    obtain ⟨j, hj, e⟩ := mem_at0 h2
    rcases cl j (by omega) with h | h | h
    · rw [da, if_pos h] at e; omega
    · rw [← e, h]
    · have jn : j ∉ pre := fun z => (List.nodup_append.mp nd).2.2 j z j (by simp [h]) rfl
      rw [da, if_neg jn] at e
      rcases pk j h with h3 | h3
      · omega
      · omega
  rw [mx]
  refine idx_spec (by omega) fun j hj => ?_
  rw [ek, da]
  split
  · omega
  · rename_i jn
    rcases cl j (by omega) with h | h | h
    · exact absurd h jn
    · omega
    · rcases pk j h with h3 | h3 <;> omega
theorem deal_go {rs : List Int} (pos : ∀ r ∈ rs, 0 ≤ r) : ∀ (n : Nat) (pre post : List Nat) (q : List Int), Order rs (pre ++ post) → n ≤ post.length → (dealL n (q, dead rs pre)).1 = (post.take n).foldl bump q
  | 0, _, _, _, _, _ => by simp [dealL]
  | n + 1, pre, [], _, _, h => by simp at h
  | n + 1, pre, k :: post, q, o, h => by
    have e := pick_next pos o
    have st : dealStep (q, dead rs pre) = (bump q k, dead rs (pre ++ [k])) := by
      unfold dealStep
      simp only [e]
      unfold dead
      rw [List.foldl_append]; rfl
    rw [dealL, st, deal_go pos n (pre ++ [k]) post (bump q k) (by simpa using o) (by simpa using h)]
    rfl
/-! ### sums -/
theorem rest_sum {e : Int} (he : 0 < e) (a : Int) : ∀ ws : List Int, a * ws.sum = e * (quo a e ws).sum + (rst a e ws).sum
  | [] => by simp [quo, rst]
  | w :: ws => by
    have ih := rest_sum he a ws
    have d := Int.mul_ediv_add_emod (a * w) e
    simp only [quo, rst, List.map_cons, List.sum_cons, Int.mul_add] at ih ⊢
    omega
theorem rst_bnd {e : Int} (he : 0 < e) {a : Int} {ws : List Int} : ∀ r ∈ rst a e ws, 0 ≤ r ∧ r < e := fun r hr => by
  obtain ⟨w, _, rfl⟩ := List.mem_map.mp hr
  exact ⟨Int.emod_nonneg _ (by omega), Int.emod_lt_of_pos _ he⟩
theorem sum_bnd {e : Int} : ∀ {rs : List Int}, (∀ r ∈ rs, 0 ≤ r ∧ r < e) → 0 ≤ rs.sum ∧ rs.sum ≤ e * ((rs.filter fun r => decide (0 < r)).length : Int) ∧ (0 < rs.sum → rs.sum < e * ((rs.filter fun r => decide (0 < r)).length : Int))
  | [], _ => by simp
  | r :: rs, h => by
    have hr := h r List.mem_cons_self
    have ih := sum_bnd fun s hs => h s (List.mem_cons_of_mem _ hs)
    rw [List.sum_cons, List.filter_cons]
    by_cases h0 : 0 < r
    · rw [if_pos (by simpa using h0)]
      simp only [List.length_cons, Int.natCast_add, Int.mul_add]
      omega
    · rw [if_neg (by simpa using h0)]
      omega
/-- what is left: as many as have a rest at most -/
theorem left_bnd {a : Int} {ws : List Int} (he : 0 < ws.sum) : 0 ≤ a - (quo a ws.sum ws).sum ∧ a - (quo a ws.sum ws).sum ≤ ((rst a ws.sum ws).filter fun r => decide (0 < r)).length := by
  have s := rest_sum he a ws
  have b := sum_bnd (rst_bnd he (a := a) (ws := ws))
  have e : (rst a ws.sum ws).sum = ws.sum * (a - (quo a ws.sum ws).sum) := by
    rw [Int.mul_sub]
    have : ws.sum * a = a * ws.sum := Int.mul_comm _ _
    omega
  rw [e] at b
  refine ⟨?_, ?_⟩
  · by_cases h : 0 ≤ a - (quo a ws.sum ws).sum
    · exact h
    · have := Int.mul_neg_of_pos_of_neg he (show a - (quo a ws.sum ws).sum < 0 by omega); omega
  · exact Int.le_of_mul_le_mul_left b.2.1 he
theorem dealt_same {a : Int} {ws : List Int} (he : 0 < ws.sum) {os : List Nat} (o : Order (rst a ws.sum ws) os) : dealtL a ws = dealtP a ws os := by
  have l := left_bnd (a := a) he
  have len : os.length = (rst a ws.sum ws).length := by have := o.perm.length_eq; simpa using this
  have fl := List.length_filter_le (fun r => decide (0 < r)) (rst a ws.sum ws)
  exact deal_go (fun r hr => (rst_bnd he r hr).1) _ [] os _ o (by omega)
theorem sum_set {xs : List Int} : ∀ {i : Nat} {v : Int}, i < xs.length → (xs.set i v).sum = xs.sum - at0 xs i + v := by
  induction xs with
  | nil => intro i v h; simp at h
  | cons x xs ih =>
    intro i v h
    cases i with
    | zero => simp [at0]; omega
    | succ i =>
      have := ih (i := i) (v := v) (by simpa using h)
      simp only [List.set_cons_succ, List.sum_cons, this]
      have e : at0 (x :: xs) (i + 1) = at0 xs i := by simp [at0]
      rw [e]; omega
theorem bump_len (xs : List Int) (i : Nat) : (bump xs i).length = xs.length := by simp [bump]
theorem bumps_sum : ∀ (pk : List Nat) (xs : List Int), (∀ i ∈ pk, i < xs.length) → (pk.foldl bump xs).sum = xs.sum + pk.length ∧ (pk.foldl bump xs).length = xs.length
  | [], xs, _ => by simp
  | i :: pk, xs, h => by
    have hi := h i List.mem_cons_self
    have := bumps_sum pk (bump xs i) fun j hj => by rw [bump_len]; exact h j (List.mem_cons_of_mem _ hj)
    rw [List.foldl_cons, this.1, this.2, bump_len, bump, sum_set hi, List.length_cons]
    exact ⟨by omega, rfl⟩
theorem order_in {rs : List Int} {os : List Nat} (o : Order rs os) {i : Nat} (h : i ∈ os) : i < rs.length := List.mem_range.mp (o.perm.mem_iff.mp h)
/-- together just the amount -/
theorem dealt_sum {a : Int} {ws : List Int} (he : 0 < ws.sum) {os : List Nat} (o : Order (rst a ws.sum ws) os) : (dealtP a ws os).sum = a ∧ (dealtP a ws os).length = ws.length := by
  have l := left_bnd (a := a) he
  have len : os.length = (rst a ws.sum ws).length := by have := o.perm.length_eq; simpa using this
  have fl := List.length_filter_le (fun r => decide (0 < r)) (rst a ws.sum ws)
  have lq : (quo a ws.sum ws).length = ws.length := by simp [quo]
  have lr : (rst a ws.sum ws).length = ws.length := by simp [rst]
  have b := bumps_sum (os.take (a - (quo a ws.sum ws).sum).toNat) (quo a ws.sum ws) fun i hi => by have := order_in o (List.mem_of_mem_take hi); omega
  unfold dealtP
  rw [b.1, b.2, List.length_take]
  omega
theorem bumps_at : ∀ (pk : List Nat) (xs : List Int) (j : Nat), (∀ i ∈ pk, i < xs.length) → j ∉ pk → at0 (pk.foldl bump xs) j = at0 xs j
  | [], _, _, _, _ => rfl
  | i :: pk, xs, j, h, hj => by
    rw [List.foldl_cons, bumps_at pk (bump xs i) j (fun k hk => by rw [bump_len]; exact h k (List.mem_cons_of_mem _ hk)) (fun z => hj (List.mem_cons_of_mem _ z)), bump, at0_set (h i List.mem_cons_self), if_neg fun z => hj (by simp [z])]
theorem at0_map {xs : List Int} {f : Int → Int} {i : Nat} (h : i < xs.length) : at0 (xs.map f) i = f (at0 xs i) := by
  unfold at0
  rw [List.getD_eq_getElem?_getD, List.getD_eq_getElem?_getD, List.getElem?_map, List.getElem?_eq_getElem h]; rfl
/-- those with no rest come last -/
theorem zero_last {rs : List Int} (pos : ∀ r ∈ rs, 0 ≤ r) {os : List Nat} (o : Order rs os) {n : Nat} (hn : n ≤ (rs.filter fun r => decide (0 < r)).length) {i : Nat} (hi : i ∈ os.take n) : 0 < at0 rs i := by
  have io : i ∈ os := List.mem_of_mem_take hi
  have i0 := pos _ (at0_mem (order_in o io))
  by_cases h : 0 < at0 rs i
  · exact h
  exfalso
  -- all that are at or behind i have no rest
  obtain ⟨k, hk, e⟩ := List.mem_iff_getElem.mp hi
  have hkn : k < n := by rw [List.length_take] at hk; omega
  have hko : k < os.length := by rw [List.length_take] at hk; omega
  have e : os[k] = i := by rw [List.getElem_take] at e; exact e
  have sp : os = os.take k ++ os.drop k := (List.take_append_drop k os).symm
  have dz : ∀ j ∈ os.drop k, ¬ 0 < at0 rs j := fun j hj => by
    rw [List.drop_eq_getElem_cons hko, e] at hj
    have pw := o.pw
    rw [sp, List.drop_eq_getElem_cons hko, e] at pw
    have pk := (List.pairwise_cons.mp (List.pairwise_append.mp pw).2.1).1
    rcases List.mem_cons.mp hj with rfl | hj
    · exact h
    · rcases pk j hj with z | z <;> omega
  have c : (rs.filter fun r => decide (0 < r)).length = ((List.range rs.length).filter fun j => decide (0 < at0 rs j)).length := by
    have : rs = (List.range rs.length).map (at0 rs) := by
      apply List.ext_getElem (by simp)
      intro j h1 h2
      simp [at0, h1]
    conv => lhs; rw [this]
    rw [List.filter_map, List.length_map]; rfl
  have c2 : ((List.range rs.length).filter fun j => decide (0 < at0 rs j)).length = (os.filter fun j => decide (0 < at0 rs j)).length := (o.perm.symm.filter _).length_eq
  have c3 : (os.filter fun j => decide (0 < at0 rs j)).length ≤ k := by
    rw [sp, List.filter_append, List.length_append]
    have z : (os.drop k).filter (fun j => decide (0 < at0 rs j)) = [] := by
      rw [List.filter_eq_nil_iff]; intro j hj; simpa using dz j hj
    rw [z]
    have := List.length_filter_le (fun j => decide (0 < at0 rs j)) (os.take k)
    rw [List.length_take] at this
    simp only [List.length_nil]
    omega
  omega
/-- a weight of nought gets nought -/
theorem dealt_zero {a : Int} {ws : List Int} (he : 0 < ws.sum) {os : List Nat} (o : Order (rst a ws.sum ws) os) {i : Nat} (hi : i < ws.length) (h0 : at0 ws i = 0) : at0 (dealtP a ws os) i = 0 := by
  have l := left_bnd (a := a) he
  have lq : (quo a ws.sum ws).length = ws.length := by simp [quo]
  have lr : (rst a ws.sum ws).length = ws.length := by simp [rst]
  have nt : i ∉ os.take (a - (quo a ws.sum ws).sum).toNat := fun h => by
    have := zero_last (fun r hr => (rst_bnd he r hr).1) o (by omega) h
    rw [rst, at0_map hi, h0] at this
    simp at this
  unfold dealtP
  rw [bumps_at _ _ _ (fun j hj => by have := order_in o (List.mem_of_mem_take hj); omega) nt, quo, at0_map hi, h0]
  simp
end Sx

/-! SxPred: what is a month, a spell, a row, a line. -/
namespace Sx
open PySem L2
def isFrom (d : D) (lo hi : Int) : Bool := match d with
  | .int i => decide (lo ≤ i) && decide (i ≤ hi)
  | _ => false
def isMonth (d : D) : Bool := isFrom d 0 2399
def isSpell : D → Bool
  | .tup [.int a, e] => isFrom (.int a) 0 2399 && isFrom e (a + 1) 2400
  | _ => false
def isRow : D → Bool
  | .tup [.int a, .int b, .int w] => isSpell (.tup [.int a, .int b]) && isFrom (.int w) 0 1000000000
  | _ => false
/-- one row ahead of another one: no overlap, not to be made one -/
def apart : D → D → Bool
  | .tup [.int _, .int b, .int w], .tup [.int c, .int _, .int v] => decide (b ≤ c) && !(decide (b = c) && decide (w = v))
  | _, _ => false
def apartL : List D → Bool
  | d :: e :: ds => apart d e && apartL (e :: ds)
  | _ => true
def isLine : D → Bool
  | .tup ds => decide (ds.length ≤ 60) && (ds.all isRow && apartL ds)
  | _ => false
theorem is_from_ok {d : D} {lo hi : Int} (h : d.noDct = true) : f_is_from [] [d, .int lo, .int hi] = .ok (.dat (.bl (isFrom d lo hi))) [] := by
  cases d with
  | int i =>
    by_cases h1 : lo ≤ i
    · simp [f_is_from, g_is_from, fnS_ap, startE_ap, Kd.isT, isFrom, h1]
    · simp [f_is_from, g_is_from, fnS_ap, startE_ap, Kd.isT, isFrom, h1]
  | dct x => cases h
  | _ => simp [f_is_from, g_is_from, fnS_ap, startE_ap, Kd.isT, isFrom]
theorem law_from_ok {d : D} {lo hi : Int} (h : d.noDct = true) : f__law_from [] [d, .int lo, .int hi] = .ok (.dat (.bl (isFrom d lo hi))) [] := is_from_ok h
theorem is_month_ok {d : D} (h : d.noDct = true) : f_is_month [] [d] = .ok (.dat (.bl (isMonth d))) [] := by
  simp [f_is_month, g_is_month, fnS_ap, startE_ap, is_from_ok h, isMonth]
theorem isFrom_int {d : D} {lo hi : Int} (h : isFrom d lo hi = true) : ∃ i, d = .int i ∧ lo ≤ i ∧ i ≤ hi := by
  cases d <;> simp [isFrom] at h
  exact ⟨_, rfl, h.1, h.2⟩
/-- parts without dicts of tuple keys -/
def D.parts : D → Prop
  | .tup ds => ∀ d ∈ ds, d.noDct = true
  | .dct _ => False
  | _ => True
theorem isSpell2 {a e : D} : isSpell (.tup [a, e]) = (match a with | .int i => isFrom a 0 2399 && isFrom e (i + 1) 2400 | _ => false) := by
  cases a <;> rfl
theorem spell_len {ds : List D} (h : ds.length ≠ 2) : isSpell (.tup ds) = false := by
  match ds, h with
  | [], _ => rfl
  | [a], _ => cases a <;> rfl
  | [_, _], h => exact absurd rfl h
  | a :: _ :: _ :: _, _ => cases a <;> rfl
theorem is_spell_ok {d : D} (h : d.parts) : f_is_spell [] [d] = .ok (.dat (.bl (isSpell d))) [] := by
  cases d with
  | tup ds =>
    match ds, h with
    | [a, e], h =>
      have ha : a.noDct = true := h a (by simp)
      have he : e.noDct = true := h e (by simp)
      rw [isSpell2]
      cases a with
      | int i =>
        have m := is_month_ok (d := .int i) rfl
        by_cases hm : isMonth (.int i) = true
        · have hm' : isFrom (.int i) 0 2399 = true := hm
          simp [f_is_spell, g_is_spell, fnS_ap, startE_ap, Kd.isT, m, hm, hm', is_from_ok he]
        · have hm : isMonth (.int i) = false := by simpa using hm
          have hm' : isFrom (.int i) 0 2399 = false := hm
          simp [f_is_spell, g_is_spell, fnS_ap, startE_ap, Kd.isT, m, hm, hm']
      | dct x => cases ha
      | _ => simp [f_is_spell, g_is_spell, fnS_ap, startE_ap, Kd.isT, is_month_ok ha, isMonth, isFrom]
    | [], _ => rfl
    | [a], _ =>
      rw [spell_len (by simp)]
      simp [f_is_spell, g_is_spell, fnS_ap, startE_ap, Kd.isT]
    | a :: b :: c :: r, _ =>
      rw [spell_len (by simp)]
      have : ¬ ((r.length : Int) + 1 + 1 + 1 = 2) := by omega
      simp [f_is_spell, g_is_spell, fnS_ap, startE_ap, Kd.isT, this]
  | dct x => exact h.elim
  | _ => simp [f_is_spell, g_is_spell, fnS_ap, startE_ap, Kd.isT, isSpell]
theorem row_len {ds : List D} (h : ds.length ≠ 3) : isRow (.tup ds) = false := by
  unfold isRow
  split
  · rename_i e; cases e; exact absurd rfl h
  · rfl
theorem isRow3 {a b c : D} : isRow (.tup [a, b, c]) = (isSpell (.tup [a, b]) && isFrom c 0 1000000000) := by
  cases a <;> cases b <;> cases c <;> first | rfl | simp [isRow, isSpell, isFrom]
theorem is_row_ok {d : D} (h : d.parts) : f_is_row [] [d] = .ok (.dat (.bl (isRow d))) [] := by
  cases d with
  | tup ds =>
    match ds, h with
    | [a, b, c], h =>
      have hc : c.noDct = true := h c (by simp)
      have sp := is_spell_ok (d := .tup [a, b]) (by
        intro d hd
        simp only [List.mem_cons, List.not_mem_nil, or_false] at hd
        rcases hd with rfl | rfl
        · exact h _ (by simp)
        · exact h _ (by simp))
      rw [isRow3]
      by_cases hs : isSpell (.tup [a, b]) = true
      · simp [f_is_row, g_is_row, fnS_ap, startE_ap, Kd.isT, sp, hs, is_from_ok hc]
      · have hs : isSpell (.tup [a, b]) = false := by simpa using hs
        simp [f_is_row, g_is_row, fnS_ap, startE_ap, Kd.isT, sp, hs]
    | [], _ => rfl
    | [a], _ =>
      rw [row_len (by simp)]
      simp [f_is_row, g_is_row, fnS_ap, startE_ap, Kd.isT]
    | [a, b], _ =>
      rw [row_len (by simp)]
      simp [f_is_row, g_is_row, fnS_ap, startE_ap, Kd.isT]
    | a :: b :: c :: e :: r, _ =>
      rw [row_len (by simp)]
      have : ¬ ((r.length : Int) + 1 + 1 + 1 + 1 = 3) := by omega
      simp [f_is_row, g_is_row, fnS_ap, startE_ap, Kd.isT, this]
  | dct x => exact h.elim
  | _ => simp [f_is_row, g_is_row, fnS_ap, startE_ap, Kd.isT, isRow]
theorem isRow_enc {d : D} (h : isRow d = true) : ∃ r : Row, d = encR r ∧ RowOk r ∧ r.2.2 ≤ 1000000000 := by
  unfold isRow at h
  split at h
  · rename_i a b w
    simp only [isSpell, isFrom, Bool.and_eq_true, decide_eq_true_eq] at h
    exact ⟨(a, b, w), rfl, ⟨h.1.1.1, by simp only; omega, h.1.2.2, h.2.1⟩, h.2.2⟩
  · cases h
theorem apart_enc (r s : Row) : apart (encR r) (encR s) = (decide (r.2.1 ≤ s.1) && !(decide (r.2.1 = s.1) && decide (r.2.2 = s.2.2))) := rfl
/-- the loop over neighbours -/
theorem line_pairs (x : Option Val) (μ : Sto) : ∀ (rows : List Row) (r : Row) (o1 o2 : Option Val), ∃ ρ', forL (gT 2 (gsCons (gN 1) (gsCons (gN 2) (gsNil)))) b_is_line_1 (zipD ((r :: rows).map encR) (rows.map encR)) [x, o1, o2] μ = if apartL ((r :: rows).map encR) = true then .next ρ' μ else .ret (.dat (.bl false)) μ := by
  intro rows
  induction rows with
  | nil => intro r o1 o2; exact ⟨_, rfl⟩
  | cons s rows ih =>
    intro r o1 o2
    obtain ⟨ρ', e⟩ := ih s (some (.dat (encR r))) (some (.dat (encR s)))
    refine ⟨ρ', ?_⟩
    have z : zipD ((r :: s :: rows).map encR) ((s :: rows).map encR) = .tup [encR r, encR s] :: zipD ((s :: rows).map encR) (rows.map encR) := rfl
    have a : apartL ((r :: s :: rows).map encR) = (apart (encR r) (encR s) && apartL ((s :: rows).map encR)) := rfl
    rw [z, a, apart_enc]
    simp only [forL]
    generalize zipD ((s :: rows).map encR) (rows.map encR) = zz at e ⊢
    generalize apartL ((s :: rows).map encR) = aa at e ⊢
    obtain ⟨a, b, w⟩ := r
    obtain ⟨c, d, v⟩ := s
    simp only [encR] at e ⊢
    by_cases h1 : b ≤ c
    · have h1' : ¬ c < b := by omega
      by_cases h2 : b = c
      · by_cases h3 : w = v
        · simp [b_is_line_1, h1', h2, h3]
        · subst h2
          simp [b_is_line_1, h3, e]
      · simp [b_is_line_1, h1, h1', h2, e]
    · have h1' : c < b := by omega
      simp [b_is_line_1, h1, h1']
theorem rows_of {ds : List D} (h : ds.all isRow = true) : ∃ rows : List Row, ds = rows.map encR ∧ ∀ r ∈ rows, RowOk r ∧ r.2.2 ≤ 1000000000 :=
  enc_rows fun d hd => isRow_enc (List.all_eq_true.mp h d hd)
theorem line_pairs2 {ds : List D} (x : Option Val) (μ : Sto) (h : ds.all isRow = true) (o1 o2 : Option Val) : ∃ ρ', forL (gT 2 (gsCons (gN 1) (gsCons (gN 2) (gsNil)))) b_is_line_1 (zipD ds (cut ds (some 1) none)) [x, o1, o2] μ = if apartL ds = true then .next ρ' μ else .ret (.dat (.bl false)) μ := by
  obtain ⟨rows, rfl, _⟩ := rows_of h
  cases rows with
  | nil => exact ⟨_, rfl⟩
  | cons r rows =>
    rw [cut_from (by decide)]
    exact line_pairs x μ rows r o1 o2
/-- a tuple whose rows have no dicts of tuple keys -/
def D.parts2 : D → Prop
  | .tup ds => ∀ d ∈ ds, d.parts
  | .dct _ => False
  | _ => True
theorem is_line_ok {d : D} (h : d.parts2) : f_is_line [] [d] = .ok (.dat (.bl (isLine d))) [] := by
  cases d with
  | tup ds =>
    have cm : compL (gN 1) none (sCallF [false] f_is_row [sVar 1]) [some (.dat (.tup ds)), none, none] ds ([] : Sto) = .ok (ds.map fun d => .bl (isRow d)) [] :=
      compL_map (fun d => .bl (isRow d)) fun d hd => ⟨_, rfl, by simp [is_row_ok (h d hd)]⟩
    have a := all_map (μ := []) isRow ds
    have lx : isLine (.tup ds) = (decide (ds.length ≤ 60) && (ds.all isRow && apartL ds)) := rfl
    rw [lx]
    by_cases hl : ds.length ≤ 60
    · have hl' : ¬ ((60 : Int) < ds.length) := by omega
      by_cases hr : ds.all isRow = true
      · obtain ⟨ρ', e⟩ := line_pairs2 (some (.dat (.tup ds))) [] hr none none
        rw [hr] at a
        generalize apartL ds = aa at e ⊢
        cases aa with
        | true => simp [f_is_line, g_is_line, fnS_ap, startE_ap, Kd.isT, cm, a, e, hl, hl', hr]
        | false => simp [f_is_line, g_is_line, fnS_ap, startE_ap, Kd.isT, cm, a, e, hl, hl', hr]
      · have hr : ds.all isRow = false := by simpa using hr
        rw [hr] at a
        rw [hr]
        simp [f_is_line, g_is_line, fnS_ap, startE_ap, Kd.isT, cm, a]
    · have hl' : (60 : Int) < ds.length := by omega
      simp [f_is_line, g_is_line, fnS_ap, startE_ap, Kd.isT, hl', hl]
  | dct x => exact h.elim
  | _ => simp [f_is_line, g_is_line, fnS_ap, startE_ap, Kd.isT, isLine]
end Sx

/-! SxLines: the program's functions of lines, each as plain mathematics. -/
namespace Sx
open PySem L2
/-! ### new steps by simp -/
section
variable {ρ : Env} {μ : Sto} {x : Exn} {m k : Str → Option Bool} {i f n : Nat} {g : SS} {h : Exn → Env → Sto → SOut} {s : Str} {ds : List D}
@[simp] theorem sRaise_ap : sRaise s ρ μ = .exc ⟨s, none⟩ ρ μ := nr rfl
theorem sTryIs_eq : sTryIs m k i f g ρ μ = onExc m (isIn k i f) (g ρ μ) := nr rfl
@[simp] theorem sTryIs_ap : sTryIs m k i f g ρ μ = onExc m (isIn k i f) (g ρ μ) := sTryIs_eq
@[simp] theorem onExc_next : onExc m h (.next ρ μ) = .next ρ μ := nr rfl
@[simp] theorem onExc_ret {r : Res} : onExc m h (.ret r μ) = .ret r μ := nr rfl
theorem onExc_hit (e : m x.cls = some true) : onExc m h (.exc x ρ μ) = h x ρ μ := by simp [onExc, e]
@[simp] theorem onExc_ite {p : Prop} [Decidable p] {o o' : SOut} : onExc m h (if p then o else o') = if p then onExc m h o else onExc m h o' := by split <;> rfl
def lvK (v : Val) (μ : Sto) : Out Res := match rdD μ v with
  | some kvs => .ok (.new (.lst (kvs.map fun p => p.2))) μ
  | none => .stuck
@[simp] theorem lvK_dic {kvs : List (Key × D)} : lvK (.dat (.dic kvs)) μ = .ok (.new (.lst (kvs.map fun p => p.2))) μ := nr rfl
theorem sListVals_eq {f : SE} : sListVals f ρ μ = opd (f ρ μ) lvK := nr rfl
@[simp] theorem sListVals_ap {f : SE} : sListVals f ρ μ = opd (f ρ μ) lvK := sListVals_eq
theorem truK_loc {n : Nat} (h : μ[n]? = some (.lst ds)) : truK (.loc n) μ = .ok (.dat (.bl (!ds.isEmpty))) μ := by simp [truK, truD, h]
@[simp] theorem sum_ints {ns : List Int} : opSum μ [.dat (.lst (ns.map .int))] = some (.dat (.int ns.sum)) := by simp [opSum, c1, intsD_map]
end
theorem compL_mapE {τ : Type} {g : SG} {e : SE} {ρ : Env} {μ : Sto} (enc k : τ → D) : ∀ {xs : List τ}, (∀ x ∈ xs, ∃ ρ1, g (.dat (enc x)) ρ = some ρ1 ∧ e ρ1 μ = .ok (.dat (k x)) μ) → compL g none e ρ (xs.map enc) μ = .ok (xs.map k) μ
  | [], _ => rfl
  | x :: xs, h => by
    obtain ⟨ρ1, h1, h2⟩ := h x List.mem_cons_self
    have ih := compL_mapE (g := g) (e := e) (ρ := ρ) (μ := μ) enc k (xs := xs) fun y hy => h y (List.mem_cons_of_mem _ hy)
    simp only [compL, h1, turnC, tsts, opd, Res.val, onB, h2, ih, consO, List.map_cons]
theorem compL_filterE {τ : Type} {g : SG} {c e : SE} {ρ : Env} {μ : Sto} (enc k : τ → D) (p : τ → Bool) : ∀ {xs : List τ}, (∀ x ∈ xs, ∃ ρ1, g (.dat (enc x)) ρ = some ρ1 ∧ c ρ1 μ = .ok (.dat (.bl (p x))) μ ∧ (p x = true → e ρ1 μ = .ok (.dat (k x)) μ)) → compL g (some c) e ρ (xs.map enc) μ = .ok ((xs.filter p).map k) μ
  | [], _ => rfl
  | x :: xs, h => by
    obtain ⟨ρ1, h1, h2, h3⟩ := h x List.mem_cons_self
    have ih := compL_filterE (g := g) (c := c) (e := e) (ρ := ρ) (μ := μ) enc k p (xs := xs) fun y hy => h y (List.mem_cons_of_mem _ hy)
    rw [List.filter_cons]
    cases hp : p x with
    | true =>
      rw [hp] at h2
      simp only [List.map_cons, compL, h1, turnC, tsts, h2, opd, Res.val, onB, h3 hp, ih, consO, if_true]
    | false =>
      rw [hp] at h2
      simp only [List.map_cons, compL, h1, turnC, tsts, h2, opd, Res.val, onB, ih, Bool.false_eq_true, if_false]
/-! ### joined -/
theorem join_ap (acc : List Row) (b e w : Int) (x : Option Val) (hl : acc.length < 1000000) :
    b_joined_1 [x, some (.loc 0), some (.dat (.int b)), some (.dat (.int e)), some (.dat (.int w))] [.lst (acc.map encR)] =
      .next [x, some (.loc 0), some (.dat (.int b)), some (.dat (.int e)), some (.dat (.int w))] [.lst ((joinStep acc (b, e, w)).map encR)] := by
  have tr : truK (.loc 0) [.lst (acc.map encR)] = .ok (.dat (.bl (!acc.isEmpty))) [.lst (acc.map encR)] := by
    rw [truK_loc (ds := acc.map encR) rfl]; cases acc <;> rfl
  have ap : sMetL opAppend (sVar 1) [sTup [sVar 2, sVar 3, sVar 4]] [x, some (.loc 0), some (.dat (.int b)), some (.dat (.int e)), some (.dat (.int w))] [.lst (acc.map encR)] = .ok (.dat .non) [.lst ((acc ++ [(b, e, w)]).map encR)] := by
    rw [sMet_loc (k := 0) (ds := acc.map encR) (μ1 := [.lst (acc.map encR)]) (μ2 := [.lst (acc.map encR)]) (as := [.dat (encR (b, e, w))]) (by simp) rfl (by simp [encR]) (append_ok rfl (by rw [sizeLine_eq]; simp; omega))]
    simp
  rcases snoc_cases acc with rfl | ⟨ini, ⟨b', e', v⟩, rfl⟩
  · simp only [List.map_nil, List.isEmpty_nil, Bool.not_true] at tr ap
    simp [b_joined_1, tr, ap, joinStep_nil]
  · have lx : opIx [.lst ((ini ++ [(b', e', v)]).map encR)] (.loc 0) (.dat (.int (-1))) = some (.dat (encR (b', e', v))) := ix_sq rdS_loc0 (by rw [List.map_append]; exact atI_last)
    have e0 : (ini ++ [(b', e', v)]).isEmpty = false := by simp
    rw [e0] at tr
    have st : setC [.lst ((ini ++ [(b', e', v)]).map encR)] 0 (.dat (.int (-1))) (encR (b', e, w)) = some [.lst ((ini ++ [(b', e, w)]).map encR)] := by
      rw [setC_0 (ixN_last (by simp))]
      simp [encR]
    rw [joinStep_snoc]
    generalize (ini ++ [(b', e', v)]).map encR = A at tr ap lx st ⊢
    by_cases h1 : e' = b
    · by_cases h2 : v = w
      · rw [if_pos ⟨h1, h2⟩]
        simp only [encR] at st lx
        simp [b_joined_1, tr, lx, encR, h1, h2, st]
      · rw [if_neg (by simp [h2])]
        simp only [encR] at lx
        simp only [List.map_append] at ap
        simp [b_joined_1, tr, lx, h1, h2, ap]
    · rw [if_neg (by simp [h1])]
      simp only [encR] at lx
      simp [b_joined_1, tr, lx, h1, ap]
abbrev rowG (i j k : Nat) : SG := gT 3 (gsCons (gN i) (gsCons (gN j) (gsCons (gN k) (gsNil))))
theorem join_loop (x : Option Val) : ∀ (rows acc : List Row) (o2 o3 o4 : Option Val), acc.length + rows.length ≤ 1000000 →
    ∃ o2' o3' o4', forL (rowG 2 3 4) b_joined_1 (rows.map encR) [x, some (.loc 0), o2, o3, o4] [.lst (acc.map encR)] = .next [x, some (.loc 0), o2', o3', o4'] [.lst ((rows.foldl joinStep acc).map encR)]
  | [], acc, o2, o3, o4, _ => ⟨o2, o3, o4, rfl⟩
  | (b, e, w) :: rows, acc, o2, o3, o4, hl => by
    simp only [List.length_cons] at hl
    have l1 := joinStep_len acc (b, e, w)
    obtain ⟨o2', o3', o4', q⟩ := join_loop x rows (joinStep acc (b, e, w)) (some (.dat (.int b))) (some (.dat (.int e))) (some (.dat (.int w))) (by omega)
    refine ⟨o2', o3', o4', ?_⟩
    have st := join_ap acc b e w x (by omega)
    simp only [List.map_cons, List.foldl_cons]
    generalize rows.map encR = R at q ⊢
    simp [forL, encR, st]
    exact q
theorem joined_ok {d : D} {rows : List Row} (hd : ∀ μ, itA (.dat d) μ = some (rows.map encR)) (hl : rows.length ≤ 1000000) : f_joined [] [d] = .ok (.dat (.tup ((joined rows).map encR))) [] := by
  obtain ⟨a, b, c, e⟩ := join_loop (some (.dat d)) rows [] none none none (by simpa using hl)
  simp only [List.map_nil] at e
  have j : joined rows = rows.foldl joinStep [] := rfl
  rw [j]
  simp [f_joined, g_joined, fnS_ap, startE_ap, hd, e, tuple_sq (rdS_loc0 (ds := (rows.foldl joinStep []).map encR))]
/-! ### pieces -/
def encP3 (p : Piece) : D := .tup [.int p.1, .int p.2.1, .lst (p.2.2.map .int)]
theorem cover_comp {d : D} {rows : List Row} (hd : ∀ μ, itA (.dat d) μ = some (rows.map encR)) (b e : Int) (o1 o2 o5 o6 o7 o8 o9 o10 : Option Val) (μ : Sto) :
    compL (rowG 8 9 10) (some (sAnd (sBin opLe (sVar 8) (sVar 3)) (sBin opLe (sVar 4) (sVar 9)))) (sVar 10) [some (.dat d), o1, o2, some (.dat (.int b)), some (.dat (.int e)), o5, o6, o7, o8, o9, o10] (rows.map encR) μ = .ok ((cover rows b e).map .int) μ := by
  have h := compL_filterE (g := rowG 8 9 10) (μ := μ) (ρ := [some (.dat d), o1, o2, some (.dat (.int b)), some (.dat (.int e)), o5, o6, o7, o8, o9, o10]) (c := sAnd (sBin opLe (sVar 8) (sVar 3)) (sBin opLe (sVar 4) (sVar 9))) (e := sVar 10) (xs := rows)
    encR (fun r => .int r.2.2) (fun r => decide (r.1 ≤ b) && decide (e ≤ r.2.1)) fun ⟨f, l, w⟩ hr => ⟨[some (.dat d), o1, o2, some (.dat (.int b)), some (.dat (.int e)), o5, o6, o7, some (.dat (.int f)), some (.dat (.int l)), some (.dat (.int w))], by simp [encR], by by_cases h1 : f ≤ b <;> simp [h1], fun _ => by simp⟩
  rw [h]
  unfold cover
  rw [List.map_map]
  rfl
theorem zip_nil (x : D) : zipD [x] [] = [] := rfl
theorem pieces_loop {d : D} {rows : List Row} (hd : ∀ μ, itA (.dat d) μ = some (rows.map encR)) (o1 : Option Val) : ∀ (ms : List Int) (b : Int) (acc : List Piece) (o3 o4 o5 o6 o7 o8 o9 o10 : Option Val), acc.length + ms.length ≤ 1000000 →
    ∃ o3' o4' o5', forL (gT 2 (gsCons (gN 3) (gsCons (gN 4) (gsNil)))) b_pieces_1 (zipD ((b :: ms).map .int) (ms.map .int)) [some (.dat d), o1, some (.loc 0), o3, o4, o5, o6, o7, o8, o9, o10] [.lst (acc.map encP3)] =
      .next [some (.dat d), o1, some (.loc 0), o3', o4', o5', o6, o7, o8, o9, o10] [.lst ((acc ++ pcs rows (b :: ms)).map encP3)]
  | [], b, acc, o3, o4, o5, o6, o7, o8, o9, o10, _ => ⟨o3, o4, o5, by simp [pcs, zip_nil]⟩
  | e :: ms, b, acc, o3, o4, o5, o6, o7, o8, o9, o10, hl => by
    simp only [List.length_cons] at hl
    obtain ⟨p3, p4, p5, q⟩ := pieces_loop hd o1 ms e (if cover rows b e = [] then acc else acc ++ [(b, e, cover rows b e)]) (some (.dat (.int b))) (some (.dat (.int e))) (some (.dat (.lst ((cover rows b e).map .int)))) o6 o7 o8 o9 o10 (by split <;> (try simp only [List.length_append, List.length_singleton]) <;> omega)
    refine ⟨p3, p4, p5, ?_⟩
    have z : zipD ((b :: e :: ms).map .int) ((e :: ms).map .int) = .tup [.int b, .int e] :: zipD ((e :: ms).map .int) (ms.map .int) := rfl
    have cm := fun (o5 : Option Val) => cover_comp hd b e o1 (some (.loc 0)) o5 o6 o7 none none none [.lst (acc.map encP3)]
    have ap : sMetL opAppend (sVar 2) [sTup [sVar 3, sVar 4, sVar 5]] [some (.dat d), o1, some (.loc 0), some (.dat (.int b)), some (.dat (.int e)), some (.dat (.lst ((cover rows b e).map .int))), o6, o7, o8, o9, o10] [.lst (acc.map encP3)] = .ok (.dat .non) [.lst ((acc ++ [(b, e, cover rows b e)]).map encP3)] := by
      rw [sMet_loc (k := 0) (ds := acc.map encP3) (μ1 := [.lst (acc.map encP3)]) (μ2 := [.lst (acc.map encP3)]) (as := [.dat (encP3 (b, e, cover rows b e))]) (by simp) rfl (by simp [encP3]) (append_ok rfl (by rw [sizeLine_eq]; simp; omega))]
      simp
    have st : b_pieces_1 [some (.dat d), o1, some (.loc 0), some (.dat (.int b)), some (.dat (.int e)), o5, o6, o7, o8, o9, o10] [.lst (acc.map encP3)] =
        .next [some (.dat d), o1, some (.loc 0), some (.dat (.int b)), some (.dat (.int e)), some (.dat (.lst ((cover rows b e).map .int))), o6, o7, o8, o9, o10] [.lst ((if cover rows b e = [] then acc else acc ++ [(b, e, cover rows b e)]).map encP3)] := by
      by_cases h : cover rows b e = []
      · rw [h] at cm ap ⊢
        rw [if_pos rfl]
        generalize acc.map encP3 = A at cm ap ⊢
        simp [b_pieces_1, sComp_eq, hd, cm, compO, wipeE]
      · generalize cover rows b e = C at cm ap h ⊢
        rw [if_neg h]
        have ne : (C.map D.int).isEmpty = false := by cases C <;> first | exact absurd rfl h | rfl
        generalize C.map D.int = K at cm ap ne ⊢
        generalize (acc ++ [(b, e, C)]).map encP3 = A2 at ap ⊢
        generalize acc.map encP3 = A at cm ap ⊢
        simp [b_pieces_1, sComp_eq, hd, cm, compO, wipeE, ne, ap]
    rw [z]
    simp only [forL]
    simp [st]
    rw [show pcs rows (b :: e :: ms) = if cover rows b e = [] then pcs rows (e :: ms) else (b, e, cover rows b e) :: pcs rows (e :: ms) from rfl]
    have q' := q
    simp only [List.map_cons] at q'
    rw [q']
    split <;> simp
theorem two_cut (b e w : Int) : cut [D.int b, D.int e, D.int w] none (some 2) = [D.int b, D.int e] := by rw [cut_to (by decide)]; rfl
theorem marks_comp (o0 : Option Val) (μ : Sto) : ∀ rows : List Row, comp2L (gN 6) (sIt (sSl (sVar 6) (none) (some (sC (.int 2))))) (gN 7) (sVar 7) [7] [o0, none, none, none, none, none, none, none, none, none, none] (rows.map encR) μ = .ok ((rows.flatMap fun r => [r.1, r.2.1]).map .int) μ
  | [] => rfl
  | (b, e, w) :: rows => by
    have ih := marks_comp o0 μ rows
    have cm : compL (gN 7) none (sVar 7) [o0, none, none, none, none, none, some (.dat (.tup [.int b, .int e, .int w])), none, none, none, none] [.int b, .int e] μ = .ok [.int b, .int e] μ :=
      compL_map (ds := [.int b, .int e]) id fun d hd => ⟨_, rfl, by simp⟩
    simp only [List.map_cons, List.flatMap_cons]
    generalize rows.map encR = R at ih ⊢
    simp [comp2L, encR, two_cut, wipeE, cm, ih, appO]
theorem marks_small {rows : List Row} (h : rows.length ≤ 2000) : (rows.flatMap fun r => [r.1, r.2.1]).length ≤ 4094 := by
  have : (rows.flatMap fun r => [r.1, r.2.1]).length = 2 * rows.length := by
    clear h
    induction rows with
    | nil => rfl
    | cons r rows ih => simp only [List.flatMap_cons, List.length_append, ih, List.length_cons, List.length_nil]; omega
  omega
def srcK (ds : List D) (μ : Sto) : Out Res := match intsD ds with
  | some ns => if ns.length ≤ 4094 then .ok (.new (.lst ((riseI ns).map .int))) μ else .stuck
  | none => .stuck
def srcO (g : SG) (f1 : SI) (g1 : SG) (e : SE) (us : List Nat) (ρ : Env) : Out (List D) → Out Res
  | .ok ds μ1 => match comp2L g f1 g1 e us ρ ds μ1 with
    | .ok out μ2 => srcK out μ2
    | _ => .stuck
  | .exc x μ1 => .exc x μ1
  | .stuck => .stuck
theorem sSortSc2_eq {f : SI} {g : SG} {f1 : SI} {g1 : SG} {e : SE} {vs us : List Nat} {ρ : Env} {μ : Sto} : sSortSc2 f g f1 g1 e vs us ρ μ = srcO g f1 g1 e us (wipeE ρ vs) (f ρ μ) := by
  unfold sSortSc2 srcO
  cases f ρ μ with
  | ok ds μ1 => simp only; cases comp2L g f1 g1 e us (wipeE ρ vs) ds μ1 <;> rfl
  | _ => rfl
theorem srcO_ok {g : SG} {f1 : SI} {g1 : SG} {e : SE} {us : List Nat} {ρ : Env} {μ μ1 : Sto} {ds : List D} {ns : List Int} (h : comp2L g f1 g1 e us ρ ds μ = .ok (ns.map .int) μ1) (hl : ns.length ≤ 4094) : srcO g f1 g1 e us ρ (.ok ds μ) = .ok (.new (.lst ((riseI ns).map .int))) μ1 := by
  simp only [srcO, h, srcK, intsD_map, if_pos hl]
theorem pieces_ok {d : D} {rows : List Row} (hd : ∀ μ, itA (.dat d) μ = some (rows.map encR)) (hl : rows.length ≤ 2000) : f_pieces [] [d] = .ok (.dat (.lst ((pieces rows).map encP3))) [] := by
  have hs := marks_small hl
  have ln := riseI_len (rows.flatMap fun r => [r.1, r.2.1])
  have mk : srcO (gN 6) (sIt (sSl (sVar 6) (none) (some (sC (.int 2))))) (gN 7) (sVar 7) [7] [some (.dat d), none, none, none, none, none, none, none, none, none, none] (.ok (rows.map encR) []) = .ok (.new (.lst ((marks rows).map .int))) [] := srcO_ok (marks_comp _ [] rows) hs
  have hm : (marks rows).length ≤ 4094 := Nat.le_trans ln hs
  unfold pieces
  generalize marks rows = ms at mk hm ⊢
  cases ms with
  | nil =>
    simp only [List.map_nil] at mk
    have z : zipD ([] : List D) (cut ([] : List D) (some 1) none) = [] := rfl
    simp [f_pieces, g_pieces, fnS_ap, startE_ap, sSortSc2_eq, hd, wipeE, mk, zipL, z, pcs]
  | cons b ms =>
    simp only [List.length_cons] at hm
    obtain ⟨o3, o4, o5, q⟩ := pieces_loop hd (some (.dat (.lst ((b :: ms).map .int)))) ms b [] none none none none none none none none (by simp; omega)
    simp only [List.map_cons, List.map_nil, List.nil_append] at mk q ⊢
    generalize ms.map D.int = M at mk q ⊢
    simp [f_pieces, g_pieces, fnS_ap, startE_ap, sSortSc2_eq, hd, wipeE, mk, zipL, q]
theorem pcs_len (rows : List Row) : ∀ ms : List Int, (pcs rows ms).length ≤ ms.length
  | [] => Nat.le_refl _
  | [_] => Nat.zero_le _
  | b :: e :: ms => by
    have := pcs_len rows (e :: ms)
    show (if cover rows b e = [] then pcs rows (e :: ms) else (b, e, cover rows b e) :: pcs rows (e :: ms)).length ≤ _
    simp only [List.length_cons] at this ⊢
    split
    · omega
    · simp only [List.length_cons]; omega
theorem pieces_len {rows : List Row} (h : rows.length ≤ 2000) : (pieces rows).length ≤ 2 * rows.length := by
  have h1 := pcs_len rows (marks rows)
  have h2 := riseI_len (rows.flatMap fun r => [r.1, r.2.1])
  have h3 : (rows.flatMap fun r => [r.1, r.2.1]).length = 2 * rows.length := by
    clear h h1 h2
    induction rows with
    | nil => rfl
    | cons r rows ih => simp only [List.flatMap_cons, List.length_append, ih, List.length_cons, List.length_nil]; omega
  unfold marks at h1
  unfold pieces marks
  omega
/-! ### summed -/
theorem summed_comp (o0 : Option Val) (ps : List Piece) (μ : Sto) : compL (rowG 1 2 3) none (sTup [sVar 1, sVar 2, sCall opSum [sVar 3]]) [o0, none, none, none] (ps.map encP3) μ = .ok ((ps.map (pRow List.sum)).map encR) μ := by
  rw [List.map_map]
  exact compL_mapE encP3 _ fun ⟨b, e, ws⟩ _ => ⟨[o0, some (.dat (.int b)), some (.dat (.int e)), some (.dat (.lst (ws.map .int)))], by simp [encP3], by simp [encR, pRow]⟩
theorem summed_ok {d : D} {rows : List Row} (hd : ∀ μ, itA (.dat d) μ = some (rows.map encR)) (hl : rows.length ≤ 2000) : f_summed [] [d] = .ok (.dat (.tup ((summed rows).map encR))) [] := by
  have p1 := pieces_ok hd hl
  have p2 := summed_comp (some (.dat d)) (pieces rows) []
  have p3 := joined_ok (d := .lst (((pieces rows).map (pRow List.sum)).map encR)) (rows := (pieces rows).map (pRow List.sum)) (fun _ => rfl) (by have := pieces_len hl; simp; omega)
  unfold summed
  generalize (pieces rows).map encP3 = A at p1 p2
  generalize ((pieces rows).map (pRow List.sum)).map encR = B at p2 p3
  simp [f_summed, g_summed, fnS_ap, startE_ap, sComp_eq, p1, p2, p3, wipeE, compO]
/-! ### checked, plain -/
theorem enc_parts2 (rows : List Row) : D.parts2 (.tup (rows.map encR)) := by
  intro d hd
  obtain ⟨r, _, rfl⟩ := List.mem_map.mp hd
  intro x hx
  simp only [List.mem_cons, List.not_mem_nil, or_false] at hx
  rcases hx with rfl | rfl | rfl <;> rfl
def lineOk (rows : List Row) : Bool := isLine (.tup (rows.map encR))
theorem checked_ok (rows : List Row) : f_checked [] [.tup (rows.map encR)] = if lineOk rows = true then .ok (.dat (.tup (rows.map encR))) [] else .exc ⟨"TooLong", none⟩ [] := by
  have h := is_line_ok (enc_parts2 rows)
  unfold lineOk
  generalize isLine (.tup (rows.map encR)) = b at h ⊢
  generalize rows.map encR = A at h ⊢
  cases b <;> simp [f_checked, g_checked, fnS_ap, startE_ap, h]
theorem plain_ok {d : D} {rows : List Row} (hd : ∀ μ, rdS μ (.dat d) = some (rows.map encR)) (hl : rows.length ≤ 2000) :
    f_plain [] [d] = if lineOk (summed rows) = true then .ok (.dat (.tup ((summed rows).map encR))) [] else .exc ⟨"TooLong", none⟩ [] := by
  have s := summed_ok (d := .lst (rows.map encR)) (rows := rows) (fun _ => rfl) hl
  have c := checked_ok (summed rows)
  have l := list_sq (hd [])
  generalize (summed rows).map encR = A at s c ⊢
  generalize rows.map encR = B at s l
  generalize lineOk (summed rows) = b at c ⊢
  cases b <;> simp [f_plain, g_plain, fnS_ap, startE_ap, l, s, c]
theorem isRow_iff {r : Row} : isRow (encR r) = true ↔ RowOk r ∧ r.2.2 ≤ 1000000000 := by
  obtain ⟨a, b, w⟩ := r
  simp only [encR, isRow, isSpell, isFrom, RowOk, Bool.and_eq_true, decide_eq_true_eq]
  omega
theorem apart_iff {r s : Row} : apart (encR r) (encR s) = true ↔ Link r s := by
  rw [apart_enc]
  unfold Link
  simp only [Bool.and_eq_true, decide_eq_true_eq, Bool.not_eq_true', Bool.and_eq_false_iff, decide_eq_false_iff_not]
  constructor
  · rintro ⟨h1, h2⟩; exact ⟨h1, fun h => h2.elim (fun z => z h.1) fun z => z h.2⟩
  · rintro ⟨h1, h2⟩; refine ⟨h1, ?_⟩
    by_cases e : r.2.1 = s.1
    · exact .inr fun z => h2 ⟨e, z⟩
    · exact .inl e
theorem link_pw : ∀ {rows : List Row}, (∀ r ∈ rows, r.1 < r.2.1) → (apartL (rows.map encR) = true ↔ rows.Pairwise Link)
  | [], _ => by simp [apartL]
  | [r], _ => by simp [apartL]
  | r :: s :: rows, h => by
    have ih := link_pw (rows := s :: rows) fun x hx => h x (List.mem_cons_of_mem _ hx)
    have a : apartL ((r :: s :: rows).map encR) = (apart (encR r) (encR s) && apartL ((s :: rows).map encR)) := rfl
    rw [a, Bool.and_eq_true, ih, apart_iff, List.pairwise_cons (a := r)]
    constructor
    · rintro ⟨h1, h2⟩
      refine ⟨fun x hx => ?_, h2⟩
      rcases List.mem_cons.mp hx with rfl | hx
      · exact h1
      · have h3 := (List.pairwise_cons.mp h2).1 x hx
        have h4 := h s (by simp)
        obtain ⟨h5, _⟩ := h1
        obtain ⟨h6, _⟩ := h3
        exact ⟨by omega, fun z => by omega⟩
    · rintro ⟨h1, h2⟩
      exact ⟨h1 s List.mem_cons_self, h2⟩
theorem lineOk_iff {rows : List Row} : lineOk rows = true ↔ rows.length ≤ 60 ∧ (∀ r ∈ rows, RowOk r ∧ r.2.2 ≤ 1000000000) ∧ Canon rows := by
  have e : lineOk rows = (decide ((rows.map encR).length ≤ 60) && ((rows.map encR).all isRow && apartL (rows.map encR))) := rfl
  have al : (rows.map encR).all isRow = true ↔ ∀ r ∈ rows, RowOk r ∧ r.2.2 ≤ 1000000000 := by
    rw [List.all_map, List.all_eq_true]
    exact forall_congr' fun r => imp_congr_right fun _ => isRow_iff
  rw [e, Bool.and_eq_true, Bool.and_eq_true, decide_eq_true_eq, al, List.length_map]
  constructor
  · rintro ⟨h1, h2, h3⟩
    have ne : ∀ r ∈ rows, r.1 < r.2.1 := fun r hr => (h2 r hr).1.2.1
    exact ⟨h1, h2, (link_pw ne).mp h3, ne⟩
  · rintro ⟨h1, h2, h3⟩
    exact ⟨h1, h2, (link_pw h3.ne).mpr h3.pw⟩
/-! ### counts -/
theorem months_in_ok {d : D} {rows : List Row} (hd : ∀ μ, itA (.dat d) μ = some (rows.map encR)) : f_months_in [] [d] = .ok (.dat (.int (monthsIn rows))) [] := by
  have c : compL (rowG 1 2 3) none (sBin opSub (sVar 2) (sVar 1)) [some (.dat d), none, none, none] (rows.map encR) [] = .ok ((rows.map fun r => r.2.1 - r.1).map .int) [] := by
    rw [List.map_map]
    exact compL_mapE encR _ fun ⟨b, e, ws⟩ _ => ⟨[some (.dat d), some (.dat (.int b)), some (.dat (.int e)), some (.dat (.int ws))], by simp [encR], by simp⟩
  unfold monthsIn
  generalize (rows.map fun r => r.2.1 - r.1) = L at c ⊢
  generalize rows.map encR = A at c hd
  simp [f_months_in, g_months_in, fnS_ap, startE_ap, sComp_eq, hd, c, wipeE, compO]
theorem worth_of_ok {d : D} {rows : List Row} (hd : ∀ μ, itA (.dat d) μ = some (rows.map encR)) (hb : ∀ r ∈ rows, RowOk r ∧ r.2.2 < 10 ^ 20) : f_worth_of [] [d] = .ok (.dat (.int (worthOf rows))) [] := by
  have c : compL (rowG 1 2 3) none (sBin opMul (sBin opSub (sVar 2) (sVar 1)) (sVar 3)) [some (.dat d), none, none, none] (rows.map encR) [] = .ok ((rows.map fun r => (r.2.1 - r.1) * r.2.2).map .int) [] := by
    rw [List.map_map]
    refine compL_mapE encR _ fun ⟨b, e, w⟩ hr => ⟨[some (.dat d), some (.dat (.int b)), some (.dat (.int e)), some (.dat (.int w))], by simp [encR], ?_⟩
    obtain ⟨⟨h1, h2, h3, h4⟩, h5⟩ := hb _ hr
    simp only at h1 h2 h3 h4 h5
    have m : opMul [] (.dat (.int (e - b))) (.dat (.int w)) = some (.dat (.int ((e - b) * w))) := mul_small ⟨by omega, by omega⟩ ⟨by omega, by omega⟩
    simp [m]
  unfold worthOf
  generalize (rows.map fun r => (r.2.1 - r.1) * r.2.2) = L at c ⊢
  generalize rows.map encR = A at c hd
  simp [f_worth_of, g_worth_of, fnS_ap, startE_ap, sComp_eq, hd, c, wipeE, compO]
/-! ### rows compared -/
def pyR (r : Row) : PyData := .tuple [.int r.1, .int r.2.1, .int r.2.2]
theorem py_encR {n : Nat} (r : Row) : D.py (n + 2) (encR r) = some (pyR r) := by
  cases n <;> rfl
theorem py_rowsE {n : Nat} (rows : List Row) : (rows.map encR).mapM (D.py (n + 2)) = some (rows.map pyR) := by
  induction rows with
  | nil => rfl
  | cons r rows ih =>
    rw [List.map_cons, List.mapM_cons, ih, py_encR]
    rfl
theorem eqv_pyR (r s : Row) : PyData.eqv (pyR r) (pyR s) = decide (r = s) := by
  obtain ⟨a, b, c⟩ := r
  obtain ⟨d, e, f⟩ := s
  simp only [pyR, PyData.eqv, PyData.eqvAll, Prod.mk.injEq, Bool.decide_and, Bool.and_true]
  rfl
theorem eqv_rows : ∀ (rows rows' : List Row), PyData.eqvAll (rows.map pyR) (rows'.map pyR) = decide (rows = rows')
  | [], [] => by simp [PyData.eqvAll]
  | [], _ :: _ => by simp [PyData.eqvAll]
  | _ :: _, [] => by simp [PyData.eqvAll]
  | r :: rows, s :: rows' => by
    simp only [List.map_cons, PyData.eqvAll, eqv_pyR, eqv_rows rows rows', List.cons.injEq, Bool.decide_and]
section
variable {μ : Sto} {rows rows' : List Row}
theorem ne_tups : opNe μ (.dat (.tup (rows.map encR))) (.dat (.tup (rows'.map encR))) = some (.dat (.bl (!decide (rows = rows')))) := by
  rw [ne_data (p := .tuple (rows.map pyR)) (q := .tuple (rows'.map pyR)) (by simp [D.py, py_rowsE (n := 27)]) (by simp [D.py, py_rowsE (n := 27)]) (by intros; contradiction)]
  simp only [PyData.eqv, eqv_rows]
theorem ne_lsts : opNe μ (.dat (.lst (rows.map encR))) (.dat (.lst (rows'.map encR))) = some (.dat (.bl (!decide (rows = rows')))) := by
  rw [ne_data (p := .list (rows.map pyR)) (q := .list (rows'.map pyR)) (by simp [D.py, py_rowsE (n := 27)]) (by simp [D.py, py_rowsE (n := 27)]) (by intros; contradiction)]
  simp only [PyData.eqv, eqv_rows]
end
/-! ### what sums of rows are -/
theorem sum_has {rows : List Row} {m w : Int} (h : sumO (worthsAt rows m) = some w) : (∃ q ∈ rows, q.1 ≤ m ∧ m < q.2.1) ∧ w = (worthsAt rows m).sum := by
  cases e : worthsAt rows m with
  | nil => rw [e] at h; cases h
  | cons x xs =>
    have hm : x ∈ worthsAt rows m := by rw [e]; exact List.mem_cons_self
    obtain ⟨q, hq, rfl⟩ := List.mem_map.mp hm
    obtain ⟨h1, h2⟩ := List.mem_filter.mp hq
    simp only [has, Bool.and_eq_true, decide_eq_true_eq] at h2
    rw [e, sumO_some (by simp)] at h
    exact ⟨⟨q, h1, h2⟩, (Option.some.inj h).symm⟩
theorem worths_sum {rows : List Row} {M : Int} (h : ∀ r ∈ rows, 0 ≤ r.2.2 ∧ r.2.2 ≤ M) (m : Int) : 0 ≤ (worthsAt rows m).sum ∧ (worthsAt rows m).sum ≤ rows.length * M := by
  induction rows with
  | nil => simp [worthsAt]
  | cons r rows ih =>
    obtain ⟨h1, h2⟩ := ih fun x hx => h x (List.mem_cons_of_mem _ hx)
    obtain ⟨h3, h4⟩ := h r List.mem_cons_self
    have e : worthsAt (r :: rows) m = (if has m r = true then [r.2.2] else []) ++ worthsAt rows m := by
      unfold worthsAt
      rw [List.filter_cons]
      split <;> simp
    have z : ((rows.length + 1 : Nat) : Int) * M = rows.length * M + M := by rw [Int.natCast_add, Int.add_mul]; simp
    rw [e, List.sum_append, List.length_cons, z]
    split <;> simp <;> omega
theorem summed_rows {rows : List Row} {M N : Int} (h : ∀ r ∈ rows, RowOk r ∧ r.2.2 ≤ M) (hN : rows.length * M ≤ N) : ∀ r ∈ summed rows, RowOk r ∧ r.2.2 ≤ N := by
  intro r hr
  have c := summed_canon rows
  have ne := c.ne r hr
  have l1 := summed_look rows r.1
  rw [look_mem c.flat hr (Int.le_refl _) ne] at l1
  have l2 := summed_look rows (r.2.1 - 1)
  rw [look_mem c.flat hr (by omega) (by omega)] at l2
  obtain ⟨⟨q, hq, q1, q2⟩, e1⟩ := sum_has l1.symm
  obtain ⟨⟨p, hp, p1, p2⟩, e2⟩ := sum_has l2.symm
  obtain ⟨⟨a1, a2, a3, a4⟩, _⟩ := h q hq
  obtain ⟨⟨b1, b2, b3, b4⟩, _⟩ := h p hp
  obtain ⟨s1, s2⟩ := worths_sum (fun x hx => ⟨(h x hx).1.2.2.2, (h x hx).2⟩) r.1
  exact ⟨⟨by omega, ne, by omega, by omega⟩, by omega⟩
theorem summed_len {rows : List Row} (h : rows.length ≤ 2000) : (summed rows).length ≤ 2 * rows.length := by
  have h1 := joined_len ((pieces rows).map (pRow List.sum))
  have h2 := pieces_len h
  unfold summed
  simp only [List.length_map] at h1
  omega
theorem summed_lineOk {rows : List Row} {M : Int} (h : ∀ r ∈ rows, RowOk r ∧ r.2.2 ≤ M) (hM : rows.length * M ≤ 1000000000) (hl : rows.length ≤ 30) : lineOk (summed rows) = true :=
  lineOk_iff.mpr ⟨by have := summed_len (rows := rows) (by omega); omega, summed_rows h hM, summed_canon rows⟩
end Sx

/-! SxParts: parts of lines, what is left, dicts by comprehensions. -/
namespace Sx
open PySem L2
/-! ### new steps by simp -/
section
variable {ρ : Env} {μ : Sto} {x : Exn} {m : Str → Option Bool} {i n : Nat} {g h : SS} {f : SE} {v a : Val} {ds es : List D}
def augR (ρ : Env) (i : Nat) : Option (Val × Sto) → SOut
  | some (w, μ2) => .next (ρ.set i (some w)) μ2
  | none => .stuck
@[simp] theorem augR_some {w : Val} : augR ρ i (some (w, μ)) = .next (ρ.set i (some w)) μ := nr rfl
def augK (o : AOp) (ρ : Env) (i : Nat) (v a : Val) (μ : Sto) : SOut := augR ρ i (o μ v a)
@[simp] theorem augK_ap {o : AOp} : augK o ρ i v a μ = augR ρ i (o μ v a) := nr rfl
def augV (o : AOp) (f : SE) (ρ : Env) (μ : Sto) (i : Nat) : Option Val → SOut
  | some v => eS (f ρ μ) ρ (augK o ρ i v)
  | none => .stuck
@[simp] theorem augV_some {o : AOp} : augV o f ρ μ i (some v) = eS (f ρ μ) ρ (augK o ρ i v) := nr rfl
theorem sAug_eq {o : AOp} : sAug o i f ρ μ = augV o f ρ μ i (gv ρ i) := by
  unfold sAug augV
  rfl
@[simp] theorem sAug_ap {o : AOp} : sAug o i f ρ μ = augV o f ρ μ i (gv ρ i) := sAug_eq
theorem aug_loc {k : Nat} (h : μ[k]? = some (.lst ds)) (hl : ds.length + es.length ≤ sizeLine) : augAdd μ (.loc k) (.dat (.lst es)) = some (.loc k, μ.set k (.lst (ds ++ es))) := by
  simp [augAdd, augI, augL, h, hl]
@[simp] theorem aug_ii {i j : Int} : augAdd μ (.dat (.int i)) (.dat (.int j)) = some (.dat (.int (i + j)), μ) := nr rfl
@[simp] theorem augS_ii {i j : Int} : augSub μ (.dat (.int i)) (.dat (.int j)) = some (.dat (.int (i - j)), μ) := nr rfl
@[simp] theorem calmS_next : calmS (.next ρ μ) = .next ρ μ := nr rfl
@[simp] theorem calmS_ret {r : Res} : calmS (.ret r μ) = .ret r μ := nr rfl
def clK (h : SS) (_ : Exn) (ρ : Env) (μ : Sto) : SOut := calmS (h ρ μ)
@[simp] theorem clK_ap : clK h x ρ μ = calmS (h ρ μ) := nr rfl
theorem sTry_eq : sTry m g h ρ μ = onExc m (clK h) (g ρ μ) := nr rfl
@[simp] theorem sTry_ap : sTry m g h ρ μ = onExc m (clK h) (g ρ μ) := sTry_eq
@[simp] theorem calmE_ok' {r : Res} : calmE (.ok r μ) = .ok r μ := nr rfl
def lkO (F : SE) (ρ : Env) (μ : Sto) : Option (List (Key × D)) → Out Res
  | some _ => calmE (F ρ μ)
  | none => .stuck
@[simp] theorem lkO_some {F : SE} {kvs : List (Key × D)} : lkO F ρ μ (some kvs) = calmE (F ρ μ) := nr rfl
theorem sLk_eq {F : SE} : sLk i F ρ μ = lkO F ρ μ (dicAt ρ i) := by unfold sLk lkO; rfl
@[simp] theorem sLk_ap {F : SE} : sLk i F ρ μ = lkO F ρ μ (dicAt ρ i) := sLk_eq
def dicO : Option Val → Option (List (Key × D))
  | some (.dat (.dic kvs)) => some kvs
  | _ => none
@[simp] theorem dicO_some {kvs : List (Key × D)} : dicO (some (.dat (.dic kvs))) = some kvs := nr rfl
@[simp] theorem dicAt_ap : dicAt ρ i = dicO (gv ρ i) := by unfold dicAt dicO; rfl
def keysO (μ : Sto) : Option (List (Key × D)) → Out (List D)
  | some kvs => .ok (kvs.map fun p => kD p.1) μ
  | none => .stuck
@[simp] theorem keysO_some {kvs : List (Key × D)} : keysO μ (some kvs) = .ok (kvs.map fun p => kD p.1) μ := nr rfl
theorem sItK_eq : sItK i ρ μ = keysO μ (dicAt ρ i) := by
  unfold sItK itO keysO
  cases dicAt ρ i <;> rfl
@[simp] theorem sItK_ap : sItK i ρ μ = keysO μ (dicAt ρ i) := sItK_eq
end
/-- a list cell is handed in as data, the answer has tuples alone -/
theorem callF_lent {F : FD} {μ : Sto} {k : Nat} {ds : List D} {d : D} (h : μ[k]? = some (.lst ds)) (e : F [] [.lst ds] = .ok (.dat d) []) (t : d.tupO = true) : callF [false] F [.loc k] μ = .ok (.dat d) μ := by
  simp [callF, splitA, toD, h, lentK, cellsOf, Cell.frz, e, Res.noLoc, Res.tupO, t, putC]
theorem tupO_rows (rows : List Row) : D.tupO (.tup (rows.map encR)) = true := by
  have h : ∀ rows : List Row, D.tupOL (rows.map encR) = true := by
    intro rows
    induction rows with
    | nil => rfl
    | cons r rows ih =>
      rw [List.map_cons]
      simp only [D.tupOL, ih, Bool.and_true]
      rfl
  simp only [D.tupO, h]
/-! ### left_of -/
theorem two_comp (b e f l w : Int) (o0 o3 : Option Val) (μ : Sto) :
    compL (gN 7) (some (sBin opLt (sBin opIx (sVar 7) (sC (.int 0))) (sBin opIx (sVar 7) (sC (.int 1))))) (sVar 7) [o0, some (.dat (.int b)), some (.dat (.int e)), o3, some (.dat (.int f)), some (.dat (.int l)), some (.dat (.int w)), none]
      [.tup [.int f, .int (min l b), .int w], .tup [.int (max f e), .int l, .int w]] μ = .ok ((two b e (f, l, w)).map encR) μ :=
  compL_filterE (g := gN 7) (xs := [(f, min l b, w), (max f e, l, w)]) encR encR nonE fun r hr => ⟨[o0, some (.dat (.int b)), some (.dat (.int e)), o3, some (.dat (.int f)), some (.dat (.int l)), some (.dat (.int w)), some (.dat (encR r))], rfl, by simp [encR, nonE], fun _ => by simp⟩
theorem left_loop (x : Option Val) (b e : Int) : ∀ (rows acc : List Row) (o4 o5 o6 o7 : Option Val), acc.length + 2 * rows.length ≤ 1000000 →
    ∃ o4' o5' o6' o7', forL (rowG 4 5 6) b_left_of_1 (rows.map encR) [x, some (.dat (.int b)), some (.dat (.int e)), some (.loc 0), o4, o5, o6, o7] [.lst (acc.map encR)] =
      .next [x, some (.dat (.int b)), some (.dat (.int e)), some (.loc 0), o4', o5', o6', o7'] [.lst ((acc ++ leftRows rows b e).map encR)]
  | [], acc, o4, o5, o6, o7, _ => ⟨o4, o5, o6, o7, by simp [leftRows]⟩
  | (f, l, w) :: rows, acc, o4, o5, o6, o7, hl => by
    simp only [List.length_cons] at hl
    have tl : (two b e (f, l, w)).length ≤ 2 := List.length_filter_le _ _
    obtain ⟨a, c, d, k, q⟩ := left_loop x b e rows (acc ++ two b e (f, l, w)) (some (.dat (.int f))) (some (.dat (.int l))) (some (.dat (.int w))) o7 (by rw [List.length_append]; omega)
    refine ⟨a, c, d, k, ?_⟩
    have cm := two_comp b e f l w x (some (.loc 0)) [.lst (acc.map encR)]
    have ag := aug_loc (μ := [.lst (acc.map encR)]) (k := 0) (ds := acc.map encR) (es := (two b e (f, l, w)).map encR) rfl (by rw [sizeLine_eq]; simp; omega)
    have st : b_left_of_1 [x, some (.dat (.int b)), some (.dat (.int e)), some (.loc 0), some (.dat (.int f)), some (.dat (.int l)), some (.dat (.int w)), o7] [.lst (acc.map encR)] =
        .next [x, some (.dat (.int b)), some (.dat (.int e)), some (.loc 0), some (.dat (.int f)), some (.dat (.int l)), some (.dat (.int w)), o7] [.lst ((acc ++ two b e (f, l, w)).map encR)] := by
      rw [List.map_append]
      generalize (two b e (f, l, w)).map encR = T at cm ag ⊢
      generalize acc.map encR = A at cm ag ⊢
      simp [b_left_of_1, cm, ag]
    have lr : acc ++ leftRows ((f, l, w) :: rows) b e = (acc ++ two b e (f, l, w)) ++ leftRows rows b e := by simp [leftRows]
    rw [lr, ← q]
    generalize (acc ++ two b e (f, l, w)).map encR = A2 at st ⊢
    generalize acc.map encR = A at st ⊢
    simp only [List.map_cons]
    generalize rows.map encR = R
    simp [forL, encR, st]
theorem leftRows_len (rows : List Row) (b e : Int) : (leftRows rows b e).length ≤ 2 * rows.length := by
  induction rows with
  | nil => simp [leftRows]
  | cons r rows ih =>
    have tl : (two b e r).length ≤ 2 := List.length_filter_le _ _
    have : leftRows (r :: rows) b e = two b e r ++ leftRows rows b e := by simp [leftRows]
    rw [this, List.length_append, List.length_cons]
    omega
theorem left_of_ok {d : D} {rows : List Row} (hd : ∀ μ, itA (.dat d) μ = some (rows.map encR)) (b e : Int) (hl : rows.length ≤ 400000) : f_left_of [] [d, .int b, .int e] = .ok (.dat (.tup ((leftOf rows b e).map encR))) [] := by
  obtain ⟨a, c, k, n, q⟩ := left_loop (some (.dat d)) b e rows [] none none none none (by simp; omega)
  have j := joined_ok (d := .lst ((leftRows rows b e).map encR)) (rows := leftRows rows b e) (fun _ => rfl) (by have := leftRows_len rows b e; omega)
  simp only [List.map_nil, List.nil_append] at q
  have tj := tupO_rows (joined (leftRows rows b e))
  unfold leftOf
  generalize (joined (leftRows rows b e)).map encR = J at j tj ⊢
  generalize (leftRows rows b e).map encR = L at j q
  generalize rows.map encR = R at hd q
  have cf : callF [false] f_joined [.loc 0] [.lst L] = .ok (.dat (.tup J)) [.lst L] := callF_lent rfl j tj
  simp [f_left_of, g_left_of, fnS_ap, startE_ap, hd, q, cf]
theorem without_ok {d : D} {rows : List Row} (hd : ∀ μ, itA (.dat d) μ = some (rows.map encR)) (b e : Int) (hl : rows.length ≤ 400000) :
    f_without [] [d, .int b, .int e] = if lineOk (leftOf rows b e) = true then .ok (.dat (.tup ((leftOf rows b e).map encR))) [] else .exc ⟨"TooLong", none⟩ [] := by
  have l := left_of_ok hd b e hl
  have c := checked_ok (leftOf rows b e)
  generalize (leftOf rows b e).map encR = A at l c ⊢
  generalize lineOk (leftOf rows b e) = t at c ⊢
  cases t <;> simp [f_without, g_without, fnS_ap, startE_ap, l, c]
/-! ### part -/
theorem part_ok {d : D} {rows : List Row} (hd : ∀ μ, itA (.dat d) μ = some (rows.map encR)) (b e : Int) : f_part [] [d, .int b, .int e] = .ok (.dat (.tup ((partL rows b e).map encR))) [] := by
  have c1 : compL (rowG 4 5 6) none (sTup [sCall opMax2 [sVar 1, sVar 4], sCall opMin2 [sVar 2, sVar 5], sVar 6]) [some (.dat d), some (.dat (.int b)), some (.dat (.int e)), none, none, none, none, none] (rows.map encR) [] = .ok ((rows.map (clip b e)).map encR) [] := by
    rw [List.map_map]
    exact compL_mapE encR _ fun ⟨f, l, w⟩ hr => ⟨[some (.dat d), some (.dat (.int b)), some (.dat (.int e)), none, some (.dat (.int f)), some (.dat (.int l)), some (.dat (.int w)), none], by simp [encR], by simp [encR, clip]⟩
  have c2 : ∀ o3, compL (gN 7) (some (sBin opLt (sBin opIx (sVar 7) (sC (.int 0))) (sBin opIx (sVar 7) (sC (.int 1))))) (sVar 7) [some (.dat d), some (.dat (.int b)), some (.dat (.int e)), o3, none, none, none, none] ((rows.map (clip b e)).map encR) [] = .ok ((partL rows b e).map encR) [] := fun o3 =>
    compL_filterE (g := gN 7) encR encR nonE fun r hr => ⟨[some (.dat d), some (.dat (.int b)), some (.dat (.int e)), o3, none, none, none, some (.dat (encR r))], rfl, by simp [encR, nonE], fun _ => by simp⟩
  generalize (partL rows b e).map encR = P at c2 ⊢
  generalize (rows.map (clip b e)).map encR = C at c1 c2
  generalize rows.map encR = R at hd c1
  simp [f_part, g_part, fnS_ap, startE_ap, hd, c1, c2]
/-! ### dict of pairs -/
theorem pairsD_enc (kv : Wm) : pairsD (kv.map fun p => .tup [.int p.1, .int p.2]) = some (encM kv) := by
  induction kv with
  | nil => rfl
  | cons p kv ih =>
    simp only [List.map_cons, pairsD, keyD, ih]
    rfl
theorem dPut_new {τ : Type} {kv : List (Int × τ)} {k : Int} {v : τ} (h : k ∉ kv.map (·.1)) : dPut kv k v = kv ++ [(k, v)] := by
  unfold dPut
  rw [if_neg]
  intro z
  obtain ⟨p, hp, e⟩ := List.any_eq_true.mp z
  exact h (List.mem_map.mpr ⟨p, hp, of_decide_eq_true e⟩)
theorem merge_uniq (kv : Wm) : ∀ (acc : Wm), Uniq (acc ++ kv) → kv.foldl (fun a p => dPut a p.1 p.2) acc = acc ++ kv := by
  induction kv with
  | nil => intro acc _; simp
  | cons p kv ih =>
    intro acc h
    have h' : Uniq ((acc ++ [p]) ++ kv) := by simpa using h
    have hn : p.1 ∉ acc.map (·.1) := by
      unfold Uniq at h
      rw [List.map_append, List.nodup_append] at h
      exact fun z => h.2.2 p.1 z p.1 (by simp) rfl
    rw [List.foldl_cons, dPut_new hn, ih _ h']
    simp
theorem mergeD_enc (kv : Wm) (h : Uniq kv) : mergeD (encM kv) = encM kv := by
  have z : ∀ (kv acc : Wm), (encM kv).foldl (fun a p => dPut a p.1 p.2) (encM acc) = encM (kv.foldl (fun a p => dPut a p.1 p.2) acc) := by
    intro kv
    induction kv with
    | nil => intro acc; rfl
    | cons p kv ih =>
      intro acc
      have := ih (dPut acc p.1 p.2)
      rw [← encM_put] at this
      exact this
  have w := merge_uniq kv [] (by simpa using h)
  unfold mergeD
  have := z kv []
  rw [w] at this
  simpa using this
theorem dict_pairs {μ : Sto} (kv : Wm) (h : Uniq kv) : opDictL μ [.dat (.lst (kv.map fun p => .tup [.int p.1, .int p.2]))] = some (.new (.dic (encM kv))) := by
  simp [opDictL, c1, pairsD_enc, mergeD_enc kv h]
theorem uniq_filter {τ : Type} {kv : List (Int × τ)} (h : Uniq kv) (p : Int × τ → Bool) : Uniq (kv.filter p) := h.sublist ((List.filter_sublist).map _)
theorem dGet_filter {kv : Wm} (h : Uniq kv) (p : Int → Bool) (m : Int) : dGet (kv.filter fun q => p q.1) m = if p m = true then dGet kv m else none := by
  induction kv with
  | nil => simp [dGet]
  | cons q kv ih =>
    have hu : Uniq kv := (List.nodup_cons.mp h).2
    have ih := ih hu
    rw [List.filter_cons]
    by_cases e : q.1 = m
    · subst e
      have g1 : dGet (q :: kv) q.1 = some q.2 := by simp [dGet]
      cases hp : p q.1 with
      | true => rw [if_pos rfl, if_pos rfl, g1]; simp [dGet]
      | false =>
        rw [if_neg (by simp), if_neg (by simp)]
        rw [hp, if_neg (by simp)] at ih
        exact ih
    · have g1 : dGet (q :: kv) m = dGet kv m := by simp [dGet, e]
      rw [g1]
      split
      · have g2 : dGet (q :: kv.filter fun q => p q.1) m = dGet (kv.filter fun q => p q.1) m := by simp [dGet, e]
        rw [g2, ih]
      · exact ih
/-! ### bounds of lines by what they tell -/
theorem canon_bounds {l k : List Row} {M : Int} (hl : Canon l) (hk : ∀ q ∈ k, 0 ≤ q.1 ∧ q.2.1 ≤ 2400 ∧ 0 ≤ q.2.2 ∧ q.2.2 ≤ M) (e : ∀ m, look l m = look k m) : ∀ r ∈ l, RowOk r ∧ r.2.2 ≤ M := by
  intro r hr
  have ne := hl.ne r hr
  have l1 := look_mem hl.flat hr (Int.le_refl _) ne
  have l2 := look_mem hl.flat hr (m := r.2.1 - 1) (by omega) (by omega)
  rw [e] at l1 l2
  obtain ⟨q, hq, q1, q2, q3⟩ := look_some l1
  obtain ⟨p, hp, p1, p2, p3⟩ := look_some l2
  obtain ⟨a1, a2, a3, a4⟩ := hk q hq
  obtain ⟨b1, b2, b3, b4⟩ := hk p hp
  exact ⟨⟨by omega, ne, by omega, by omega⟩, by omega⟩
theorem leftOf_bounds {rows : List Row} {M b e : Int} (h : Flat rows) (hb : ∀ r ∈ rows, RowOk r ∧ r.2.2 ≤ M) (he : b ≤ e) : ∀ r ∈ leftOf rows b e, RowOk r ∧ r.2.2 ≤ M := by
  refine canon_bounds (k := leftRows rows b e) (leftOf_canon h he) (fun q hq => ?_) fun m => joined_look (left_flat h he) m
  obtain ⟨r, hr, hq⟩ := List.mem_flatMap.mp hq
  have w : q.2.2 = r.2.2 := by
    unfold two at hq
    obtain ⟨h1, _⟩ := List.mem_filter.mp hq
    simp only [List.mem_cons, List.not_mem_nil, or_false] at h1
    rcases h1 with rfl | rfl <;> rfl
  obtain ⟨t1, t2, t3⟩ := two_mem hq
  obtain ⟨⟨a1, a2, a3, a4⟩, a5⟩ := hb r hr
  exact ⟨by omega, by omega, by omega, by omega⟩
theorem leftOf_len (rows : List Row) (b e : Int) : (leftOf rows b e).length ≤ 2 * rows.length := Nat.le_trans (joined_len _) (leftRows_len rows b e)
theorem leftOf_lineOk {rows : List Row} {b e : Int} (h : Flat rows) (hb : ∀ r ∈ rows, RowOk r ∧ r.2.2 ≤ 1000000000) (he : b ≤ e) (hl : rows.length ≤ 30) : lineOk (leftOf rows b e) = true :=
  lineOk_iff.mpr ⟨by have := leftOf_len rows b e; omega, leftOf_bounds h hb he, leftOf_canon h he⟩
/-! ### marks -/
def marksL (rows : List Row) : List Int := rows.flatMap fun r => [r.1 - 1, r.2.1 - 1, r.1, r.2.1, r.1 + 1, r.2.1 + 1]
theorem marks_step (r : Row) (x o2' o3' o4 : Option Val) (acc : List Int) (o5 : Option Val) (hl : acc.length < 1000000) : ∃ o5',
    b__law_marks_1 [x, some (.dat (.lst (acc.map .int))), some (.dat (.int r.1)), some (.dat (.int r.2.1)), o4, o5] [] =
      .next [x, some (.dat (.lst ((acc ++ [r.1 - 1, r.2.1 - 1, r.1, r.2.1, r.1 + 1, r.2.1 + 1]).map .int))), some (.dat (.int r.1)), some (.dat (.int r.2.1)), o4, o5'] [] := by
  refine ⟨some (.dat (.int 1)), ?_⟩
  have ad : ∀ (as bs : List D), as.length + bs.length ≤ 2000000 → opAdd ([] : Sto) (.dat (.lst as)) (.dat (.lst bs)) = some (.new (.lst (as ++ bs))) := fun as bs h => add_ll (by rw [sizeLine_eq]; omega)
  have m1 : (-1 : Int) = -1 := rfl
  have la : (acc.map D.int).length < 1000000 := by simpa using hl
  rw [List.map_append]
  generalize acc.map D.int = A at la ⊢
  obtain ⟨b, e, w⟩ := r
  simp only
  have a1 := ad A [.int (b + -1), .int (e + -1)] (by simp; omega)
  have a2 := ad (A ++ [.int (b + -1), .int (e + -1)]) [.int (b + 0), .int (e + 0)] (by simp; omega)
  have a3 := ad (A ++ [.int (b + -1), .int (e + -1)] ++ [.int (b + 0), .int (e + 0)]) [.int (b + 1), .int (e + 1)] (by simp; omega)
  simp only [List.append_assoc, List.cons_append, List.nil_append, Int.add_zero] at a1 a2 a3
  simp [b__law_marks_1, forL, b__law_marks_2, a1, a2, a3]
  constructor <;> rfl
theorem marks_loop (x : Option Val) : ∀ (rows : List Row) (acc : List Int) (o2 o3 o4 o5 : Option Val), acc.length + 6 * rows.length < 1000000 →
    ∃ o2' o3' o4' o5', forL (rowG 2 3 4) b__law_marks_1 (rows.map encR) [x, some (.dat (.lst (acc.map .int))), o2, o3, o4, o5] [] = .next [x, some (.dat (.lst ((acc ++ marksL rows).map .int))), o2', o3', o4', o5'] []
  | [], acc, o2, o3, o4, o5, _ => ⟨o2, o3, o4, o5, by simp [marksL]⟩
  | r :: rows, acc, o2, o3, o4, o5, hl => by
    simp only [List.length_cons] at hl
    obtain ⟨q5, st⟩ := marks_step r x none none (some (.dat (.int r.2.2))) acc o5 (by omega)
    obtain ⟨p2, p3, p4, p5, q⟩ := marks_loop x rows (acc ++ [r.1 - 1, r.2.1 - 1, r.1, r.2.1, r.1 + 1, r.2.1 + 1]) (some (.dat (.int r.1))) (some (.dat (.int r.2.1))) (some (.dat (.int r.2.2))) q5 (by simp; omega)
    refine ⟨p2, p3, p4, p5, ?_⟩
    have e : acc ++ marksL (r :: rows) = (acc ++ [r.1 - 1, r.2.1 - 1, r.1, r.2.1, r.1 + 1, r.2.1 + 1]) ++ marksL rows := by simp [marksL]
    rw [e, ← q]
    generalize (acc ++ [r.1 - 1, r.2.1 - 1, r.1, r.2.1, r.1 + 1, r.2.1 + 1]).map D.int = A2 at st ⊢
    generalize acc.map D.int = A at st ⊢
    simp only [List.map_cons]
    generalize rows.map encR = R
    simp [forL, encR, st]
theorem marks_ok {d : D} {rows : List Row} (hd : ∀ μ, itA (.dat d) μ = some (rows.map encR)) (hl : rows.length ≤ 1000) : f__law_marks [] [d] = .ok (.dat (.lst ((marksL rows).map .int))) [] := by
  obtain ⟨a, b, c, e, q⟩ := marks_loop (some (.dat d)) rows [] none none none none (by simp; omega)
  simp only [List.map_nil, List.nil_append] at q
  generalize (marksL rows).map D.int = M at q ⊢
  simp [f__law_marks, g__law_marks, fnS_ap, startE_ap, hd, q]
theorem marksL_len (rows : List Row) : (marksL rows).length = 6 * rows.length := by
  induction rows with
  | nil => rfl
  | cons r rows ih =>
    have e : marksL (r :: rows) = [r.1 - 1, r.2.1 - 1, r.1, r.2.1, r.1 + 1, r.2.1 + 1] ++ marksL rows := rfl
    rw [e, List.length_append, ih]
    simp; omega
end Sx

/-! SxHalf: sorted rows, halved lines. -/
namespace Sx
open PySem L2
open PySem.W (dataLe dataLt alike alikeAll)
/-! ### sorted rows -/
theorem pyO_row (r : Row) : pyO (encR r) = pyR r := by
  unfold pyO
  rw [show (29 : Nat) = 27 + 2 from rfl, py_encR]
  rfl
theorem leD_row (r s : Row) : leD (encR r) (encR s) = leR r s := by
  have e : leD (encR r) (encR s) = !dataLt (pyO (encR s)) (pyO (encR r)) := rfl
  rw [e, pyO_row, pyO_row]
  obtain ⟨a, b, c⟩ := r
  obtain ⟨d, f, g⟩ := s
  have l : dataLt (pyR (d, f, g)) (pyR (a, b, c)) = decide ([d, f, g] < [a, b, c]) := by
    unfold pyR
    rw [PySem.W.dataLt_tuple]
    exact PySem.W.dataLt_ints [d, f, g] [a, b, c]
  rw [l]
  have k : ([d, f, g] < [a, b, c]) ↔ ¬ (leR (a, b, c) (d, f, g) = true) := by
    rw [leR_iff, List.cons_lt_cons_iff, List.cons_lt_cons_iff, List.cons_lt_cons_iff]
    simp only [List.not_lt_nil, and_false, or_false]
    omega
  cases h : leR (a, b, c) (d, f, g) with
  | true => rw [h] at k; simp only [not_true_eq_false, iff_false] at k; simp [k]
  | false => rw [h] at k; simp only [Bool.false_eq_true, not_false_eq_true, iff_true] at k; simp [k]
theorem sort_rows (rows : List Row) : (rows.map encR).mergeSort leD = (srtR rows).map encR := by
  have h : (rows.mergeSort leR).map encR = (rows.map encR).mergeSort leD := List.map_mergeSort fun a _ b _ => (leD_row a b).symm
  rw [← h]
  congr 1
  exact srtB_uniq leR_as ((List.mergeSort_perm rows leR).trans (srtB_perm rows).symm) (List.pairwise_mergeSort (le := leR) (fun a b c => leR_tr a b c) (fun a b => by have := leR_tot a b; cases h : leR a b <;> simp_all) rows) (srtB_sorted leR_tot leR_tr rows)
theorem alike_row (r s : Row) : alike (pyR r) (pyR s) = true := by
  simp [pyR, alike, alikeAll]
theorem sortD_rows {μ : Sto} (rows : List Row) : opSortD μ [.dat (.lst (rows.map encR))] = some (.new (.lst ((srtR rows).map encR))) := by
  have ok : sortOk (rows.map pyR) = true := by
    unfold sortOk
    rw [Bool.and_eq_true, Bool.or_eq_true]
    refine ⟨List.all_eq_true.mpr fun d hd => List.all_eq_true.mpr fun e he => ?_, .inl (List.all_eq_true.mpr fun d hd => ?_)⟩
    · obtain ⟨r, _, rfl⟩ := List.mem_map.mp hd
      obtain ⟨s, _, rfl⟩ := List.mem_map.mp he
      exact alike_row r s
    · obtain ⟨r, _, rfl⟩ := List.mem_map.mp hd
      rfl
  have py := py_rowsE (n := 27) rows
  simp only [opSortD, c1, rdL_lst, py, ok, if_true, sort_rows]
/-! ### halved -/
def upL (ps : List Piece) : List Row := ps.map (pRow up)
def dnL (ps : List Piece) : List Row := ps.map (pRow dn)
theorem up_comp (o0 o1 o2 o3 o4 o5 o6 o7 : Option Val) (ps : List Piece) (μ : Sto) :
    compL (rowG 8 9 10) none (sTup [sVar 8, sVar 9, sBin opDiv (sBin opAdd (sCall opSum [sVar 10]) (sC (.int 1))) (sC (.int 2))]) [o0, o1, o2, o3, o4, o5, o6, o7, none, none, none, none, none] (ps.map encP3) μ = .ok ((upL ps).map encR) μ := by
  unfold upL
  rw [List.map_map]
  exact compL_mapE encP3 _ fun ⟨b, e, ws⟩ _ => ⟨[o0, o1, o2, o3, o4, o5, o6, o7, some (.dat (.int b)), some (.dat (.int e)), some (.dat (.lst (ws.map .int))), none, none], by simp [encP3], by simp [encR, pRow, up]⟩
theorem dn_comp (o0 o1 o2 o3 o4 o5 o6 o7 : Option Val) (ps : List Piece) (μ : Sto) :
    compL (rowG 8 9 10) none (sTup [sVar 8, sVar 9, sBin opDiv (sCall opSum [sVar 10]) (sC (.int 2))]) [o0, o1, o2, o3, o4, o5, o6, o7, none, none, none, none, none] (ps.map encP3) μ = .ok ((dnL ps).map encR) μ := by
  unfold dnL
  rw [List.map_map]
  exact compL_mapE encP3 _ fun ⟨b, e, ws⟩ _ => ⟨[o0, o1, o2, o3, o4, o5, o6, o7, some (.dat (.int b)), some (.dat (.int e)), some (.dat (.lst (ws.map .int))), none, none], by simp [encP3], by simp [encR, pRow, dn]⟩
theorem halves_comp (one other first second : List Row) (b e : Int) (h1 : one.length ≤ 100000) (h2 : other.length ≤ 100000) (h3 : first.length ≤ 100000) (h4 : second.length ≤ 100000) (o4 o5 o6 o7 : Option Val) (μ : Sto) :
    compL (gT 2 (gsCons (gN 11) (gsCons (gN 12) (gsNil)))) none (sCallF [false] f_joined [sCall opSortD [sBin opAdd (sCall opList [sCallF [false, false, false] f_left_of [sVar 11, sVar 2, sVar 3]]) (sVar 12)]])
      [some (.dat (.tup (one.map encR))), some (.dat (.tup (other.map encR))), some (.dat (.int b)), some (.dat (.int e)), o4, o5, o6, o7, none, none, none, none, none] [.tup [.tup (one.map encR), .lst (first.map encR)], .tup [.tup (other.map encR), .lst (second.map encR)]] μ =
      .ok [.tup ((joined (srtR (leftOf one b e ++ first))).map encR), .tup ((joined (srtR (leftOf other b e ++ second))).map encR)] μ := by
  have h := compL_mapE (g := gT 2 (gsCons (gN 11) (gsCons (gN 12) (gsNil)))) (μ := μ) (e := sCallF [false] f_joined [sCall opSortD [sBin opAdd (sCall opList [sCallF [false, false, false] f_left_of [sVar 11, sVar 2, sVar 3]]) (sVar 12)]])
    (ρ := [some (.dat (.tup (one.map encR))), some (.dat (.tup (other.map encR))), some (.dat (.int b)), some (.dat (.int e)), o4, o5, o6, o7, none, none, none, none, none])
    (fun p : List Row × List Row => D.tup [.tup (p.1.map encR), .lst (p.2.map encR)]) (fun p => D.tup ((joined (srtR (leftOf p.1 b e ++ p.2))).map encR)) (xs := [(one, first), (other, second)]) fun p hp => by
      obtain ⟨l, rs⟩ := p
      have hl : l.length ≤ 100000 ∧ rs.length ≤ 100000 := by
        simp only [List.mem_cons, List.not_mem_nil, or_false, Prod.mk.injEq] at hp
        rcases hp with ⟨rfl, rfl⟩ | ⟨rfl, rfl⟩ <;> constructor <;> assumption
      refine ⟨[some (.dat (.tup (one.map encR))), some (.dat (.tup (other.map encR))), some (.dat (.int b)), some (.dat (.int e)), o4, o5, o6, o7, none, none, none, some (.dat (.tup (l.map encR))), some (.dat (.lst (rs.map encR)))], by simp, ?_⟩
      have lo := left_of_ok (d := .tup (l.map encR)) (rows := l) (fun _ => rfl) b e (by omega)
      have ll := leftOf_len l b e
      have so := sortD_rows (μ := μ) (leftOf l b e ++ rs)
      have sl : (srtR (leftOf l b e ++ rs)).length = (leftOf l b e ++ rs).length := (srtB_perm _).length_eq
      have jo := joined_ok (d := .lst ((srtR (leftOf l b e ++ rs)).map encR)) (rows := srtR (leftOf l b e ++ rs)) (fun _ => rfl) (by rw [sl, List.length_append]; omega)
      have la : ((leftOf l b e).map encR).length + (rs.map encR).length ≤ sizeLine := by rw [sizeLine_eq]; simp; omega
      have ad := add_ll (μ := μ) la
      rw [List.map_append] at so
      generalize (joined (srtR (leftOf l b e ++ rs))).map encR = J at jo ⊢
      generalize (srtR (leftOf l b e ++ rs)).map encR = S at so jo
      generalize (leftOf l b e).map encR = L at lo so ad
      generalize rs.map encR = R at so ad ⊢
      generalize l.map encR = A at lo ⊢
      generalize one.map encR = A1
      generalize other.map encR = A2
      simp [lo, ad, so, jo]
  simpa using h
theorem partL_len (l : List Row) (b e : Int) : (partL l b e).length ≤ l.length := by
  have := List.length_filter_le nonE (l.map (clip b e))
  unfold partL
  simpa using this
theorem halved_ok {one other : List Row} (h1 : one.length ≤ 500) (h2 : other.length ≤ 500) (b e : Int) (k1 : lineOk (halfOf up one one other b e) = true) (k2 : lineOk (halfOf dn other one other b e) = true) :
    f_halved [] [.tup (one.map encR), .tup (other.map encR), .int b, .int e] = .ok (.dat (.tup [.tup ((halfOf up one one other b e).map encR), .tup ((halfOf dn other one other b e).map encR)])) [] := by
  have p1 := part_ok (d := .tup (one.map encR)) (rows := one) (fun _ => rfl) b e
  have p2 := part_ok (d := .tup (other.map encR)) (rows := other) (fun _ => rfl) b e
  have l1 := partL_len one b e
  have l2 := partL_len other b e
  have lp : (partL one b e ++ partL other b e).length ≤ 1000 := by rw [List.length_append]; omega
  have pc := pieces_ok (d := .lst ((partL one b e ++ partL other b e).map encR)) (rows := partL one b e ++ partL other b e) (fun _ => rfl) (by omega)
  have pl := pieces_len (rows := partL one b e ++ partL other b e) (by omega)
  have bo : pieces (partL one b e ++ partL other b e) = both one other b e := rfl
  rw [bo] at pc pl
  have u := fun o5 o6 o7 => up_comp (some (.dat (.tup (one.map encR)))) (some (.dat (.tup (other.map encR)))) (some (.dat (.int b))) (some (.dat (.int e))) (some (.dat (.lst ((both one other b e).map encP3)))) o5 o6 o7 (both one other b e) []
  have d := fun o5 o6 o7 => dn_comp (some (.dat (.tup (one.map encR)))) (some (.dat (.tup (other.map encR)))) (some (.dat (.int b))) (some (.dat (.int e))) (some (.dat (.lst ((both one other b e).map encP3)))) o5 o6 o7 (both one other b e) []
  have hc := fun o4 o5 o6 o7 => halves_comp one other (upL (both one other b e)) (dnL (both one other b e)) b e (by omega) (by omega) (by simp [upL]; omega) (by simp [dnL]; omega) o4 o5 o6 o7 []
  have e1 : joined (srtR (leftOf one b e ++ upL (both one other b e))) = halfOf up one one other b e := rfl
  have e2 : joined (srtR (leftOf other b e ++ dnL (both one other b e))) = halfOf dn other one other b e := rfl
  rw [e1, e2] at hc
  have c1 := checked_ok (halfOf up one one other b e)
  have c2 := checked_ok (halfOf dn other one other b e)
  rw [if_pos k1] at c1
  rw [if_pos k2] at c2
  have ad : opAdd ([] : Sto) (.dat (.lst ((partL one b e).map encR))) (.dat (.lst ((partL other b e).map encR))) = some (.new (.lst ((partL one b e ++ partL other b e).map encR))) := by
    rw [add_ll (by rw [sizeLine_eq]; simp; omega), List.map_append]
  generalize (halfOf up one one other b e).map encR = H1 at *
  generalize (halfOf dn other one other b e).map encR = H2 at *
  generalize (upL (both one other b e)).map encR = U at *
  generalize (dnL (both one other b e)).map encR = N at *
  generalize (both one other b e).map encP3 = P at *
  generalize (partL one b e ++ partL other b e).map encR = PA at *
  generalize (partL one b e).map encR = P1 at *
  generalize (partL other b e).map encR = P2 at *
  generalize one.map encR = A at *
  generalize other.map encR = B at *
  have ix1 : opIx ([] : Sto) (.dat (.lst [.tup H1, .tup H2])) (.dat (.int 1)) = some (.dat (.tup H2)) := ix_sq rfl atI_1
  simp [f_halved, g_halved, fnS_ap, startE_ap, p1, p2, ad, pc, u, d, hc, c1, c2, ix1]
end Sx

/-! SxDeal: dealt, as plain mathematics. -/
namespace Sx
open PySem L2
open PySem.W (dataLe dataLt alike alikeAll)
/-- the places by their rests -/
def leK (rs : List Int) (i j : Nat) : Bool := decide (0 - at0 rs i < 0 - at0 rs j ∨ (0 - at0 rs i = 0 - at0 rs j ∧ (i : Int) ≤ (j : Int)))
def ordP (rs : List Int) : List Nat := (List.range rs.length).mergeSort (leK rs)
theorem ordP_ok (rs : List Int) : Order rs (ordP rs) := by
  have p : (ordP rs).Perm (List.range rs.length) := List.mergeSort_perm _ _
  have s : (ordP rs).Pairwise fun i j => leK rs i j = true := List.pairwise_mergeSort (le := leK rs) (fun a b c h1 h2 => by simp only [leK, decide_eq_true_eq] at *; omega) (fun a b => by simp only [leK, Bool.or_eq_true, decide_eq_true_eq]; omega) _
  have nd : (ordP rs).Nodup := p.nodup_iff.mpr List.nodup_range
  refine ⟨p, (s.and nd).imp fun {i j} h => ?_⟩
  obtain ⟨h1, h2⟩ := h
  simp only [leK, decide_eq_true_eq] at h1
  unfold Fore
  omega
def keyE (rs : List Int) (i : Nat) : D := .tup [.int (0 - at0 rs i), .int i]
def keyP (rs : List Int) (i : Nat) : PyData := .tuple [.int (0 - at0 rs i), .int i]
theorem py_keys (rs : List Int) (l : List Nat) : (l.map (keyE rs)).mapM (D.py 29) = some (l.map (keyP rs)) := by
  induction l with
  | nil => rfl
  | cons i l ih => rw [List.map_cons, List.mapM_cons, ih]; rfl
theorem keys_ok (rs : List Int) (l : List Nat) : sortOk (l.map (keyP rs)) = true := by
  unfold sortOk
  rw [Bool.and_eq_true, Bool.or_eq_true]
  refine ⟨List.all_eq_true.mpr fun d hd => List.all_eq_true.mpr fun e he => ?_, .inl (List.all_eq_true.mpr fun d hd => ?_)⟩
  · obtain ⟨r, _, rfl⟩ := List.mem_map.mp hd
    obtain ⟨s, _, rfl⟩ := List.mem_map.mp he
    simp [keyP, alike, alikeAll]
  · obtain ⟨r, _, rfl⟩ := List.mem_map.mp hd
    rfl
theorem by_keys (rs : List Int) (l : List Nat) : byKeysD (l.map fun (i : Nat) => D.int (i : Int)) (l.map (keyP rs)) = (l.mergeSort (leK rs)).map fun (i : Nat) => D.int (i : Int) := by
  unfold byKeysD
  have z : (l.map fun (i : Nat) => D.int (i : Int)).zip (l.map (keyP rs)) = l.map fun (i : Nat) => (D.int (i : Int), keyP rs i) := by rw [List.zip_map']
  have e : dataLe false (keyP rs) = leK rs := by
    have h := PySem.W.dataLe_ii (fun i : Nat => 0 - at0 rs i) (fun i : Nat => (i : Int))
    unfold keyP
    rw [h]
    rfl
  have m : (l.map fun (i : Nat) => (D.int (i : Int), keyP rs i)).mergeSort (dataLe false Prod.snd) = (l.mergeSort (leK rs)).map fun (i : Nat) => (D.int (i : Int), keyP rs i) := (List.map_mergeSort (r := leK rs) (s := dataLe false Prod.snd) (f := fun (i : Nat) => (D.int (i : Int), keyP rs i)) (l := l) fun a _ b _ => by rw [← e]; rfl).symm
  rw [z, m, List.map_map]
  rfl
abbrev lamG : SE := sTup [sBin opSub (sC (.int 0)) (sBin opMod (sBin opMul (sVar 2) (sBin opIx (sVar 3) (sVar 0))) (sVar 1)), sVar 0]
theorem keys_run (a : Int) (ws : List Int) (ha : 0 ≤ a ∧ a < 10 ^ 30) (hw : ∀ w ∈ ws, 0 ≤ w ∧ w < 10 ^ 30) (he : 0 < ws.sum) (μ : Sto) : ∀ l : List Nat, (∀ i ∈ l, i < ws.length) →
    keysD lamG [some (.dat (.int ws.sum)), some (.dat (.int a)), some (.dat (.lst (ws.map .int)))] (l.map fun (i : Nat) => D.int (i : Int)) μ = .ok (l.map (keyE (rst a ws.sum ws))) μ
  | [], _ => rfl
  | i :: l, hl => by
    have ih := keys_run a ws ha hw he μ l fun j hj => hl j (List.mem_cons_of_mem _ hj)
    have hi := hl i List.mem_cons_self
    have wi := hw _ (at0_mem hi)
    have ix : opIx μ (.dat (.lst (ws.map .int))) (.dat (.int (i : Int))) = some (.dat (.int (at0 ws i))) := ix_sq rfl (by
      rw [atI_nat (by simpa using hi)]
      simp [at0, List.getD_eq_getElem?_getD, hi])
    have mu : opMul μ (.dat (.int a)) (.dat (.int (at0 ws i))) = some (.dat (.int (a * at0 ws i))) := mul_small ⟨by omega, by omega⟩ ⟨by omega, by omega⟩
    have md : opMod μ (.dat (.int (a * at0 ws i))) (.dat (.int ws.sum)) = some (.dat (.int (a * at0 ws i % ws.sum))) := mod_ii he
    have e : at0 (rst a ws.sum ws) i = a * at0 ws i % ws.sum := by unfold rst; exact at0_map hi
    generalize hW : ws.map D.int = W at ix ih
    simp only [List.map_cons, keysD]
    simp [ix, mu, md, ih, keyE, e, consO]
end Sx

/-! SxDealR: dealt, run. -/
namespace Sx
open PySem L2
def sortR (js : List Nat) (g : SE) (ρ : Env) (v : Val) (μ : Sto) : Out Res := match rdL μ v with
  | some ds => match keysD g (js.map (gv ρ)) ds μ with
    | .ok ks μ2 => match ks.mapM (D.py 29) with
      | some ps => if sortOk ps = true then .ok (.new (.lst (byKeysD ds ps))) μ2 else .stuck
      | none => .stuck
    | _ => .stuck
  | none => .stuck
theorem sSortKey_eq {f g : SE} {js : List Nat} {ρ : Env} {μ : Sto} : sSortKey f js g ρ μ = opd (f ρ μ) (sortR js g ρ) := nr rfl
theorem sortR_ok {js : List Nat} {g : SE} {ρ : Env} {v : Val} {μ : Sto} {ds ks : List D} {ps : List PyData} (h : rdL μ v = some ds) (hk : keysD g (js.map (gv ρ)) ds μ = .ok ks μ) (hp : ks.mapM (D.py 29) = some ps) (hs : sortOk ps = true) : sortR js g ρ v μ = .ok (.new (.lst (byKeysD ds ps))) μ := by
  simp only [sortR, h, hk, hp, hs, if_pos]
def listRgR (v : Val) (μ : Sto) : Out Res := match rng1 v with
  | some ds => .ok (.new (.lst ds)) μ
  | none => .stuck
theorem lr_some {v : Val} {μ : Sto} {ds : List D} (h : rng1 v = some ds) : listRgR v μ = .ok (.new (.lst ds)) μ := by
  unfold listRgR
  rw [h]
theorem rng_list (n : Nat) : rngD 0 n = (List.range n).map fun (i : Nat) => D.int (i : Int) := by unfold rngD; simp
theorem rng1_n (n : Nat) (h : (n : Int) ≤ 1000) : rng1 (.dat (.int (n : Int))) = some (rngD 0 n) := by
  have r : rng1 (.dat (.int (n : Int))) = some (rngD 0 ((n : Int)).toNat) := rng1_ok (by omega) (by omega)
  rw [Int.toNat_natCast] at r
  exact r
theorem sListRg_eq {f : SE} {ρ : Env} {μ : Sto} : sListRg f ρ μ = opd (f ρ μ) listRgR := nr rfl
theorem ixN_nat {n i : Nat} (h : i < n) : ixN n (i : Int) = some i := by
  unfold ixN
  rw [if_pos (by omega), if_pos (by omega)]
  simp
/-- one bump -/
theorem bump_step {a w e o : Option Val} {o6 : Option Val} {i : Nat} {xs : List Int} (hi : i < xs.length) (hx : (xs.length : Int) ≤ 1000) :
    b_dealt_1 [a, w, e, some (.loc 0), o, some (.dat (.int (i : Int))), o6] [.lst (xs.map .int)] = .next [a, w, e, some (.loc 0), o, some (.dat (.int (i : Int))), o6] [.lst ((bump xs i).map .int)] := by
  have a : (xs.map D.int)[i]? = some (.int (at0 xs i)) := by simp [at0, List.getD_eq_getElem?_getD, hi]
  have lt : (0 : Int) ≤ (i : Int) ∧ (i : Int) < 2 ^ 62 := by omega
  have s : setC [.lst (xs.map .int)] 0 (.dat (.int (i : Int))) (.int (at0 xs i + 1)) = some [.lst ((bump xs i).map .int)] := by
    simp [setC, ixN_nat, bump, hi, List.map_set]
  generalize hW : xs.map D.int = W at a s ⊢
  generalize (bump xs i).map D.int = W' at s ⊢
  unfold b_dealt_1 sAugI
  simp [a, s]
  omega
theorem forL_step {g : SG} {b : SS} {d : D} {ds : List D} {ρ ρ1 ρ2 : Env} {μ μ2 : Sto} (hg : g (.dat d) ρ = some ρ1) (hb : b ρ1 μ = .next ρ2 μ2) : forL g b (d :: ds) ρ μ = forL g b ds ρ2 μ2 := by
  simp only [forL, hg, hb]
theorem bump_loop {a w e o : Option Val} {o6 : Option Val} (is : List Nat) : ∀ (o5 : Option Val) (xs : List Int), (∀ i ∈ is, i < xs.length) → (xs.length : Int) ≤ 1000 →
    ∃ o5', forL (gN 5) b_dealt_1 (is.map fun (i : Nat) => D.int (i : Int)) [a, w, e, some (.loc 0), o, o5, o6] [.lst (xs.map .int)] = .next [a, w, e, some (.loc 0), o, o5', o6] [.lst ((is.foldl bump xs).map .int)] := by
  induction is with
  | nil => intro o5 xs _ _; exact ⟨o5, rfl⟩
  | cons i is ih =>
    intro o5 xs h hx
    obtain ⟨o5', q⟩ := ih (some (.dat (.int (i : Int)))) (bump xs i) (fun j hj => by rw [bump_len]; exact h j (List.mem_cons_of_mem _ hj)) (by rw [bump_len]; exact hx)
    refine ⟨o5', ?_⟩
    have b := bump_step (a := a) (w := w) (e := e) (o := o) (o6 := o6) (h i List.mem_cons_self) hx
    have g : gN 5 (.dat (.int (i : Int))) [a, w, e, some (.loc 0), o, o5, o6] = some [a, w, e, some (.loc 0), o, some (.dat (.int (i : Int))), o6] := rfl
    exact (forL_step g b).trans q
/-- dealt -/
theorem quo_comp (a e : Int) (ws : List Int) (ha : 0 ≤ a ∧ a < 10 ^ 30) (hw : ∀ w ∈ ws, 0 ≤ w ∧ w < 10 ^ 30) (he : 0 < e ∧ e < big) (d : Option Val) (μ : Sto) : compL (gN 6) none (sBin opDiv (sBin opMul (sVar 0) (sVar 6)) (sVar 2)) [some (.dat (.int a)), d, some (.dat (.int e)), none, none, none, none] (ws.map .int) μ = .ok ((quo a e ws).map .int) μ := by
  unfold quo
  rw [List.map_map]
  exact compL_mapE D.int _ fun w hm => ⟨[some (.dat (.int a)), d, some (.dat (.int e)), none, none, none, some (.dat (.int w))], rfl, by
    have mu : opMul μ (.dat (.int a)) (.dat (.int w)) = some (.dat (.int (a * w))) := mul_small ⟨by omega, by omega⟩ ⟨by have := hw w hm; omega, by have := hw w hm; omega⟩
    simp [mu, he.1, he.2]⟩
theorem dealt_ok (a : Int) (ws : List Int) (ha : 0 ≤ a ∧ a < 10 ^ 30) (hw : ∀ w ∈ ws, 0 ≤ w ∧ w < 10 ^ 30) (he : 0 < ws.sum ∧ ws.sum < big) (hl : (ws.length : Int) ≤ 1000) :
    f_dealt [] [.int a, .lst (ws.map .int)] = .ok (.new (.lst ((dealtP a ws (ordP (rst a ws.sum ws))).map .int))) [] := by
  have lb := left_bnd (a := a) he.1
  have lq : (quo a ws.sum ws).length = ws.length := by simp [quo]
  have lr : (rst a ws.sum ws).length = ws.length := by simp [rst]
  have kr := keys_run a ws ha hw he.1 [.lst ((quo a ws.sum ws).map .int)] (List.range ws.length) fun i hi => List.mem_range.mp hi
  have bk := by_keys (rst a ws.sum ws) (List.range ws.length)
  have qc := quo_comp a ws.sum ws ha hw he (some (.dat (.lst (ws.map .int)))) []
  have ne : ws.sum ≠ 0 := by omega
  have sr : sortR [2, 0, 1] lamG [some (.dat (.int a)), some (.dat (.lst (ws.map .int))), some (.dat (.int ws.sum)), some (.loc 0), none, none, none] (.dat (.lst ((List.range ws.length).map fun (i : Nat) => D.int (i : Int)))) [.lst ((quo a ws.sum ws).map .int)] = .ok (.new (.lst ((ordP (rst a ws.sum ws)).map fun (i : Nat) => D.int (i : Int)))) [.lst ((quo a ws.sum ws).map .int)] := by
    rw [sortR_ok rfl kr (py_keys _ _) (keys_ok _ _), bk]
    unfold ordP
    rw [lr]
  have rg : listRgR (.dat (.int (ws.length : Int))) [.lst ((quo a ws.sum ws).map .int)] = .ok (.new (.lst ((List.range ws.length).map fun (i : Nat) => D.int (i : Int)))) [.lst ((quo a ws.sum ws).map .int)] := lr_some ((rng1_n ws.length hl).trans (by rw [rng_list]))
  have ct : cut ((ordP (rst a ws.sum ws)).map fun (i : Nat) => D.int (i : Int)) none (some (a - (quo a ws.sum ws).sum)) = ((ordP (rst a ws.sum ws)).take (a - (quo a ws.sum ws).sum).toNat).map fun (i : Nat) => D.int (i : Int) := by
    rw [cut_to lb.1, List.map_take]
  obtain ⟨o5, bl⟩ := bump_loop (a := some (.dat (.int a))) (w := some (.dat (.lst (ws.map .int)))) (e := some (.dat (.int ws.sum))) (o := some (.dat (.lst ((ordP (rst a ws.sum ws)).map fun (i : Nat) => D.int (i : Int))))) (o6 := none) ((ordP (rst a ws.sum ws)).take (a - (quo a ws.sum ws).sum).toNat) none (quo a ws.sum ws) (fun i hi => by have := order_in (ordP_ok _) (List.mem_of_mem_take hi); omega) (by omega)
  have sm : ∀ μ : Sto, opSum (.lst ((quo a ws.sum ws).map .int) :: μ) [.loc 0] = some (.dat (.int (quo a ws.sum ws).sum)) := fun μ => by simp [opSum, c1, intsD_map]
  have s1 : ∀ μ : Sto, opSum μ [.dat (.lst (ws.map .int))] = some (.dat (.int ws.sum)) := fun μ => sum_ints
  have l1 : ∀ μ : Sto, opLen μ [.dat (.lst (ws.map .int))] = some (.dat (.int (ws.length : Int))) := fun μ => by simp
  unfold dealtP
  generalize (((ordP (rst a ws.sum ws)).take (a - (quo a ws.sum ws).sum).toNat).foldl bump (quo a ws.sum ws)).map D.int = R at bl ⊢
  generalize ((ordP (rst a ws.sum ws)).take (a - (quo a ws.sum ws).sum).toNat).map (fun (i : Nat) => D.int (i : Int)) = T at bl ct
  generalize (ordP (rst a ws.sum ws)).map (fun (i : Nat) => D.int (i : Int)) = O at bl ct sr
  generalize (List.range ws.length).map (fun (i : Nat) => D.int (i : Int)) = N at sr rg
  generalize (quo a ws.sum ws).map D.int = Q at *
  generalize ws.map D.int = W at *
  simp only [lamG] at sr
  simp [f_dealt, g_dealt, fnS_ap, startE_ap, s1, ne, qc, sSortKey_eq, sListRg_eq, l1, rg, sr, sm, ct, bl]
end Sx

/-! PlK05: the plain law k05. -/
namespace Sx
open PySem L2
/-- a loop of numbers whose turns keep a shape of the names -/
theorem loop_any {i : Nat} {b : SS} (P : Env → Prop) (N : Int) (step : ∀ (k : Int) (ρ : Env) (μ : Sto), 0 ≤ k → k < N → P ρ → ∃ ρ' μ', b (ρ.set i (some (.dat (.int k)))) μ = .next ρ' μ' ∧ P ρ') :
    ∀ (m : Nat) (lo : Int) (ρ : Env) (μ : Sto), 0 ≤ lo → lo + m ≤ N → P ρ → ∃ ρ' μ', forL (gN i) b (rngD lo m) ρ μ = .next ρ' μ' ∧ P ρ'
  | 0, lo, ρ, μ, _, _, p => ⟨ρ, μ, rfl, p⟩
  | m + 1, lo, ρ, μ, h0, h1, p => by
    obtain ⟨ρ1, μ1, e1, p1⟩ := step lo ρ μ h0 (by omega) p
    obtain ⟨ρ2, μ2, e2, p2⟩ := loop_any P N step m (lo + 1) ρ1 μ1 (by omega) (by omega) p1
    refine ⟨ρ2, μ2, ?_, p2⟩
    rw [rngD_succ]
    simp only [forL, gN_ap, e1]
    exact e2
theorem dealt_none (a : Int) (ws : List Int) (h : ws.sum = 0) : f_dealt [] [.int a, .lst (ws.map .int)] = .exc ⟨"NoWeights", none⟩ [] := by
  have s1 : ∀ μ : Sto, opSum μ [.dat (.lst (ws.map .int))] = some (.dat (.int ws.sum)) := fun μ => sum_ints
  rw [h] at s1
  generalize ws.map D.int = W at *
  simp [f_dealt, g_dealt, fnS_ap, startE_ap, s1]
theorem refused3_ok (ws : List Int) (h : ws.sum = 0) : f__law_refused_v3 [] [.lst (ws.map .int)] = .ok (.dat (.bl true)) [] := by
  have p := dealt_none 5 ws h
  have hit : ∀ (h : Exn → Env → Sto → SOut) (ρ : Env), onExc (mC [("NoWeights", true)]) h (.exc ⟨"NoWeights", none⟩ ρ []) = h ⟨"NoWeights", none⟩ ρ [] := fun h ρ => onExc_hit (by rfl)
  have is : ∀ (ρ : Env), ρ.length = 3 → isIn (mC [("NoWeights", true)]) 2 1 ⟨"NoWeights", none⟩ ρ [] = .next ((ρ.set 1 (some (.dat (.bl true)))).set 2 none) [] := fun ρ h => by
    have e : mC [("NoWeights", true)] ("NoWeights" : Str) = some true := rfl
    simp [isIn, e, h]
  generalize ws.map D.int = W at *
  simp [f__law_refused_v3, g__law_refused_v3, fnS_ap, startE_ap, p, hit, is]
/-! ### the law's way -/
theorem maxI_maxL : ∀ {xs : List Int}, 0 < xs.length → maxI xs = maxL xs := fun {xs} h => by
  have h1 := maxI_mem xs h
  have h2 := maxL_mem (xs := xs) (by intro z; subst z; simp at h)
  have := maxI_ge xs _ h2
  have := maxL_ge h1
  omega
theorem idx_find {xs : List Int} {v : Int} (h : v ∈ xs) : xs.findIdx? (fun x => decide (x = v)) = some (idx xs v) ∧ idx xs v < xs.length := by
  have l : idx xs v < xs.length := List.findIdx_lt_length_of_exists ⟨v, h, by simp⟩
  refine ⟨?_, l⟩
  rw [List.findIdx?_eq_some_iff_getElem]
  refine ⟨l, List.findIdx_getElem (p := fun x => decide (x = v)) (w := l), fun j hj => ?_⟩
  simpa using List.not_of_lt_findIdx hj
theorem deal_turn {a w e : Option Val} {o6 o7 : Option Val} {n : Nat} {fs rs : List Int} (hn : (n : Int) < 1000) (hl : fs.length = rs.length) (h0 : 0 < rs.length) (hx : rs.length ≤ 1000) :
    ∃ o6', b__law_dealt_1 [a, w, e, some (.loc 0), some (.loc 1), some (.dat (.int ((n + 1 : Nat) : Int))), o6, o7] [.lst (fs.map .int), .lst (rs.map .int)] =
      .next [a, w, e, some (.loc 0), some (.loc 1), some (.dat (.int (n : Int))), o6', o7] [.lst ((dealStep (fs, rs)).1.map .int), .lst ((dealStep (fs, rs)).2.map .int)] := by
  have mm := maxL_mem (xs := rs) (by intro z; subst z; simp at h0)
  obtain ⟨fi, li⟩ := idx_find mm
  have mx : ∀ x, opMaxL [x, .lst (rs.map .int)] [.loc 1] = some (.dat (.int (maxL rs))) := fun x => by
    simp only [opMaxL, c1, rdL_locs, rdL_loc0, intsD_map, maxI_maxL h0]
    exact gd_ok h0
  have ix : ∀ x : Cell, opIndexI [x, .lst (rs.map .int)] 1 [.dat (.int (maxL rs))] = some (.dat (.int (idx rs (maxL rs) : Nat)), [x, .lst (rs.map .int)]) := fun x => by
    simp [opIndexI, intsD_map, fi]
  have m : ∀ (x : Cell) (ρ : Env), gv ρ 4 = some (.loc 1) → sMetL opIndexI (sVar 4) [sCall opMaxL [sVar 4]] ρ [x, .lst (rs.map .int)] = .ok (.dat (.int (idx rs (maxL rs) : Nat))) [x, .lst (rs.map .int)] := fun x ρ hg => by
    have mx := mx x
    have ix := ix x
    generalize rs.map D.int = R at *
    exact sMet_loc (k := 1) (ds := R) (μ1 := [x, .lst R]) (μ2 := [x, .lst R]) (as := [.dat (.int (maxL rs))]) (by simp [hg]) rfl (by simp [hg, mx]) ix
  refine ⟨some (.dat (.int (idx rs (maxL rs) : Nat))), ?_⟩
  have g1 : (fs.map D.int)[idx rs (maxL rs)]? = some (.int (at0 fs (idx rs (maxL rs)))) := by
    simp [at0, List.getD_eq_getElem?_getD, show idx rs (maxL rs) < fs.length by omega]
  have rd : ∀ x : Cell, opIx [.lst (fs.map .int), x] (.loc 0) (.dat (.int (idx rs (maxL rs) : Nat))) = some (.dat (.int (at0 fs (idx rs (maxL rs))))) := fun x => ix_sq rfl (by
    rw [atI_nat (by simp; omega)]
    simp [at0, List.getD_eq_getElem?_getD, show idx rs (maxL rs) < fs.length by omega])
  have s1 : setC [.lst (fs.map .int), .lst (rs.map .int)] 0 (.dat (.int (idx rs (maxL rs) : Nat))) (.int (at0 fs (idx rs (maxL rs)) + 1)) = some [.lst ((dealStep (fs, rs)).1.map .int), .lst (rs.map .int)] := by
    simp [setC, ixN_nat, show idx rs (maxL rs) < fs.length by omega, dealStep, bump, List.map_set]
  have s2 : ∀ x : Cell, setC [x, .lst (rs.map .int)] 1 (.dat (.int (idx rs (maxL rs) : Nat))) (.int (-1)) = some [x, .lst ((dealStep (fs, rs)).2.map .int)] := fun x => by
    simp [setC, ixN_nat, li, dealStep, List.map_set]
  have m := m (.lst (fs.map .int)) [a, w, e, some (.loc 0), some (.loc 1), some (.dat (.int ((n + 1 : Nat) : Int))), o6, o7] rfl
  have rd := rd (.lst (rs.map .int))
  generalize fs.map D.int = F at *
  generalize rs.map D.int = R at *
  generalize ((dealStep (fs, rs)).1.map D.int) = F' at *
  generalize ((dealStep (fs, rs)).2.map D.int) = R' at *
  generalize idx rs (maxL rs) = j at *
  have n1 : ((n + 1 : Nat) : Int) - 1 = n := by omega
  simp only [b__law_dealt_1, sSeq_ap, sSet_ap, m, eS_ok, val_dat, setK_ap, List.set_cons_succ, List.set_cons_zero, sqO_next]
  simp [rd, s1, s2]
theorem whL_t {c : SE} {b : SS} {m : Nat} {ρ ρ2 : Env} {μ μ1 μ2 : Sto} (h : c ρ μ = .ok (.dat (.bl true)) μ1) (h2 : b ρ μ1 = .next ρ2 μ2) : whL c b (m + 1) ρ μ = whL c b m ρ2 μ2 := by
  simp only [whL, h, eS_ok, val_dat, onS, h2]
theorem whL_f {c : SE} {b : SS} {m : Nat} {ρ : Env} {μ μ1 : Sto} (h : c ρ μ = .ok (.dat (.bl false)) μ1) : whL c b (m + 1) ρ μ = .next ρ μ1 := by
  simp only [whL, h, eS_ok, val_dat, onS]
theorem deal_cond {a w e o3 o4 : Option Val} {o6 o7 : Option Val} {i : Int} {μ : Sto} : sBin opGt (sVar 5) (sC (.int 0)) [a, w, e, o3, o4, some (.dat (.int i)), o6, o7] μ = .ok (.dat (.bl (decide (0 < i)))) μ := by
  simp
theorem deal_loop {a w e : Option Val} {o7 : Option Val} (n : Nat) : ∀ (m : Nat) (o6 : Option Val) (fs rs : List Int), n < m → (n : Int) < 1000 → fs.length = rs.length → 0 < rs.length → rs.length ≤ 1000 →
    ∃ o6' R, whL (sBin opGt (sVar 5) (sC (.int 0))) b__law_dealt_1 m [a, w, e, some (.loc 0), some (.loc 1), some (.dat (.int (n : Int))), o6, o7] [.lst (fs.map .int), .lst (rs.map .int)] =
      .next [a, w, e, some (.loc 0), some (.loc 1), some (.dat (.int 0)), o6', o7] [.lst ((dealL n (fs, rs)).1.map .int), R] := by
  induction n with
  | zero =>
    intro m o6 fs rs hm _ _ _ _
    obtain ⟨m, rfl⟩ : ∃ k, m = k + 1 := ⟨m - 1, by omega⟩
    refine ⟨o6, .lst (rs.map .int), ?_⟩
    exact whL_f deal_cond
  | succ n ih =>
    intro m o6 fs rs h1 h2 hl h0 hx
    obtain ⟨m, rfl⟩ : ∃ k, m = k + 1 := ⟨m - 1, by omega⟩
    obtain ⟨o6', st⟩ := deal_turn (a := a) (w := w) (e := e) (o6 := o6) (o7 := o7) (n := n) (by omega) hl h0 hx
    have l2 : (dealStep (fs, rs)).2.length = rs.length := by simp [dealStep]
    have l1 : (dealStep (fs, rs)).1.length = fs.length := by simp [dealStep, bump]
    obtain ⟨o6'', R, q⟩ := ih m o6' (dealStep (fs, rs)).1 (dealStep (fs, rs)).2 (by omega) (by omega) (by omega) (by omega) (by omega)
    refine ⟨o6'', R, ?_⟩
    have c := deal_cond (a := a) (w := w) (e := e) (o3 := some (.loc 0)) (o4 := some (.loc 1)) (o6 := o6) (o7 := o7) (i := ((n + 1 : Nat) : Int)) (μ := [.lst (fs.map .int), .lst (rs.map .int)])
    rw [decide_eq_true (by omega)] at c
    have ed : dealL (n + 1) (fs, rs) = dealL n ((dealStep (fs, rs)).1, (dealStep (fs, rs)).2) := rfl
    rw [ed, whL_t c st]
    exact q
theorem rem_comp (a e : Int) (ws : List Int) (ha : 0 ≤ a ∧ a < 10 ^ 30) (hw : ∀ w ∈ ws, 0 ≤ w ∧ w < 10 ^ 30) (he : 0 < e) (o1 o3 o4 o5 o6 : Option Val) (μ : Sto) : compL (gN 7) none (sBin opMod (sBin opMul (sVar 0) (sVar 7)) (sVar 2)) [some (.dat (.int a)), o1, some (.dat (.int e)), o3, o4, o5, o6, none] (ws.map .int) μ = .ok ((rst a e ws).map .int) μ := by
  unfold rst
  rw [List.map_map]
  exact compL_mapE D.int _ fun w hm => ⟨[some (.dat (.int a)), o1, some (.dat (.int e)), o3, o4, o5, o6, some (.dat (.int w))], rfl, by
    have mu : opMul μ (.dat (.int a)) (.dat (.int w)) = some (.dat (.int (a * w))) := mul_small ⟨by omega, by omega⟩ ⟨by have := hw w hm; omega, by have := hw w hm; omega⟩
    simp [mu, he]⟩
theorem quo_comp7 (a e : Int) (ws : List Int) (ha : 0 ≤ a ∧ a < 10 ^ 30) (hw : ∀ w ∈ ws, 0 ≤ w ∧ w < 10 ^ 30) (he : 0 < e ∧ e < big) (o1 o3 o4 o5 o6 : Option Val) (μ : Sto) : compL (gN 7) none (sBin opDiv (sBin opMul (sVar 0) (sVar 7)) (sVar 2)) [some (.dat (.int a)), o1, some (.dat (.int e)), o3, o4, o5, o6, none] (ws.map .int) μ = .ok ((quo a e ws).map .int) μ := by
  unfold quo
  rw [List.map_map]
  exact compL_mapE D.int _ fun w hm => ⟨[some (.dat (.int a)), o1, some (.dat (.int e)), o3, o4, o5, o6, some (.dat (.int w))], rfl, by
    have mu : opMul μ (.dat (.int a)) (.dat (.int w)) = some (.dat (.int (a * w))) := mul_small ⟨by omega, by omega⟩ ⟨by have := hw w hm; omega, by have := hw w hm; omega⟩
    simp [mu, he.1, he.2]⟩
theorem law_dealt_ok (a : Int) (ws : List Int) (ha : 0 ≤ a ∧ a < 10 ^ 30) (hw : ∀ w ∈ ws, 0 ≤ w ∧ w < 10 ^ 30) (he : 0 < ws.sum ∧ ws.sum < big) (hl : ws.length ≤ 900) :
    f__law_dealt [] [.int a, .lst (ws.map .int)] = .ok (.new (.lst ((dealtL a ws).map .int))) [] := by
  have lb := left_bnd (a := a) he.1
  have lf : ((rst a ws.sum ws).filter fun r => decide (0 < r)).length ≤ ws.length := by
    refine Nat.le_trans (List.length_filter_le _ _) (by simp [rst])
  have pos : 0 < ws.length := by
    cases ws with
    | nil => simp at he
    | cons => simp
  have cq := quo_comp7 a ws.sum ws ha hw he (some (.dat (.lst (ws.map .int)))) none none none none []
  have c2 := rem_comp a ws.sum ws ha hw he.1 (some (.dat (.lst (ws.map .int)))) (some (.loc 0)) none none none [.lst ((quo a ws.sum ws).map .int)]
  have hz : ((a - (quo a ws.sum ws).sum).toNat : Int) = a - (quo a ws.sum ws).sum := Int.toNat_of_nonneg lb.1
  obtain ⟨o6', R, lp⟩ := deal_loop (a := some (.dat (.int a))) (w := some (.dat (.lst (ws.map .int)))) (e := some (.dat (.int ws.sum))) (o7 := none) (a - (quo a ws.sum ws).sum).toNat 5000 none (quo a ws.sum ws) (rst a ws.sum ws) (by omega) (by omega) (by simp [quo, rst]) (by simpa [rst] using pos) (by simp [rst]; omega)
  rw [hz] at lp
  have sm : ∀ μ : Sto, opSum (.lst ((quo a ws.sum ws).map .int) :: μ) [.loc 0] = some (.dat (.int (quo a ws.sum ws).sum)) := fun μ => by simp [opSum, c1, intsD_map]
  have s1 : ∀ μ : Sto, opSum μ [.dat (.lst (ws.map .int))] = some (.dat (.int ws.sum)) := fun μ => sum_ints
  unfold dealtL
  generalize ((dealL (a - (quo a ws.sum ws).sum).toNat (quo a ws.sum ws, rst a ws.sum ws)).1.map D.int) = Z at *
  generalize (quo a ws.sum ws).map D.int = Q at *
  generalize (rst a ws.sum ws).map D.int = P at *
  generalize ws.map D.int = W at *
  simp [f__law_dealt, g__law_dealt, fnS_ap, startE_ap, s1, cq, c2, sm, sWhile, lp]
theorem weight_turn (g : Bag) (ws : List Int) (o0 o1 o4 o5 o6 o7 o8 : Option Val) (nb nw : Nat) (μ : Sto) (hb : μ[nb]? = some g.cell) (hw : μ[nw]? = some (.lst (ws.map .int))) (ne : nb ≠ nw) (hl : ws.length < 1000) :
    ∃ g' w μ', b_law_k05_2 [o0, o1, some (.loc nb), some (.loc nw), o4, o5, o6, o7, o8] μ = .next [o0, o1, some (.loc nb), some (.loc nw), o4, o5, o6, o7, o8] μ' ∧ 0 ≤ w ∧ w ≤ 1000000 ∧ μ'[nb]? = some (Bag.cell g') ∧ μ'[nw]? = some (.lst ((ws ++ [w]).map .int)) ∧ μ'.length = μ.length := by
  have bl : nb < μ.length := (List.getElem?_eq_some_iff.mp hb).1
  have wl : nw < μ.length := (List.getElem?_eq_some_iff.mp hw).1
  have t1 := take_ok g (c := 1000000) (by decide) (lt_big (by decide))
  have l1 := g.val_lo (c := 1000000) (by decide)
  have h1 := g.val_hi (c := 1000000) (by decide)
  generalize g.val 1000000 = v at *
  generalize g.nxt 1000000 = g1 at *
  obtain ⟨w, wm, e2⟩ := of_ints g1 (ns := [0, 1, 1, 3, 120, 1 + v]) (by simp) (by simp)
  have wr : 0 ≤ w ∧ w ≤ 1000000 := by simp at wm; omega
  simp only [List.map_cons, List.map_nil] at e2
  generalize g1.nxt ([0, 1, 1, 3, 120, 1 + v] : List Int).length = g2 at *
  have ac : ∀ (F : Cell → Out Res), atC μ nb F = F g.cell := fun F => atC_some hb
  have ac1 : ∀ (F : Cell → Out Res), atC (μ.set nb g1.cell) nb F = F g1.cell := fun F => atC_some (List.getElem?_set_self bl)
  have hw2 : (μ.set nb g2.cell)[nw]? = some (.lst (ws.map .int)) := by rw [List.getElem?_set_ne ne]; exact hw
  have ap := append_ok (μ := μ.set nb g2.cell) (k := nw) (d := .int w) hw2 (by rw [sizeLine_eq]; simp; omega)
  refine ⟨g2, w, (μ.set nb g2.cell).set nw (.lst ((ws ++ [w]).map .int)), ?_, wr.1, wr.2, ?_, ?_, by simp⟩
  · rw [show (ws.map D.int) ++ [.int w] = (ws ++ [w]).map .int by simp] at ap
    generalize (ws ++ [w]).map D.int = W' at *
    generalize ws.map D.int = W at *
    have ar : sArgs [sCallF [true, false] f__law_of [sVar 2, sLst [sC (.int 0), sC (.int 1), sC (.int 1), sC (.int 3), sC (.int 120), sBin opAdd (sC (.int 1)) (sCallF [true, false] f__law_take [sVar 2, sBin opPow (sC (.int 10)) (sC (.int 6))])]]] [o0, o1, some (.loc nb), some (.loc nw), o4, o5, o6, o7, o8] μ = .ok [.dat (.int w)] (μ.set nb g2.cell) := by
      simp [ac, t1, ac1, e2]
    have m := sMet_loc (op := opAppend) (f := sVar 3) (ρ := [o0, o1, some (.loc nb), some (.loc nw), o4, o5, o6, o7, o8]) (μ := μ) (μ1 := μ) (k := nw) (ds := W) (by simp) hw ar ap
    simp only [b_law_k05_2, sDrop_ap, m, eS_ok, dropS_ap]
  · rw [List.getElem?_set_ne (Ne.symm ne)]; exact List.getElem?_set_self (by simpa using bl)
  · exact List.getElem?_set_self (by simpa using wl)
theorem weight_loop (o0 o1 o5 o6 o7 o8 : Option Val) (nb nw : Nat) (ne : nb ≠ nw) : ∀ (ds : List D) (g : Bag) (ws : List Int) (o4 : Option Val) (μ : Sto), μ[nb]? = some g.cell → μ[nw]? = some (.lst (ws.map .int)) → ws.length + ds.length < 1000 → (∀ w ∈ ws, 0 ≤ w ∧ w ≤ 1000000) →
    ∃ (g' : Bag) (ws' : List Int) (o4' : Option Val) (μ' : Sto), forL (gN 4) b_law_k05_2 ds [o0, o1, some (.loc nb), some (.loc nw), o4, o5, o6, o7, o8] μ = .next [o0, o1, some (.loc nb), some (.loc nw), o4', o5, o6, o7, o8] μ' ∧ (∀ w ∈ ws', 0 ≤ w ∧ w ≤ 1000000) ∧ μ'[nb]? = some (Bag.cell g') ∧ μ'[nw]? = some (.lst (ws'.map .int)) ∧ ws'.length = ws.length + ds.length ∧ μ'.length = μ.length
  | [], g, ws, o4, μ, hb, hw, _, h => ⟨g, ws, o4, μ, rfl, h, hb, hw, rfl, rfl⟩
  | d :: ds, g, ws, o4, μ, hb, hw, hl, h => by
    simp only [List.length_cons] at hl
    obtain ⟨g1, w, μ1, e1, w0, w1, hb1, hw1, l1⟩ := weight_turn g ws o0 o1 (some (.dat d)) o5 o6 o7 o8 nb nw μ hb hw ne (by omega)
    obtain ⟨g2, ws2, o4', μ2, e2, a1, a2, a3, a4, a5⟩ := weight_loop o0 o1 o5 o6 o7 o8 nb nw ne ds g1 (ws ++ [w]) (some (.dat d)) μ1 hb1 hw1 (by simp; omega) (fun x hx => (List.mem_append.mp hx).elim (h x) fun z => by rw [List.mem_singleton.mp z]; exact ⟨w0, w1⟩)
    refine ⟨g2, ws2, o4', μ2, ?_, a1, a2, a3, by rw [a4]; simp; omega, by omega⟩
    simp only [forL, gN_ap, List.set_cons_succ, List.set_cons_zero, e1]
    exact e2
/-- a cell handed in as data -/
theorem callF_dl {F : FD} {d : D} {k : Nat} {μ : Sto} {c c' : Cell} (h : μ[k]? = some c) (e : F [] [d, c.frz] = .ok (.new c') []) (t : c'.tupO = true) : callF [false, false] F [.dat d, .loc k] μ = .ok (.new c') μ := by
  have h1 : splitA μ [false, false] [.dat d, .loc k] = some ([], [d, c.frz]) := by simp [splitA, toD, h]
  have h2 : lentK [false, false] [.dat d, .loc k] = [k] := rfl
  unfold callF
  rw [h1, h2]
  simp [cellsOf, e, Res.noLoc, Res.tupO, t, putC]
theorem ints_tupO : ∀ ns : List Int, D.tupOL (ns.map .int) = true
  | [] => rfl
  | n :: ns => by simp only [List.map_cons, D.tupOL, ints_tupO ns]; rfl
theorem py_ints (n : Nat) : ∀ ns : List Int, (ns.map D.int).mapM (D.py n) = some (ns.map PyData.int)
  | [] => rfl
  | i :: ns => by rw [List.map_cons, List.mapM_cons, py_ints n ns]; cases n <;> rfl
theorem eqv_ints : ∀ ns ms : List Int, PyData.eqvAll (ns.map PyData.int) (ms.map PyData.int) = decide (ns = ms)
  | [], [] => rfl
  | [], m :: ms => by simp [PyData.eqvAll]
  | n :: ns, [] => by simp [PyData.eqvAll]
  | n :: ns, m :: ms => by
    have ih := eqv_ints ns ms
    simp only [List.map_cons, PyData.eqvAll, ih]
    have e : PyData.eqv (.int n) (.int m) = decide (n = m) := rfl
    rw [e]
    by_cases h : n = m <;> simp [h]
theorem toD_loc {μ : Sto} {k : Nat} {ds : List D} (h : μ[k]? = some (.lst ds)) : toD μ (.loc k) = some (.lst ds) := by simp [toD, h]
/-- lists of numbers, one of them may be a cell -/
theorem ne_ints {μ : Sto} {a b : Val} {ns ms : List Int} (ha : toD μ a = some (.lst (ns.map .int))) (hb : toD μ b = some (.lst (ms.map .int))) : opNe μ a b = some (.dat (.bl (!decide (ns = ms)))) := by
  have z : ssO (fun i j => !decide (i = j)) μ a b = none := by
    unfold ssO
    split
    · simp [toD] at ha
    · rfl
  show (ssO _ _ _ _).or (eqData true μ _ _) = _
  rw [z, Option.none_or]
  unfold eqData
  simp only [ha, hb, D.py, py_ints, Option.map_some]
  simp only [PyData.eqv, eqv_ints]
  rfl
theorem zero_comp (ws rs : List Int) (hl : rs.length = ws.length) (hz : ∀ i, i < ws.length → at0 ws i = 0 → at0 rs i = 0) (nw : Nat) (μ : Sto) (hw : μ[nw]? = some (.lst (ws.map .int))) (o0 o1 o2 o4 o5 o6 : Option Val) :
    compL (gN 8) (some (sAnd (sBin opEq (sBin opIx (sVar 3) (sVar 8)) (sC (.int 0))) (sBin opNe (sBin opIx (sVar 7) (sVar 8)) (sC (.int 0))))) (sVar 8) [o0, o1, o2, some (.loc nw), o4, o5, o6, some (.dat (.lst (rs.map .int))), none] (rngD 0 ws.length) μ = .ok [] μ := by
  have key : ∀ l : List Nat, (∀ i ∈ l, i < ws.length) → compL (gN 8) (some (sAnd (sBin opEq (sBin opIx (sVar 3) (sVar 8)) (sC (.int 0))) (sBin opNe (sBin opIx (sVar 7) (sVar 8)) (sC (.int 0))))) (sVar 8) [o0, o1, o2, some (.loc nw), o4, o5, o6, some (.dat (.lst (rs.map .int))), none] (l.map fun (i : Nat) => D.int (i : Int)) μ = .ok [] μ := by
    intro l hl2
    have f := compL_filterE (g := gN 8) (c := sAnd (sBin opEq (sBin opIx (sVar 3) (sVar 8)) (sC (.int 0))) (sBin opNe (sBin opIx (sVar 7) (sVar 8)) (sC (.int 0)))) (e := sVar 8) (ρ := [o0, o1, o2, some (.loc nw), o4, o5, o6, some (.dat (.lst (rs.map .int))), none]) (μ := μ) (fun (i : Nat) => D.int (i : Int)) (fun (i : Nat) => D.int (i : Int)) (fun _ => false) (xs := l) fun i hi => by
      have li := hl2 i hi
      have x1 : opIx μ (.loc nw) (.dat (.int (i : Int))) = some (.dat (.int (at0 ws i))) := ix_sq (rdS_loc hw) (by
        rw [atI_nat (by simpa using li)]
        simp [at0, List.getD_eq_getElem?_getD, li])
      have x2 : opIx μ (.dat (.lst (rs.map .int))) (.dat (.int (i : Int))) = some (.dat (.int (at0 rs i))) := ix_sq rfl (by
        rw [atI_nat (by simp; omega)]
        simp [at0, List.getD_eq_getElem?_getD, show i < rs.length by omega])
      refine ⟨[o0, o1, o2, some (.loc nw), o4, o5, o6, some (.dat (.lst (rs.map .int))), some (.dat (.int (i : Int)))], rfl, ?_, fun h => by cases h⟩
      generalize rs.map D.int = R at *
      by_cases h : at0 ws i = 0
      · have := hz i li h
        simp [x1, x2, h, this]
      · simp [x1, h]
    rw [List.filter_eq_nil_iff.mpr (by simp)] at f
    exact f
  rw [rng_list]
  exact key _ fun i hi => List.mem_range.mp hi
theorem sum_pos {ws : List Int} (h : ∀ w ∈ ws, 0 ≤ w ∧ w ≤ 1000000) : 0 ≤ ws.sum ∧ ws.sum ≤ ws.length * 1000000 := by
  induction ws with
  | nil => simp
  | cons w ws ih =>
    have a := h w List.mem_cons_self
    have b := ih fun x hx => h x (List.mem_cons_of_mem _ hx)
    simp only [List.sum_cons, List.length_cons]
    omega
theorem k05_turn (ns : List Int) (k : Int) (μ : Sto) (h0 : 0 ≤ k) (h1 : k < 1000) (o2 o3 o4 o5 o6 o7 : Option Val) :
    ∃ ρ' μ', b_law_k05_1 [some (.dat (.scr ns)), some (.dat (.int k)), o2, o3, o4, o5, o6, o7, none] μ = .next ρ' μ' ∧ ∃ p1 p2 p3 p4 p5 p6 p7, ρ' = [some (.dat (.scr ns)), p1, p2, p3, p4, p5, p6, p7, none] := by
  obtain ⟨g, e1⟩ := bag_ok (ns := ns) (k := k) h0 (by omega)
  have t1 := take_ok g (c := 12) (by decide) (lt_big (by decide))
  have l1 := g.val_lo (c := 12) (by decide)
  have u1 := g.val_hi (c := 12) (by decide)
  generalize g.val 12 = v at *
  generalize g.nxt 12 = g1 at *
  have r1 : rng1 (.dat (.int (1 + v))) = some (rngD 0 (1 + v).toNat) := rng1_ok (by omega) (by omega)
  have hlen : (rngD 0 (1 + v).toNat).length = (1 + v).toNat := by rw [rng_list]; simp
  obtain ⟨g2, ws, o4', μ2, e2, wr, b2, w2, wl, ml⟩ := weight_loop (some (.dat (.scr ns))) (some (.dat (.int k))) o5 o6 o7 none μ.length (μ.length + 1) (by omega) (rngD 0 (1 + v).toNat) g1 [] o4 (μ ++ [g1.cell, .lst []]) (by simp) (by simp) (by rw [hlen]; simp; omega) (by simp)
  generalize rngD 0 (1 + v).toNat = RG at *
  rw [hlen] at wl
  simp only [List.length_nil, Nat.zero_add] at wl
  have sb := sum_pos wr
  -- weights that are not all 0
  obtain ⟨vs, μ3, e3, vr, vp, v3, b3, vl⟩ : ∃ (vs : List Int) (μ3 : Sto), sIfS (sBin opEq (sCall opSum [sVar 3]) (sC (.int 0))) (sSub (sVar 3) (sC (.int 0)) (sC (.int 7))) sNext [some (.dat (.scr ns)), some (.dat (.int k)), some (.loc μ.length), some (.loc (μ.length + 1)), o4', o5, o6, o7, none] μ2 =
      .next [some (.dat (.scr ns)), some (.dat (.int k)), some (.loc μ.length), some (.loc (μ.length + 1)), o4', o5, o6, o7, none] μ3 ∧ (∀ w ∈ vs, 0 ≤ w ∧ w ≤ 1000000) ∧ 0 < vs.sum ∧ μ3[μ.length + 1]? = some (.lst (vs.map .int)) ∧ μ3[μ.length]? = some (Bag.cell g2) ∧ vs.length = ws.length := by
    have sm : opSum μ2 [.loc (μ.length + 1)] = some (.dat (.int ws.sum)) := by simp [opSum, c1, rdL_loc w2, intsD_map]
    by_cases hz : ws.sum = 0
    · have st : setC μ2 (μ.length + 1) (.dat (.int 0)) (.int 7) = some (μ2.set (μ.length + 1) (.lst ((ws.set 0 7).map .int))) := by
        have hp : 0 < (ws.map D.int).length := by rw [List.length_map, wl]; omega
        have z := setC_l (d := .int 7) (i := 0) (n := 0) w2 (ixN_nat (i := 0) hp)
        rw [z, List.map_set]
      refine ⟨ws.set 0 7, μ2.set (μ.length + 1) (.lst ((ws.set 0 7).map .int)), ?_, ?_, ?_, ?_, ?_, by simp⟩
      · generalize (ws.set 0 7).map D.int = W at *
        simp [sm, hz, st]
      · intro x hx
        rcases List.mem_or_eq_of_mem_set hx with h | h
        · exact wr x h
        · omega
      · cases ws with
        | nil => simp at wl; omega
        | cons x xs =>
          have a := wr x List.mem_cons_self
          have b := sum_pos fun y hy => wr y (List.mem_cons_of_mem _ hy)
          simp only [List.set_cons_zero, List.sum_cons] at hz ⊢
          omega
      · exact List.getElem?_set_self (by rw [ml]; simp)
      · rw [List.getElem?_set_ne (by omega)]; exact b2
    · exact ⟨ws, μ2, by simp [sm, hz], wr, by omega, w2, b2, rfl⟩
  have vb := sum_pos vr
  have bl3 : μ.length < μ3.length := (List.getElem?_eq_some_iff.mp b3).1
  have t4 := take_ok g2 (c := 100000) (by decide) (lt_big (by decide))
  have l4 := g2.val_lo (c := 100000) (by decide)
  have u4 := g2.val_hi (c := 100000) (by decide)
  generalize g2.val 100000 = m at *
  generalize g2.nxt 100000 = g3 at *
  obtain ⟨a, am, e4⟩ := of_ints g3 (ns := [0, 1, 2, 100, m, 1000000000000]) (by simp) (by simp)
  have ar : 0 ≤ a ∧ a ≤ 1000000000000 := by simp at am; omega
  simp only [List.map_cons, List.map_nil] at e4
  generalize g3.nxt ([0, 1, 2, 100, m, 1000000000000] : List Int).length = g4 at *
  have ac3 : ∀ (F : Cell → Out Res), atC μ3 μ.length F = F g2.cell := fun F => atC_some b3
  have ac4 : ∀ (F : Cell → Out Res), atC (μ3.set μ.length g3.cell) μ.length F = F g3.cell := fun F => atC_some (List.getElem?_set_self bl3)
  have w4 : (μ3.set μ.length g4.cell)[μ.length + 1]? = some (.lst (vs.map .int)) := by rw [List.getElem?_set_ne (by omega)]; exact v3
  have bg : vs.sum < big := lt_big (by omega)
  have d1 := dealt_ok a vs (by omega) (fun w hw => by have := vr w hw; omega) ⟨vp, bg⟩ (by omega)
  have d2 := law_dealt_ok a vs (by omega) (fun w hw => by have := vr w hw; omega) ⟨vp, bg⟩ (by omega)
  rw [dealt_same vp (ordP_ok _)] at d2
  obtain ⟨s5, l5⟩ := dealt_sum (a := a) vp (ordP_ok (rst a vs.sum vs))
  have z5 : ∀ i, i < vs.length → at0 vs i = 0 → at0 (dealtP a vs (ordP (rst a vs.sum vs))) i = 0 := fun i hi h => dealt_zero vp (ordP_ok _) hi h
  generalize hR : dealtP a vs (ordP (rst a vs.sum vs)) = R at *
  generalize hM : μ3.set μ.length g4.cell = μ4 at *
  have c1 := callF_dl (F := f_dealt) (d := .int a) w4 d1 (ints_tupO R)
  have c2 := callF_dl (F := f__law_dealt) (d := .int a) w4 d2 (ints_tupO R)
  have q1 : opNe μ4 (.dat (.lst (R.map .int))) (.dat (.lst (R.map .int))) = some (.dat (.bl false)) := by rw [ne_ints rfl rfl]; simp
  have q2 : opNe μ4 (.loc (μ.length + 1)) (.dat (.lst (vs.map .int))) = some (.dat (.bl false)) := by rw [ne_ints (toD_loc w4) rfl]; simp
  have q3 : opSum μ4 [.dat (.lst (R.map .int))] = some (.dat (.int a)) := by rw [sum_ints, s5]
  have q4 : opLen μ4 [.loc (μ.length + 1)] = some (.dat (.int (vs.length : Int))) := by rw [len_loc w4]; simp
  have q5 : rng1 (.dat (.int (vs.length : Int))) = some (rngD 0 vs.length) := rng1_n _ (by omega)
  have q6 := fun o5 o6 => zero_comp vs R l5 z5 (μ.length + 1) μ4 w4 (some (.dat (.scr ns))) (some (.dat (.int k))) (some (.loc μ.length)) o4' o5 o6
  have q7 : opList μ4 [.loc (μ.length + 1)] = some (.new (.lst (vs.map .int))) := list_sq (rdS_loc w4)
  have q8 : opNe μ4 (.dat (.lst [])) (.dat (.lst [])) = some (.dat (.bl false)) := ne_nil (by simp)
  generalize R.map D.int = RD at *
  generalize vs.map D.int = VD at *
  generalize rngD 0 vs.length = G8 at *
  have p10 : opPow (μ3) (.dat (.int 10)) (.dat (.int 5)) = some (.dat (.int 100000)) := pow_10n 5 (by decide)
  have p12 : ∀ μ, opPow μ (.dat (.int 10)) (.dat (.int 12)) = some (.dat (.int 1000000000000)) := fun μ => pow_10n 12 (by decide)
  have ac0 : ∀ (F : Cell → Out Res), atC (μ ++ [g.cell, .lst []]) μ.length F = F g.cell := fun F => atC_some (by simp)
  have set0 : (μ ++ [g.cell, .lst []]).set μ.length g1.cell = μ ++ [g1.cell, .lst []] := by simp
  refine ⟨[some (.dat (.scr ns)), some (.dat (.int k)), some (.loc μ.length), some (.loc (μ.length + 1)), o4', some (.dat (.int a)), some (.dat (.lst VD)), some (.dat (.lst RD)), none], μ4, ?_, _, _, _, _, _, _, _, rfl⟩
  unfold b_law_k05_1
  simp [-sIfS_ap, e1, ac0, t1, set0, argI_eq, r1, e2]
  rw [e3]
  simp [ac3, p10, t4, p12, ac4, e4, hM, q7, c1, c2, q1, q2, q3, q4, q5, q6, q8]
theorem plain_k05 : ∀ ns : List Int, ns.length ≤ 63 → ∃ cs, f_law_k05 [] [.scr ns] = .ok (.dat (.bl true)) cs := by
  intro ns hn
  have r1 := refused3_ok [0] rfl
  have r2 := refused3_ok [0, 0, 0] rfl
  simp only [List.map_cons, List.map_nil] at r1 r2
  have hm : min (ns.length : Int) 14 + 2 = ((min ns.length 14 + 2 : Nat) : Int) := by omega
  obtain ⟨ρ', μ', lp, _⟩ := loop_any (i := 1) (b := b_law_k05_1) (fun ρ => ∃ p1 p2 p3 p4 p5 p6 p7, ρ = [some (.dat (.scr ns)), p1, p2, p3, p4, p5, p6, p7, none]) 1000 (fun k ρ μ h0 h1 ⟨p1, p2, p3, p4, p5, p6, p7, e⟩ => by
    subst e
    exact k05_turn ns k μ h0 h1 p2 p3 p4 p5 p6 p7) (min ns.length 14 + 2) 0 [some (.dat (.scr ns)), none, none, none, none, none, none, none, none] [] (by omega) (by omega) ⟨_, _, _, _, _, _, _, rfl⟩
  have rg : rng1 (.dat (.int (min (ns.length : Int) 14 + 2))) = some (rngD 0 (min ns.length 14 + 2)) := by
    rw [hm, rng1_ok (by omega) (by omega)]; rfl
  generalize rngD 0 (min ns.length 14 + 2) = G0 at *
  exact ⟨_, by simp [f_law_k05, g_law_k05, fnS_ap, startE_ap, argI_eq, r1, r2, rg, lp]; rfl⟩
end Sx

/-! SxTab: heads with tables of code objects. -/
namespace Sx
open PySem PySem.Spec PyProof.Rows L2 LamX
/-- the tables of the defs tf, by what their lambdas are called -/
def tabsOf (K : PySem.W.Frag) (tf : List Str) : List (Addr × Str) := tf.map fun x => ((He.cT K (x, none)).2, x ++ ".<locals>.<lambda>")
def def1 (x : Str) : He.Defn := (x, none)
/-- a law's end -/
theorem sx_walkT {l : PySem.W.OpenLaw} {n k : Nat} {q : Program} {loose : List Str} {XP : (Str → Option Value) → Heap → Prop} {YP : World → Heap → Prop} {d : DefRec} {x : Str} {F : FD} {tf : List Str}
    (hn : l.most = some n) (hn2 : n ≤ sizeLine) (hdf : d.params.defaults = []) (hr : Room k callerA)
    (hF : ∀ (w : World) (mg : Str → Option Value) (fa : Addr) (h : Heap), YP w h → h.Ns mainGlobals mg → mg d.name = some (.ref fa) →
      ∃ (K : PySem.W.Frag) (fd : FuncData) (Z : Wd), K.In h ∧ Z.tabs = tabsOf K tf ∧ noList K = true ∧ (∀ p ∈ tf, PySem.W.codeHdIn K (He.cT K (def1 p)).1 (He.cT K (def1 p)).2 = true) ∧ (∀ p ∈ tf, K.lookup (He.cT K (def1 p)).2 = none) ∧ (∀ p ∈ tf, h.get? (He.cT K (def1 p)).2 = some { cls := .none, data := .fields #[] }) ∧
        (∀ (s : Shared) (u : Value), BindsTo s fd ⟨[u], []⟩ [(x, u)]) ∧
        ∀ base : Heap, K.In base → base.Ns mainGlobals mg → (∀ p ∈ tf, TabB base mg (He.cT K (def1 p)).1 (He.cT K (def1 p)).2) → FnOk l.prog w K mg base (L2.CX l.prog w) k fa fd [x] (spD Z [false] F))
    (plain : ∀ ns : List Int, ns.length ≤ n → ∃ cs, F [] [.scr ns] = .ok (.dat (.bl true)) cs) :
    PySem.W.WalkO q loose XP YP l.row.toRowW d [] (fun f vs => PySem.call f vs) := by
  refine walk_ofTsE (CX := fun w => L2.CX l.prog w) (x := x) hn hn2 hdf hr (fun w mg fa h Y hns hmg => ?_) ?_
  · obtain ⟨K, fd, Z, KX, tb, nl, c1, c2, c3, hb, hF⟩ := hF w mg fa h Y hns hmg
    have back : ∀ p ∈ tf.map fun x => He.cT K (def1 x), ∃ y ∈ tf, p = He.cT K (def1 y) := fun p hp => by
      obtain ⟨y, hy, e⟩ := List.mem_map.mp hp
      exact ⟨y, hy, e.symm⟩
    refine ⟨K, KX, fd, tf.map fun x => He.cT K (def1 x), spD Z [false] F, fun p hp => ?_, fun p hp => ?_, fun p hp => ?_, hb, fun H a ns hl _ hT hS => ?_, fun base k1 k2 k3 => hF base k1 k2 fun p hp => k3 _ (List.mem_map.mpr ⟨p, hp, rfl⟩)⟩
    · obtain ⟨y, hy, rfl⟩ := back p hp; exact c3 y hy
    · obtain ⟨y, hy, rfl⟩ := back p hp; exact c2 y hy
    · obtain ⟨y, hy, rfl⟩ := back p hp
      exact PySem.W.codeHd_of_K KX (c1 y hy)
    · obtain ⟨cs, e⟩ := plain ns hl
      refine ⟨rfl, fun _ => False, [], [], [.scr ns], rfl, rfl, ⟨rfl, List.nodup_nil, fun b h => h.elim, fun k a c h _ => by simp at h, fun p hp => ?_⟩, .cons (show Rp H _ (.ref a) (.scr ns) from .scr (noList_ok nl hS) fun z => ?_) .nil, ?_⟩
      · rw [tb] at hp
        obtain ⟨y, hy, rfl⟩ := List.mem_map.mp hp
        exact TabS.nil (hT _ (List.mem_map.mpr ⟨y, hy, rfl⟩))
      · rcases z with z | z
        · exact z
        · cases z
      · rw [e]
        intro v H' P S r
        cases r
        rfl
  · rintro w H s e s' ⟨a, B, H', cls, d, _, _, _, _, _, _, _, h⟩
    exact h
end Sx
namespace Sx
open PySem PySem.Spec PyProof.Rows L2 LamX
theorem def_c {T : Tx} {h : Heap} {fa : List He.Fa} {fn : List He.DefD} (X : T.K.In h) (G : h.Ns mainGlobals T.mg) (c : He.SaysD fa fn T.K) (i j : Nat) {x : Str} {st : Stmt} (h1 : fn[i]? = some (dd x st) := by rfl) (h2 : fa[j]? = some (.glo x) := by rfl) : DefC T x st (He.cT T.K (def1 x)).1 := by
  obtain ⟨fd, F⟩ := fun_of c i h1
  refine ⟨_, fd, F, He.glo_ok X G (c.fact j h2), ?_⟩
  obtain ⟨oc, od, kV, doc, pm, an, cdv, ct, osl, e, lk, hcd⟩ := F.ex
  obtain ⟨c', hc'⟩ := He.codeIn_ref hcd
  have e1 : fd.code = .ref c' := by rw [e]; exact hc'
  rw [e1]
  congr 1
  exact (He.codeOf_eq (p := (x, none)) lk e1).symm
end Sx


/-! the defs of a law do what their plain functions tell (printed by gen.py) -/
namespace Sx.Lk05
open PySem L2 Sx
def top (i : Nat) : Stmt := PySem.Challenge.pw_yearshare_k05_whole_amounts_dealt.main.body.getD i (.Pass ⟨0, 0, 0, 0⟩)
structure Bs (T : Tx) : Prop where
  d__law_bag : DefAt T "_law_bag" (top 7)
  d__law_take : DefAt T "_law_take" (top 8)
  d__law_of : DefAt T "_law_of" (top 9)
  d_dealt : DefAt T "dealt" (top 5)
  d__law_refused_v3 : DefAt T "_law_refused" (top 11)
  d__law_dealt : DefAt T "_law_dealt" (top 10)
  d_law_k05 : DefAt T "law" (top 12)
  cd_dealt : DefC T "dealt" (top 5) (He.cT T.K (def1 "dealt")).1
  tb_dealt : LamX.TabB T.base T.mg (He.cT T.K (def1 "dealt")).1 (He.cT T.K (def1 "dealt")).2
  zt : T.Z.tabs = tabsOf T.K ["dealt"]
  m_isinstance : T.mg "isinstance" = none
  m_len : T.mg "len" = none
  m_list : T.mg "list" = none
  m_max : T.mg "max" = none
  m_min : T.mg "min" = none
  m_range : T.mg "range" = none
  m_sorted : T.mg "sorted" = none
  m_sum : T.mg "sum" = none
  e_NoWeights : ExcAt T "NoWeights"
  e_ToldError : ExcAt T "ToldError"
  x_NoWeights_NoWeights : PySem.W.exmOne T.K (.ref (T.Z.cls "NoWeights")) (.ref (T.Z.cls "NoWeights")) = some true
  x_NoWeights_ToldError : PySem.W.exmOne T.K (.ref (T.Z.cls "NoWeights")) (.ref (T.Z.cls "ToldError")) = some true
  k_NoWeights : ExcC T.K (T.Z.cls "NoWeights")
abbrev st__law_bag : Stmt := top 7
theorem sc__law_bag : FnScope ["script", "k", "cell", "seed"] ["script", "k"] (defScope st__law_bag) := ⟨rfl, rfl, rfl, by decide +kernel, rfl, by decide +kernel, by decide +kernel⟩
theorem has__law_bag {T : Tx} (B : Bs T) : Has T 1 "_law_bag" [false, false] f__law_bag := by
  refine has_of B.d__law_bag sc__law_bag rfl (fun _ _ _ _ _ _ us hl => match us, hl with | [_, _], _ => rfl) fun f cdv A outer s H E hr => ?_
  exact s_cons (s_set (i := 2) sc__law_bag.nd (d_int))
    (s_cons (s_if (b_cmp cLt (d_var 1) (d_callB kLen rfl B.m_len (a_cons (d_var 0) (a_nil)) PySem.boot_len))
    (s_one (s_set (i := 2) sc__law_bag.nd (d_mod (d_ix hr (d_var 0) (d_var 1)) (d_pow (d_int) (d_int)))))
    (s_nil))
    (s_cons (s_set (i := 3) sc__law_bag.nd (d_add (d_int) (d_mod (d_add (d_add (d_add (d_mul (d_mod (d_var 2) (d_int)) (d_int)) (d_mul (d_mul (d_int) (d_var 1)) (d_var 1))) (d_mul (d_int) (d_var 1))) (d_int)) (d_int))))
    (s_cons (s_if (b_cmp cLt (d_var 2) (d_pow (d_int) (d_int)))
    (s_one (s_ret (d_lst (a_cons (d_int) (a_cons (d_var 3) (a_nil))))))
    (s_nil))
    (s_one (s_ret (d_lst (a_cons (d_var 2) (a_cons (d_var 3) (a_nil)))))))))
abbrev st__law_take : Stmt := top 8
theorem sc__law_take : FnScope ["bag", "count", "found"] ["bag", "count"] (defScope st__law_take) := ⟨rfl, rfl, rfl, by decide +kernel, rfl, by decide +kernel, by decide +kernel⟩
theorem has__law_take {T : Tx} (B : Bs T) : Has T 1 "_law_take" [true, false] f__law_take := by
  refine has_of B.d__law_take sc__law_take rfl (fun _ _ _ _ _ _ us hl => match us, hl with | [_, _], _ => rfl) fun f cdv A outer s H E hr => ?_
  exact s_cons (s_if (b_cmp cGt (d_ix hr (d_var 0) (d_int)) (d_int))
    (s_cons (s_set (i := 2) sc__law_take.nd (d_mod (d_ix hr (d_var 0) (d_int)) (d_var 1)))
    (s_cons (s_sub hr (d_div (d_ix hr (d_var 0) (d_int)) (d_var 1)) (d_var 0) (d_int))
    (s_one (s_ret (d_var 2)))))
    (s_nil))
    (s_cons (s_sub hr (d_mod (d_mul (d_ix hr (d_var 0) (d_int)) (d_int)) (d_int)) (d_var 0) (d_int))
    (s_one (s_ret (d_mod (d_div (d_mod (d_mul (d_div (d_ix hr (d_var 0) (d_int)) (d_int)) (d_add (d_mod (d_ix hr (d_var 0) (d_int)) (d_int)) (d_int))) (d_int)) (d_int)) (d_var 1)))))
abbrev st__law_of : Stmt := top 9
theorem sc__law_of : FnScope ["bag", "some"] ["bag", "some"] (defScope st__law_of) := ⟨rfl, rfl, rfl, by decide +kernel, rfl, by decide +kernel, by decide +kernel⟩
theorem has__law_of {T : Tx} (B : Bs T) : Has T 2 "_law_of" [true, false] f__law_of := by
  have h__law_take : Has T 1 "_law_take" _ f__law_take := (has__law_take B).up 
  refine has_of B.d__law_of sc__law_of rfl (fun _ _ _ _ _ _ us hl => match us, hl with | [_, _], _ => rfl) fun f cdv A outer s H E hr => ?_
  exact s_one (s_ret (d_ix hr (d_var 1) (d_callF h__law_take ⟨rfl, rfl, rfl, rfl, rfl⟩ (takes_of rfl rfl rfl rfl) hr rfl (a_cons (d_var 0) (a_cons (d_callB kLen rfl B.m_len (a_cons (d_var 1) (a_nil)) PySem.boot_len) (a_nil))))))
abbrev st_dealt : Stmt := top 5
theorem sc_dealt : FnScope ["amount", "weights", "every", "found", "order", "at", "weight"] ["amount", "weights"] (defScope st_dealt) := ⟨rfl, rfl, rfl, by decide +kernel, rfl, by decide +kernel, by decide +kernel⟩
theorem has_dealt {T : Tx} (B : Bs T) : Has T 4 "dealt" [false, false] f_dealt := by
  refine has_ofC B.cd_dealt sc_dealt rfl (fun _ _ _ _ _ _ us hl => match us, hl with | [_, _], _ => rfl) fun f A outer s H E hr => ?_
  exact s_cons (s_set (i := 2) sc_dealt.nd (d_callB (kSum rfl) rfl B.m_sum (a_cons (d_var 1) (a_nil)) PyProof.Rows.boot_sum))
    (s_cons (s_if (b_cmp (cEq hr) (d_var 2) (d_int))
    (s_one (s_raise B.e_NoWeights ⟨rfl, rfl, rfl, rfl, rfl⟩ rfl (takes_of rfl rfl rfl rfl) rfl))
    (s_nil))
    (s_cons (s_setLcC (i := 3) (own := [("weight", 6)]) rfl sc_dealt.nd (i_any (d_var 1)) (blk_by (N := ["amount", "weights", "every", "found", "order", "at", "weight"]) (sc := defScope st_dealt) rfl rfl (by decide +kernel)) (fun _ _ _ _ _ => pg_name (i := 6) sc_dealt.nd rfl (Or.inl rfl)) (gk_name) (fun _ _ _ _ _ => ts_nil) (fun _ _ _ _ _ => d_div (d_mul (d_var 0) (d_var 6)) (d_var 2)))
    (s_cons (s_set (i := 4) sc_dealt.nd (d_sortKey (k := 0) (N := ["at", "every", "amount", "weights"]) (fr := ["every", "amount", "weights"]) (js := [2, 0, 1]) rfl B.m_sorted (d_listRg rfl rfl B.m_list rfl B.m_range (d_callB kLen rfl B.m_len (a_cons (d_var 1) (a_nil)) PySem.boot_len)) hr B.tb_dealt rfl (B.zt.trans (by kernel_rfl)) (NdefX.nscope_by (by decide +kernel)) (by first | rfl | kernel_rfl) rfl rfl rfl (fun _ _ _ _ _ _ => rfl) (fun _ _ _ _ _ hr => d_tup (a_cons (d_sub (d_int) (d_mod (d_mul (d_var 2) (d_ix hr (d_var 3) (d_var 0))) (d_var 1))) (a_cons (d_var 0) (a_nil))))))
    (s_cons (s_for (vs := [5]) (passes_of rfl) rfl (i_any (d_sl (d_var 4) (o_none) (o_some (d_sub (d_var 0) (d_callB (kSum rfl) rfl B.m_sum (a_cons (d_var 3) (a_nil)) PyProof.Rows.boot_sum))))) (pg_name (i := 5) sc_dealt.nd rfl (Or.inl rfl)) (gk_name)
    (s_one (s_augS hr iop_add (d_var 3) (d_var 5) (d_int))))
    (s_one (s_ret (d_var 3)))))))
abbrev st__law_refused_v3 : Stmt := top 11
theorem sc__law_refused_v3 : FnScope ["weights", "found", "e"] ["weights"] (defScope st__law_refused_v3) := ⟨rfl, rfl, rfl, by decide +kernel, rfl, by decide +kernel, by decide +kernel⟩
theorem has__law_refused_v3 {T : Tx} (B : Bs T) : Has T 5 "_law_refused" [false] f__law_refused_v3 := by
  have h_dealt : Has T 4 "dealt" _ f_dealt := (has_dealt B).up 
  refine has_of B.d__law_refused_v3 sc__law_refused_v3 rfl (fun _ _ _ _ _ _ us hl => match us, hl with | [_], _ => rfl) fun f cdv A outer s H E hr => ?_
  exact s_cons (s_set (i := 1) sc__law_refused_v3.nd (d_bl))
    (s_cons (s_tryIs (i := 2) (f := 1) (caught_of (l := [("NoWeights", true)]) (List.forall_mem_cons.mpr ⟨B.x_NoWeights_NoWeights, (List.forall_mem_nil _)⟩)) (isAt_of (l := [("NoWeights", true)]) B.e_ToldError.mg (List.forall_mem_cons.mpr ⟨B.k_NoWeights, (List.forall_mem_nil _)⟩) (List.forall_mem_cons.mpr ⟨⟨B.x_NoWeights_ToldError, rfl⟩, (List.forall_mem_nil _)⟩)) ⟨rfl, rfl, rfl, rfl, rfl⟩ sc__law_refused_v3.nd (by decide) B.m_isinstance B.e_NoWeights.mg (takes_of rfl rfl rfl rfl) (fun _ _ _ tk1 hp1 => s_one (s_expr (d_callF h_dealt ⟨rfl, rfl, rfl, rfl, rfl⟩ tk1 hr rfl (a_cons (d_int) (a_cons (d_var 0) (a_nil)))))))
    (s_one (s_ret (d_var 1))))
abbrev st__law_dealt : Stmt := top 10
theorem sc__law_dealt : FnScope ["whole_sum", "weights", "every", "found", "rests", "left", "at", "weight"] ["whole_sum", "weights"] (defScope st__law_dealt) := ⟨rfl, rfl, rfl, by decide +kernel, rfl, by decide +kernel, by decide +kernel⟩
theorem has__law_dealt {T : Tx} (B : Bs T) : Has T 1 "_law_dealt" [false, false] f__law_dealt := by
  refine has_of B.d__law_dealt sc__law_dealt rfl (fun _ _ _ _ _ _ us hl => match us, hl with | [_, _], _ => rfl) fun f cdv A outer s H E hr => ?_
  exact s_cons (s_set (i := 2) sc__law_dealt.nd (d_callB (kSum rfl) rfl B.m_sum (a_cons (d_var 1) (a_nil)) PyProof.Rows.boot_sum))
    (s_cons (s_setLcC (i := 3) (own := [("weight", 7)]) rfl sc__law_dealt.nd (i_any (d_var 1)) (blk_by (N := ["whole_sum", "weights", "every", "found", "rests", "left", "at", "weight"]) (sc := defScope st__law_dealt) rfl rfl (by decide +kernel)) (fun _ _ _ _ _ => pg_name (i := 7) sc__law_dealt.nd rfl (Or.inl rfl)) (gk_name) (fun _ _ _ _ _ => ts_nil) (fun _ _ _ _ _ => d_div (d_mul (d_var 0) (d_var 7)) (d_var 2)))
    (s_cons (s_setLcC (i := 4) (own := [("weight", 7)]) rfl sc__law_dealt.nd (i_any (d_var 1)) (blk_by (N := ["whole_sum", "weights", "every", "found", "rests", "left", "at", "weight"]) (sc := defScope st__law_dealt) rfl rfl (by decide +kernel)) (fun _ _ _ _ _ => pg_name (i := 7) sc__law_dealt.nd rfl (Or.inl rfl)) (gk_name) (fun _ _ _ _ _ => ts_nil) (fun _ _ _ _ _ => d_mod (d_mul (d_var 0) (d_var 7)) (d_var 2)))
    (s_cons (s_set (i := 5) sc__law_dealt.nd (d_sub (d_var 0) (d_callB (kSum rfl) rfl B.m_sum (a_cons (d_var 3) (a_nil)) PyProof.Rows.boot_sum)))
    (s_cons (s_while (fun _ _ => 5000) (passes_of rfl) (b_cmp cGt (d_var 5) (d_int))
    (s_cons (s_set (i := 6) sc__law_dealt.nd (d_index (d_var 4) (a_cons (d_callB (kMaxL rfl) rfl B.m_max (a_cons (d_var 4) (a_nil)) PyProof.Rows.boot_max) (a_nil))))
    (s_cons (s_sub hr (d_add (d_ix hr (d_var 3) (d_var 6)) (d_int)) (d_var 3) (d_var 6))
    (s_cons (s_sub hr (d_neg (d_int)) (d_var 4) (d_var 6))
    (s_one (s_set (i := 5) sc__law_dealt.nd (d_sub (d_var 5) (d_int))))))))
    (s_one (s_ret (d_var 3)))))))
abbrev st_law_k05 : Stmt := top 12
theorem sc_law_k05 : FnScope ["script", "k", "bag", "weights", "turn", "money", "kept", "found", "at"] ["script"] (defScope st_law_k05) := ⟨rfl, rfl, rfl, by decide +kernel, rfl, by decide +kernel, by decide +kernel⟩
theorem law_fn {T : Tx} (B : Bs T) {f : Addr} {fd : FuncData} (F : Fun T.K "law" "law" st_law_k05 f fd) : FnOk T.P T.w T.K T.mg T.base (L2.CX T.P T.w) 6 f fd ["script"] (spD T.Z [false] f_law_k05) := by
  have h__law_bag : Has T 5 "_law_bag" _ f__law_bag := (has__law_bag B).up 
  have h__law_dealt : Has T 5 "_law_dealt" _ f__law_dealt := (has__law_dealt B).up 
  have h__law_of : Has T 5 "_law_of" _ f__law_of := (has__law_of B).up 
  have h__law_refused_v3 : Has T 5 "_law_refused" _ f__law_refused_v3 := (has__law_refused_v3 B).up 
  have h__law_take : Has T 5 "_law_take" _ f__law_take := (has__law_take B).up 
  have h_dealt : Has T 5 "dealt" _ f_dealt := (has_dealt B).up 
  refine fnok_of F sc_law_k05 rfl fun f cdv A outer s H E hr => ?_
  exact s_cons (s_if (PW.pt (b_or (b_not (b_tru (d_callF h__law_refused_v3 ⟨rfl, rfl, rfl, rfl, rfl⟩ (takes_of rfl rfl rfl rfl) hr rfl (a_cons (d_lst (a_cons (d_int) (a_nil))) (a_nil))))) (pw_or1 (b_not (b_tru (d_callF h__law_refused_v3 ⟨rfl, rfl, rfl, rfl, rfl⟩ (takes_of rfl rfl rfl rfl) hr rfl (a_cons (d_lst (a_cons (d_int) (a_cons (d_int) (a_cons (d_int) (a_nil))))) (a_nil))))))))
    (s_one (s_ret (d_bl)))
    (s_nil))
    (s_cons (s_for (vs := [1]) (passes_of rfl) rfl (i_range1 rfl B.m_range (a_cons (d_add (d_callB (kMin2 rfl) rfl B.m_min (a_cons (d_callB kLen rfl B.m_len (a_cons (d_var 0) (a_nil)) PySem.boot_len) (a_cons (d_int) (a_nil))) PyProof.Rows.boot_min) (d_int)) (a_nil))) (pg_name (i := 1) sc_law_k05.nd rfl (Or.inl rfl)) (gk_name)
    (s_cons (s_setC (i := 2) sc_law_k05.nd (d_callF h__law_bag ⟨rfl, rfl, rfl, rfl, rfl⟩ (takes_of rfl rfl rfl rfl) hr rfl (a_cons (d_var 0) (a_cons (d_var 1) (a_nil)))))
    (s_cons (s_setC (i := 3) sc_law_k05.nd (d_lst (a_nil)))
    (s_cons (s_for (vs := [4]) (passes_of rfl) rfl (i_range1 rfl B.m_range (a_cons (d_add (d_int) (d_callF h__law_take ⟨rfl, rfl, rfl, rfl, rfl⟩ (takes_of rfl rfl rfl rfl) hr rfl (a_cons (d_var 2) (a_cons (d_int) (a_nil))))) (a_nil))) (pg_name (i := 4) sc_law_k05.nd rfl (Or.inl rfl)) (gk_name)
    (s_one (s_expr (d_append (d_var 3) (a_cons (d_callF h__law_of ⟨rfl, rfl, rfl, rfl, rfl⟩ (takes_of rfl rfl rfl rfl) hr rfl (a_cons (d_var 2) (a_cons (d_lst (a_cons (d_int) (a_cons (d_int) (a_cons (d_int) (a_cons (d_int) (a_cons (d_int) (a_cons (d_add (d_int) (d_callF h__law_take ⟨rfl, rfl, rfl, rfl, rfl⟩ (takes_of rfl rfl rfl rfl) hr rfl (a_cons (d_var 2) (a_cons (d_pow (d_int) (d_int)) (a_nil))))) (a_nil)))))))) (a_nil)))) (a_nil))))))
    (s_cons (s_if (b_cmp (cEq hr) (d_callB (kSum rfl) rfl B.m_sum (a_cons (d_var 3) (a_nil)) PyProof.Rows.boot_sum) (d_int))
    (s_one (s_sub hr (d_int) (d_var 3) (d_int)))
    (s_nil))
    (s_cons (s_set (i := 5) sc_law_k05.nd (d_callF h__law_of ⟨rfl, rfl, rfl, rfl, rfl⟩ (takes_of rfl rfl rfl rfl) hr rfl (a_cons (d_var 2) (a_cons (d_lst (a_cons (d_int) (a_cons (d_int) (a_cons (d_int) (a_cons (d_int) (a_cons (d_callF h__law_take ⟨rfl, rfl, rfl, rfl, rfl⟩ (takes_of rfl rfl rfl rfl) hr rfl (a_cons (d_var 2) (a_cons (d_pow (d_int) (d_int)) (a_nil)))) (a_cons (d_pow (d_int) (d_int)) (a_nil)))))))) (a_nil)))))
    (s_cons (s_set (i := 6) sc_law_k05.nd (d_callTy kList rfl B.m_list (a_cons (d_var 3) (a_nil)) PyProof.Rows.boot_list))
    (s_cons (s_set (i := 7) sc_law_k05.nd (d_callF h_dealt ⟨rfl, rfl, rfl, rfl, rfl⟩ (takes_of rfl rfl rfl rfl) hr rfl (a_cons (d_var 5) (a_cons (d_var 3) (a_nil)))))
    (s_cons (s_if (PW.pt (b_or (b_cmp (cNe hr) (d_var 7) (d_callF h__law_dealt ⟨rfl, rfl, rfl, rfl, rfl⟩ (takes_of rfl rfl rfl rfl) hr rfl (a_cons (d_var 5) (a_cons (d_var 3) (a_nil))))) (b_or (b_cmp (cNe hr) (d_callB (kSum rfl) rfl B.m_sum (a_cons (d_var 7) (a_nil)) PyProof.Rows.boot_sum) (d_var 5)) (pw_or1 (b_cmp (cNe hr) (d_var 3) (d_var 6))))))
    (s_one (s_ret (d_bl)))
    (s_nil))
    (s_one (s_if (b_cmp (cNe hr) (d_comp (own := [("at", 8)]) rfl sc_law_k05.nd (i_range1 rfl B.m_range (a_cons (d_callB kLen rfl B.m_len (a_cons (d_var 3) (a_nil)) PySem.boot_len) (a_nil))) (blk_by (N := ["script", "k", "bag", "weights", "turn", "money", "kept", "found", "at"]) (sc := defScope st_law_k05) rfl rfl (by decide +kernel)) (fun _ _ _ _ _ => pg_name (i := 8) sc_law_k05.nd rfl (Or.inl rfl)) (gk_name) (fun _ _ _ _ _ => ts_one (PW.pt (b_and (b_cmp (cEq hr) (d_ix hr (d_var 3) (d_var 8)) (d_int)) (pw_and1 (b_cmp (cNe hr) (d_ix hr (d_var 7) (d_var 8)) (d_int)))))) (fun _ _ _ _ _ => d_var 8)) (d_lst (a_nil)))
    (s_one (s_ret (d_bl)))
    (s_nil))))))))))))
    (s_one (s_ret (d_bl))))
def fn : List He.DefD := [dd "_law_bag" st__law_bag, dd "_law_take" st__law_take, dd "_law_of" st__law_of, dd "dealt" st_dealt, dd "_law_refused" st__law_refused_v3, dd "_law_dealt" st__law_dealt, dd "law" st_law_k05]
def fa : List He.Fa := [.glo "_law_bag", .glo "_law_take", .glo "_law_of", .glo "dealt", .glo "_law_refused", .glo "_law_dealt", .glo "law", .free "isinstance", .free "len", .free "list", .free "max", .free "min", .free "range", .free "sorted", .free "sum", .exc "NoWeights", .glo "NoWeights", .exc "ToldError", .glo "ToldError", .exm "NoWeights" "NoWeights" true, .exm "NoWeights" "ToldError" true]
abbrev R : PySem.W.OpenRow := PySem.W.OpenLaw.row PySem.Challenge.rw_yearshare_k05_whole_amounts_dealt
abbrev hk : PySem.W.Hook := He.hookX 4 fa fn [] ((["dealt"] : List PySem.Str).map def1) (flK ["NoWeights"])
def ob (s : PySem.W.SharedT) : He.AlX := He.obsX 4 fa fn [] ((["dealt"] : List PySem.Str).map def1) (flK ["NoWeights"]) (HandSHeadRun.getT s)
theorem ob_eq (s : PySem.W.SharedT) : ob s = hk.obs s.abs := He.obsX_eq (HandSHeadRun.getT_eq s)
def loose : List PySem.Str := ["ShareError", "ToldError", "NoWeights", "dealt", "_law_bag", "_law_take", "_law_of", "_law_dealt", "_law_refused"]
theorem run (w : World) : HandSHeadRun.RunEq R (PySem.W.view R.prog [12]) hk ob 4000 loose w := by
  intro os
  kernel_rfl
theorem bs_of {T : Tx} {h : Heap} (X : T.K.In h) (G : h.Ns PySem.mainGlobals T.mg) (c : He.SaysD fa fn T.K) (nl : flK ["NoWeights"] T.K = true) (hz : T.Z.cls = He.ga T.K) (zt : T.Z.tabs = tabsOf T.K (["dealt"] : List PySem.Str)) (tb : ∀ p ∈ (["dealt"] : List PySem.Str), LamX.TabB T.base T.mg (He.cT T.K (def1 p)).1 (He.cT T.K (def1 p)).2) : Bs T where
  d__law_bag := def_at X G c 0 0
  d__law_take := def_at X G c 1 1
  d__law_of := def_at X G c 2 2
  d_dealt := def_at X G c 3 3
  d__law_refused_v3 := def_at X G c 4 4
  d__law_dealt := def_at X G c 5 5
  d_law_k05 := def_at X G c 6 6
  cd_dealt := def_c X G c 3 3
  tb_dealt := tb _ (by decide)
  zt := zt
  m_isinstance := He.free_ok X G (c.fact 7)
  m_len := He.free_ok X G (c.fact 8)
  m_list := He.free_ok X G (c.fact 9)
  m_max := He.free_ok X G (c.fact 10)
  m_min := He.free_ok X G (c.fact 11)
  m_range := He.free_ok X G (c.fact 12)
  m_sorted := He.free_ok X G (c.fact 13)
  m_sum := He.free_ok X G (c.fact 14)
  e_NoWeights := exc_at X G hz (c.fact 15) (c.fact 16)
  e_ToldError := exc_at X G hz (c.fact 17) (c.fact 18)
  x_NoWeights_NoWeights := exm_at hz (c.fact 19)
  x_NoWeights_ToldError := exm_at hz (c.fact 20)
  k_NoWeights := by rw [hz]; exact flK_ex nl (by decide)
/-- the law keeps its statement if its plain function tells True -/
theorem holds (plain : ∀ ns : List Int, ns.length ≤ 63 → ∃ cs, f_law_k05 [] [.scr ns] = .ok (.dat (.bl true)) cs) : PySem.Challenge.rw_yearshare_k05_whole_amounts_dealt.Holds := by
  w_on; o_law
  refine HandSHeadRun.head_any (r := PySem.W.OpenLaw.row PySem.Challenge.rw_yearshare_k05_whole_amounts_dealt) (q := PySem.W.view (PySem.W.OpenLaw.row PySem.Challenge.rw_yearshare_k05_whole_amounts_dealt).prog [12]) (H := hk) (ob := ob) (M := 4000) (loose := loose) (d := HandSHeadRun.topDef (PySem.W.OpenLaw.row PySem.Challenge.rw_yearshare_k05_whole_amounts_dealt).prog 12) (kwd := []) ob_eq
    (by kernel_rfl) (fun s => by kernel_rfl) run (by kernel_rfl) (by kernel_rfl) (by kernel_rfl) (by rfl) (by first | assumption | decide +kernel) (by decide +kernel) ⟨rfl, rfl, rfl, rfl, rfl, by decide +kernel⟩ ?hw ?hc
  case hw => w_witness2
  case hc =>
    refine sx_walkT (l := PySem.Challenge.rw_yearshare_k05_whole_amounts_dealt) (n := 63) (k := 6) (x := "script") (F := f_law_k05) (tf := (["dealt"] : List PySem.Str)) rfl (by decide) (by kernel_rfl) ⟨rfl, by decide, by decide⟩ ?F plain
    intro w mg fa h Y G hmg0
    obtain ⟨K, KX, sx⟩ := Y
    have c := sx.t.d
    have nl := sx.more
    have hmg : mg ("law" : PySem.Str) = some (.ref fa) := by
      have e : (HandSHeadRun.topDef (PySem.W.OpenLaw.row PySem.Challenge.rw_yearshare_k05_whole_amounts_dealt).prog 12).name = ("law" : PySem.Str) := by kernel_rfl
      rw [← e]
      exact hmg0
    obtain ⟨fd, F⟩ := fun_of c 6 (x := "law") (st := st_law_k05) rfl
    have e := hmg.symm.trans (He.glo_ok KX G (c.fact 6 (f := .glo "law") rfl))
    cases e
    exact ⟨K, fd, ⟨K, He.ga K, tabsOf K (["dealt"] : List PySem.Str)⟩, KX, rfl, flK_nl nl, fun p hp => sx.hd _ (List.mem_map.mpr ⟨p, hp, rfl⟩), fun p hp => sx.out _ (List.mem_map.mpr ⟨p, hp, rfl⟩), fun p hp => sx.empty _ (List.mem_map.mpr ⟨p, hp, rfl⟩), binds1 F (fun _ _ _ _ _ _ us hl => match us, hl with | [_], _ => rfl), fun base _ _ tb => law_fn (T := ⟨_, w, K, mg, base, ⟨K, He.ga K, tabsOf K (["dealt"] : List PySem.Str)⟩⟩) (bs_of (T := ⟨_, w, K, mg, base, ⟨K, He.ga K, tabsOf K (["dealt"] : List PySem.Str)⟩⟩) KX G c nl rfl rfl tb) F⟩
end Sx.Lk05

theorem PySem.Challenge.cw_yearshare_k05_whole_amounts_dealt_holds : PySem.Challenge.rw_yearshare_k05_whole_amounts_dealt.Holds := by
  exact Sx.Lk05.holds Sx.plain_k05
