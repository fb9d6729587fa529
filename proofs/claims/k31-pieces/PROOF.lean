import PyProof.Rows.All
import Wide.All
import OpenK.AllK
import Wide.FinOn
import KE.KStateDown
import Lean
import HandS.Base
import HandS.Call
import HandS.Ends
import HandS.List
import HandS.Comp
import HandS.Dict
import HandS.Iter
import HandS.More
import HandS.Conv
import HandS.Words
import HandS.WordsExc
import HandS.WordsList
import HandS.Defaults
import HandS.Walk
import HandS.Zip
import HandS.IsInst
import HandS.TupAny
import HandS.Style
import HandS.Star
import HandS.CallLocal
import HandS.DictComp
import HandS.Deep
import HandS.HeadHook1
import HandS.HeadHook2
import KE.KDictList
import KE.KDictCopyH
import KE.GoesEnum
import KE.GoesZip
import KE.GoesMore
import KE.KDictZip
import HandS.ListItems
import KE.KDictDisplayH
import HandS.Flow
import HandS.Strs
import HandS.TupLen
import PySem.Challenge.RW_coverhall_k31_pieces_of_what_is_paid
import HandS.HeadEnd
import HandS.Head0
import HandS.Head1
import HandS.Head2
set_option Elab.async false
set_option linter.all false
set_option maxRecDepth 100000
set_option maxHeartbeats 4000000
/-! Kit1: data on the heap that never changes (Im), orders of heaps (Same, Off), what is asked of them. -/
namespace G
open PySem PySem.Spec PyProof.Rows L2
abbrev D := PyData

/-! ### orders of heaps -/
theorem same_new {H : Hp} {p : Addr} {o : HO} (h : H p = none) : Same H (upd H p o) := fun a u e => by
  rw [upd_ne (ne_of_none e h)]
  exact e
theorem same_mut {H H' : Hp} {p : Addr} {o : HO} (e : Same H H') (h : H p = none) : Same H (upd H' p o) := fun a u ha => by
  rw [upd_ne (ne_of_none ha h)]
  exact e a u ha
/-- what stands of values that may not change -/
structure Mo (H H' : Hp) : Prop where
  tup : ∀ a xs, H a = some (.tup xs) → H' a = some (.tup xs)
  lst : ∀ a xs, H a = some (.lst xs) → ∃ ys, H' a = some (.lst ys)
  dct : ∀ a kvs, H a = some (.dK kvs) → ∃ ks, H' a = some (.dK ks)
theorem Mo.refl (H : Hp) : Mo H H := ⟨fun _ _ h => h, fun _ _ h => ⟨_, h⟩, fun _ _ h => ⟨_, h⟩⟩
theorem Mo.trans {H H1 H2 : Hp} (a : Mo H H1) (b : Mo H1 H2) : Mo H H2 :=
  ⟨fun x xs h => b.tup x xs (a.tup x xs h), fun x xs h => let ⟨_, h1⟩ := a.lst x xs h; b.lst x _ h1, fun x xs h => let ⟨_, h1⟩ := a.dct x xs h; b.dct x _ h1⟩
theorem mo_same {H H' : Hp} (e : Same H H') : Mo H H' := ⟨fun _ _ h => e _ _ h, fun _ _ h => ⟨_, e _ _ h⟩, fun _ _ h => ⟨_, e _ _ h⟩⟩

/-! ### data that never changes; a list or dict in it is told as such alone -/
mutual
inductive Im (H : Hp) : V → D → Prop
  | non : Im H .non .none
  | bl (b : Bool) : Im H (.bl b) (.bool b)
  | int (i : Int) : Im H (.int i) (.int i)
  | str (x : Str) : Im H (.str x) (.str x)
  | tup {a : Addr} {xs : List V} {ds : List D} : H a = some (.tup xs) → ImA H xs ds → Im H (.ref a) (.tuple ds)
  | lst {a : Addr} {xs : List V} : H a = some (.lst xs) → Im H (.ref a) (.list [])
  | dct {a : Addr} {kvs : List (Key × V)} : H a = some (.dK kvs) → Im H (.ref a) (.dict [])
inductive ImA (H : Hp) : List V → List D → Prop
  | nil : ImA H [] []
  | cons {v : V} {vs : List V} {d : D} {ds : List D} : Im H v d → ImA H vs ds → ImA H (v :: vs) (d :: ds)
end
mutual
theorem Im.mo {H H' : Hp} (m : Mo H H') : ∀ {d : D} {v : V}, Im H v d → Im H' v d
  | _, _, .non => .non
  | _, _, .bl b => .bl b
  | _, _, .int i => .int i
  | _, _, .str x => .str x
  | _, _, .tup h r => .tup (m.tup _ _ h) (ImA.mo m r)
  | _, _, .lst h => let ⟨_, h1⟩ := m.lst _ _ h; .lst h1
  | _, _, .dct h => let ⟨_, h1⟩ := m.dct _ _ h; .dct h1
theorem ImA.mo {H H' : Hp} (m : Mo H H') : ∀ {ds : List D} {vs : List V}, ImA H vs ds → ImA H' vs ds
  | _, _, .nil => .nil
  | _, _, .cons a b => .cons (Im.mo m a) (ImA.mo m b)
end
theorem Im.same {H H' : Hp} {d : D} {v : V} (e : Same H H') (h : Im H v d) : Im H' v d := h.mo (mo_same e)
theorem ImA.same {H H' : Hp} {ds : List D} {vs : List V} (e : Same H H') (h : ImA H vs ds) : ImA H' vs ds := h.mo (mo_same e)
theorem ImA.length : ∀ {H : Hp} {vs : List V} {ds : List D}, ImA H vs ds → vs.length = ds.length
  | _, _, _, .nil => rfl
  | _, _, _, .cons _ t => by rw [List.length_cons, List.length_cons, ImA.length t]
theorem ImA.get : ∀ {H : Hp} {vs : List V} {ds : List D}, ImA H vs ds → ∀ {i : Nat} {v : V}, vs[i]? = some v → ∃ d, ds[i]? = some d ∧ Im H v d
  | _, _, _, .nil, _, _, e => by simp at e
  | _, _, _, .cons r _, 0, _, e => by simp at e; subst e; exact ⟨_, rfl, r⟩
  | _, _, _, .cons _ t, i + 1, v, e => by
    obtain ⟨d, h1, h2⟩ := ImA.get t (i := i) (v := v) (by simpa using e)
    exact ⟨d, by simpa using h1, h2⟩
theorem ImA.getD : ∀ {H : Hp} {vs : List V} {ds : List D}, ImA H vs ds → ∀ {i : Nat} {d : D}, ds[i]? = some d → ∃ v, vs[i]? = some v ∧ Im H v d
  | _, _, _, .nil, _, _, e => by simp at e
  | _, _, _, .cons r _, 0, _, e => by simp at e; subst e; exact ⟨_, rfl, r⟩
  | _, _, _, .cons _ t, i + 1, v, e => by
    obtain ⟨d, h1, h2⟩ := ImA.getD t (i := i) (d := v) (by simpa using e)
    exact ⟨d, by simpa using h1, h2⟩
theorem ImA.append : ∀ {H : Hp} {vs ws : List V} {ds es : List D}, ImA H vs ds → ImA H ws es → ImA H (vs ++ ws) (ds ++ es)
  | _, _, _, _, _, .nil, s => s
  | _, _, _, _, _, .cons r t, s => .cons r (ImA.append t s)
theorem ImA.snoc {H : Hp} {vs : List V} {ds : List D} {v : V} {d : D} (a : ImA H vs ds) (b : Im H v d) : ImA H (vs ++ [v]) (ds ++ [d]) := a.append (.cons b .nil)
theorem ImA.take : ∀ {H : Hp} {vs : List V} {ds : List D} (n : Nat), ImA H vs ds → ImA H (vs.take n) (ds.take n)
  | _, _, _, 0, _ => .nil
  | _, _, _, _ + 1, .nil => .nil
  | _, _, _, n + 1, .cons r t => .cons r (ImA.take n t)
theorem ImA.drop : ∀ {H : Hp} {vs : List V} {ds : List D} (n : Nat), ImA H vs ds → ImA H (vs.drop n) (ds.drop n)
  | _, _, _, 0, r => r
  | _, _, _, _ + 1, .nil => .nil
  | _, _, _, n + 1, .cons _ t => ImA.drop n t
theorem ImA.reverse : ∀ {H : Hp} {vs : List V} {ds : List D}, ImA H vs ds → ImA H vs.reverse ds.reverse
  | _, _, _, .nil => .nil
  | _, _, _, .cons r t => by
    rw [List.reverse_cons, List.reverse_cons]
    exact t.reverse.snoc r
theorem ImA.ints {H : Hp} : ∀ (ns : List Int), ImA H (ns.map V.int) (ns.map PyData.int)
  | [] => .nil
  | _ :: r => .cons (.int _) (ImA.ints r)
theorem ImA.of_ints {H : Hp} : ∀ {ns : List Int} {vs : List V}, ImA H vs (ns.map PyData.int) → vs = ns.map V.int
  | [], _, .nil => rfl
  | _ :: r, _, .cons h t => by
    cases h
    rw [ImA.of_ints (ns := r) t]
    rfl

/-! ### what a value is -/
def isI : D → Bool | .int _ => true | .bool _ => true | _ => false
def isB : D → Bool | .bool _ => true | _ => false
def isT : D → Bool | .tuple _ => true | _ => false
def isL : D → Bool | .list _ => true | _ => false
def isS : D → Bool | .str _ => true | _ => false
def isD : D → Bool | .dict _ => true | _ => false
def tyN : D → String
  | .none => "NoneType" | .bool _ => "bool" | .int _ => "int" | .str _ => "str" | .list _ => "list" | .tuple _ => "tuple" | .dict _ => "dict"
theorem Im.tyX {K : PySem.W.Frag} {H : Hp} {v : V} {d : D} (h : Im H v d) : TyX K H v (.type (tyN d)) := by
  cases h with
  | non => exact .base .non
  | bl b => exact .base (.bl b)
  | int i => exact .base (.int i)
  | str x => exact .base (.str x)
  | tup h _ => exact .base (.tup h)
  | lst h => exact .base (.lst h)
  | dct h => exact .base (.dK h)
/-- isinstance(x, T) of data -/
theorem isi {K : PySem.W.Frag} {H : Hp} {v : V} {d : D} {T : String} {b : Bool} {Q : VK} (h : Im H v d) (e : kitB (tyN d) T = some b) (q : Q (.bl b) H) : rIsi K [v, .ty T] H Q :=
  ⟨v, .ty T, _, _, b, rfl, .ty T, h.tyX, kit_ty e, q⟩
theorem ktI : ∀ d : D, kitB (tyN d) "int" = some (isI d)
  | .none => by show kitB "NoneType" "int" = some false; decide +kernel
  | .bool _ => by show kitB "bool" "int" = some true; decide +kernel
  | .int _ => by show kitB "int" "int" = some true; decide +kernel
  | .str _ => by show kitB "str" "int" = some false; decide +kernel
  | .list _ => by show kitB "list" "int" = some false; decide +kernel
  | .tuple _ => by show kitB "tuple" "int" = some false; decide +kernel
  | .dict _ => by show kitB "dict" "int" = some false; decide +kernel
theorem ktB : ∀ d : D, kitB (tyN d) "bool" = some (isB d)
  | .none => by show kitB "NoneType" "bool" = some false; decide +kernel
  | .bool _ => by show kitB "bool" "bool" = some true; decide +kernel
  | .int _ => by show kitB "int" "bool" = some false; decide +kernel
  | .str _ => by show kitB "str" "bool" = some false; decide +kernel
  | .list _ => by show kitB "list" "bool" = some false; decide +kernel
  | .tuple _ => by show kitB "tuple" "bool" = some false; decide +kernel
  | .dict _ => by show kitB "dict" "bool" = some false; decide +kernel
theorem ktT : ∀ d : D, kitB (tyN d) "tuple" = some (isT d)
  | .none => by show kitB "NoneType" "tuple" = some false; decide +kernel
  | .bool _ => by show kitB "bool" "tuple" = some false; decide +kernel
  | .int _ => by show kitB "int" "tuple" = some false; decide +kernel
  | .str _ => by show kitB "str" "tuple" = some false; decide +kernel
  | .list _ => by show kitB "list" "tuple" = some false; decide +kernel
  | .tuple _ => by show kitB "tuple" "tuple" = some true; decide +kernel
  | .dict _ => by show kitB "dict" "tuple" = some false; decide +kernel
theorem ktL : ∀ d : D, kitB (tyN d) "list" = some (isL d)
  | .none => by show kitB "NoneType" "list" = some false; decide +kernel
  | .bool _ => by show kitB "bool" "list" = some false; decide +kernel
  | .int _ => by show kitB "int" "list" = some false; decide +kernel
  | .str _ => by show kitB "str" "list" = some false; decide +kernel
  | .list _ => by show kitB "list" "list" = some true; decide +kernel
  | .tuple _ => by show kitB "tuple" "list" = some false; decide +kernel
  | .dict _ => by show kitB "dict" "list" = some false; decide +kernel
theorem ktS : ∀ d : D, kitB (tyN d) "str" = some (isS d)
  | .none => by show kitB "NoneType" "str" = some false; decide +kernel
  | .bool _ => by show kitB "bool" "str" = some false; decide +kernel
  | .int _ => by show kitB "int" "str" = some false; decide +kernel
  | .str _ => by show kitB "str" "str" = some true; decide +kernel
  | .list _ => by show kitB "list" "str" = some false; decide +kernel
  | .tuple _ => by show kitB "tuple" "str" = some false; decide +kernel
  | .dict _ => by show kitB "dict" "str" = some false; decide +kernel
theorem ktD : ∀ d : D, kitB (tyN d) "dict" = some (isD d)
  | .none => by show kitB "NoneType" "dict" = some false; decide +kernel
  | .bool _ => by show kitB "bool" "dict" = some false; decide +kernel
  | .int _ => by show kitB "int" "dict" = some false; decide +kernel
  | .str _ => by show kitB "str" "dict" = some false; decide +kernel
  | .list _ => by show kitB "list" "dict" = some false; decide +kernel
  | .tuple _ => by show kitB "tuple" "dict" = some false; decide +kernel
  | .dict _ => by show kitB "dict" "dict" = some true; decide +kernel
theorem isiI {K : PySem.W.Frag} {H : Hp} {v : V} {d : D} {Q : VK} (h : Im H v d) (q : Q (.bl (isI d)) H) : rIsi K [v, .ty "int"] H Q := isi h (ktI d) q
theorem isiB {K : PySem.W.Frag} {H : Hp} {v : V} {d : D} {Q : VK} (h : Im H v d) (q : Q (.bl (isB d)) H) : rIsi K [v, .ty "bool"] H Q := isi h (ktB d) q
theorem isiT {K : PySem.W.Frag} {H : Hp} {v : V} {d : D} {Q : VK} (h : Im H v d) (q : Q (.bl (isT d)) H) : rIsi K [v, .ty "tuple"] H Q := isi h (ktT d) q
theorem isiL {K : PySem.W.Frag} {H : Hp} {v : V} {d : D} {Q : VK} (h : Im H v d) (q : Q (.bl (isL d)) H) : rIsi K [v, .ty "list"] H Q := isi h (ktL d) q
theorem isiS {K : PySem.W.Frag} {H : Hp} {v : V} {d : D} {Q : VK} (h : Im H v d) (q : Q (.bl (isS d)) H) : rIsi K [v, .ty "str"] H Q := isi h (ktS d) q
theorem isiD {K : PySem.W.Frag} {H : Hp} {v : V} {d : D} {Q : VK} (h : Im H v d) (q : Q (.bl (isD d)) H) : rIsi K [v, .ty "dict"] H Q := isi h (ktD d) q
end G
/-! Kit2: a def that stands behind the top, with its promise (Has); its call; lists stored by place. -/
namespace G
open PySem PySem.Spec PyProof.Rows L2

/-- the def st stands behind the top under the name x -/
structure At (K : PySem.W.Frag) (mg : Str → Option Value) (x : Str) (st : Stmt) (f : Addr) (fd : FuncData) : Prop where
  fd : FunD K x x (defArgs st) (defBody st) (defScope st) [] [] f fd
  mg : mg x = some (.ref f)
/-- the module's name x is a def with parameters ps that keeps the promise sp -/
structure Has (P : Program) (w : World) (K : PySem.W.Frag) (mg : Str → Option Value) (base : Heap) (k : Nat) (x : Str) (ps : List Str) (sp : Sp) : Prop where
  ex : ∃ (f : Addr) (fd : FuncData), mg x = some (.ref f) ∧ PySem.W.keepIn K (.ref f) = true ∧ Binds K fd ps [] ∧ FnOk P w K mg base CX0 k f fd ps sp
section
variable {P : Program} {w : World} {K : PySem.W.Frag} {mg : Str → Option Value} {base : Heap}
theorem Has.mono {j k : Nat} {x : Str} {ps : List Str} {sp : Sp} (h : Has P w K mg base j x ps sp) (l : j ≤ k) : Has P w K mg base k x ps sp := by
  obtain ⟨f, fd, a, b, c, d⟩ := h.ex
  exact ⟨f, fd, a, b, c, d.mono l⟩
/-- THE RULE of a def -/
theorem mkHas {x : Str} {st : Stmt} {N ps : List Str} {k : Nat} {sp : Sp} (F : ∃ f fd, At K mg x st f fd) (S : FnScope N ps (defScope st))
    (bd : ∀ (kV doc pm : Value) (an : Option Addr) (cdv ct : Value) (us : List Value), us.length = ps.length → bindArgs (PySem.W.fnOf x x (defArgs st) (defBody st) (defScope st) .none kV doc pm an cdv ct) ⟨us, []⟩ = pure (ps.zip us))
    (len : ∀ vs H Q E, sp vs H Q E → vs.length = ps.length)
    (hbody : ∀ (f : Addr) (cdv : Value) (A : Around) (outer : List Env) (s : Shared) (H : Hp) (vs : List V) (Q : VK) (E : XK), Room k (A.deeper (envOfC x (defScope st) s.heap.objs.size f cdv)) → sp vs H Q E →
      ∃ t, PSs (cxOf CX0 P w K mg base N x (defScope st) f cdv A outer s H E).nox (defBody st) t ∧ t { nx := fun _ H' => Q .non H', rt := Q } (start N vs) H) : Has P w K mg base (k + 1) x ps sp := by
  obtain ⟨f, fd, F, m⟩ := F
  refine ⟨f, fd, m, F.kp, F.bindsN bd, F.ok S len fun cdv A outer s H vs Q E hr hsp => ?_⟩
  obtain ⟨t, h, q⟩ := hbody f cdv A outer s H vs Q E hr hsp
  exact ⟨t, h.nox, q⟩
end
section
variable {X : Cx} {k j : Nat} {x : Str} {ps : List Str} {sp : Sp} {p pos : Pos} {e : Expr} {es : List Expr} {t : TA}
/-- f(e, ..): what the callee promises -/
def tFn (sp : Sp) (t : TA) : TE := fun σ H Q => t σ H fun vs H1 => sp vs H1 Q E0
theorem pe_fn (c : Has X.prog X.w X.K X.mg X.base k x ps sp) (hr : Room j X.A) (hg : Gl X x) (ha : PA X (e :: es) t) (hk : k ≤ j := by decide)
    (hdb : (x == ("__debug__" : Str)) = false := by decide) (he : starEach (e :: es) X.env = (false, eval e X.env) :: starEach es X.env := by rfl) (hpl : (backTo pos (starEach es X.env)).any (·.1) = false := by rfl) :
    PE X (.Call (.Name x p) (e :: es) [] pos) (tFn sp t) := by
  obtain ⟨f, fd, hm, kp, b, F⟩ := c.ex
  refine ⟨fun pins s σ H Q I h => (pe_call F (hr.mono hk) hg hm kp b .nil pass0 ha hdb he hpl).run pins s σ H Q I ?_⟩
  have e0 : (fun (vs : List V) (H1 : Hp) => sp (vs ++ []) H1 Q E0) = fun vs H1 => sp vs H1 Q E0 := by
    funext vs H1
    rw [List.append_nil]
  show t σ H (fun vs H1 => sp (vs ++ []) H1 Q E0)
  rw [e0]
  exact h
end
end G
/-! Rules1: rules that the layer lacks: a list's item read and stored by op=, a dict's store as a target, t[::-1]. -/
namespace G
open PySem PySem.Spec PyProof.Rows L2
section
variable {X : Cx}
/-- xs[i], as the first half of xs[i] op= e -/
theorem get_list : PGet X (rIxL X.K) := by
  intro pins s σ H o i ov iv Q I ro ri h
  obtain ⟨p, xs, k, z, rfl, rfl, hq, he, q⟩ := h
  cases ro
  obtain ⟨t, rfl⟩ := ri
  obtain ⟨its, r, pl, hz⟩ := I.list hq
  obtain ⟨j, h1, h2, h3, h4, h5⟩ := atI_get he
  obtain ⟨w, ew, rw'⟩ := r.get h2
  have hl := r.length
  have hn := line63
  have fin : EP X pins σ Q w s := ⟨z, H, I, rw', q⟩
  by_cases h0 : 0 ≤ k
  · have hj : k.toNat = j := by
      rw [seqIndex_of h0 h5] at h1
      exact Option.some.inj h1
    exact wpAny_getItem_list pl.isList h0 (by omega) (by rw [hj]; simpa using ew) fin
  · have hj : (k + (its.toArray.size : Int)).toNat = j := by
      rw [seqIndex_neg (by omega) h4] at h1
      rw [List.size_toArray, ← hl]
      exact Option.some.inj h1
    exact wpAny_getItem_list_neg pl.isList (by omega) (by rw [List.size_toArray] <;> omega) (by omega) (by rw [hj]; simpa using ew) fin
/-- d[k] = v, as one of several targets -/
def rSetD : V → V → V → Hp → (Hp → Prop) → Prop := fun o i v H Q => ∃ a H', o = .ref a ∧ DPut H a i v H' ∧ Q H'
theorem set_dict (hu : X.A.units + 1 < cLine) : PSet X rSetD := by
  intro pins s σ H o i v ov iv u Q I ro ri rv h
  obtain ⟨a, H', rfl, g, q⟩ := h
  cases ro
  exact d_setItem hu I g ri rv fun s' I' => ⟨H', I', q⟩
end
section
variable {prog : Program} {w : World} {A : Around} {E : Value → Shared → Prop} {s : Shared}
theorem rev_adjust (n : Nat) : Builtin.Slice.sliceAdjust none none (-1) (n : Int) = ((n : Int) - 1, -1) := by
  unfold Builtin.Slice.sliceAdjust
  simp
theorem rev_places (n : Nat) : Builtin.Slice.slicePlaces ((n : Int) - 1) (-1) (-1) = n := by
  unfold Builtin.Slice.slicePlaces
  simp only [show ¬ ((-1 : Int) > 0) by decide, if_false, show (- -1 : Int) = 1 by decide, Int.ediv_one]
  split <;> omega
theorem fm_congr {α β : Type} {f g : α → Option β} : ∀ {l : List α}, (∀ x ∈ l, f x = g x) → l.filterMap f = l.filterMap g
  | [], _ => rfl
  | a :: r, h => by
    rw [List.filterMap_cons, List.filterMap_cons, h a List.mem_cons_self, fm_congr fun x hx => h x (List.mem_cons_of_mem _ hx)]
theorem sliceApplied_rev {sl : Addr} {vk : Value} {n : Nat} {Q : Int × Int × Nat → Shared → Prop} (hs : s.heap.IsSliceOf sl .none .none vk) (pk : IsPart vk (some (-1)))
    (h : Q ((n : Int) - 1, -1, n) s) : wpAny (model prog w) A (Builtin.Slice.sliceApplied (.ref sl) (pure (n : Int))) Q E s := by
  obtain ⟨os, hos, hcs, hds⟩ := id hs
  unfold Builtin.Slice.sliceApplied Builtin.Slice.sliceFields
  refine wpAny_bind (wpAny_bind (wpAny_field hos hds (x := .none) rfl (wpAny_bind (wpAny_field hos hds (x := .none) rfl (wpAny_bind (wpAny_field hos hds (x := vk) rfl (wpAny_pure ?_)))))))
  refine wpAny_bind (HT.slicePart_ pk ?_)
  show wpAny _ _ (if ((-1 : Int) == 0) = true then _ else _) _ _ s
  rw [if_neg (by decide)]
  refine wpAny_bind (HT.slicePart_ .none (wpAny_bind (HT.slicePart_ .none (wpAny_bind (wpAny_pure ?_)))))
  show wpAny _ _ (match Builtin.Slice.sliceAdjust none none (-1) (n : Int) with | (lo, hi) => pure (lo, (-1 : Int), Builtin.Slice.slicePlaces lo hi (-1))) _ _ s
  rw [rev_adjust n]
  show wpAny _ _ (pure ((n : Int) - 1, (-1 : Int), Builtin.Slice.slicePlaces ((n : Int) - 1) (-1) (-1))) _ _ s
  rw [rev_places]
  exact wpAny_pure h
theorem pick_rev (xs : Array Value) : ((List.range xs.size).filterMap fun (m : Nat) => xs[(((xs.size : Int) - 1) + (m : Int) * (-1)).toNat]?).toArray = xs.toList.reverse.toArray := by
  have e : ((List.range xs.size).filterMap fun (m : Nat) => xs[(((xs.size : Int) - 1) + (m : Int) * (-1)).toNat]?) = (List.range xs.size).reverse.filterMap (xs[·]?) := by
    rw [← PySem.W.krv_range, List.filterMap_map]
    refine fm_congr fun k hk => ?_
    have hk := List.mem_range.mp hk
    show _ = xs[xs.size - 1 - k]?
    have : (((xs.size : Int) - 1) + (k : Int) * (-1)).toNat = xs.size - 1 - k := by omega
    rw [this]
  rw [e, List.filterMap_reverse, PySem.W.krv_all]
theorem getItem_tuple_rev {t sl : Addr} {items : Array Value} {vk : Value} {Q : Value → Shared → Prop} (ht : IsTup s.heap t items) (hs : s.heap.IsSliceOf sl .none .none vk) (pk : IsPart vk (some (-1)))
    (h : Q (.ref s.heap.objs.size) { s with heap := s.heap.push { cls := .type "tuple", data := .seq items.toList.reverse.toArray } })
    (hsz : items.size ≤ sizeLine) : wpAny (model prog w) A (getItem (.ref t) (.ref sl)) Q E s := by
  have htake : sizeOk (.seq items.toList.reverse.toArray) := by
    show items.toList.reverse.toArray.size ≤ sizeLine
    rw [List.size_toArray, List.length_reverse, Array.length_toList]
    exact hsz
  obtain ⟨os, hos, hcs, hds⟩ := id hs
  have hTs : s.TypeIs (.ref sl) "slice" := ⟨os, hos, hcs⟩
  unfold getItem
  try with_reducible refine wpAny_holding ?_
  first | refine wpAny_bind (wpAny_pure ?_) | skip
  refine wpAny_bind (wpAny_sequenceKey ht.typeIs (by decide) ?_)
  refine wpAny_bind (wpAny_callSpecial?_slot (name := Str.ofString "__getitem__") ht.typeIs PyProof.Rows.slot_tuple_getitem
    (wpAny_call_entry PyProof.Rows.slot_tuple_getitem ht.typeIs entry_tuple_getitem ?_ (args_tuple_getitem _ _)))
  show wpAny _ _ (Builtin.Tuple.tupleItemsOf (.ref t) >>= _) _ _ s
  refine wpAny_bind (tupleItemsOf_ ht ?_)
  refine wpAny_bind (wpAny_typeOf hTs ?_)
  rw [if_pos (by decide)]
  refine wpAny_bind (sliceApplied_rev hs pk ?_)
  show wpAny _ _ (if ((((items.size : Int) - 1) == 0) && (-1 : Int) == 1 && items.size == items.size) = true then _ else _) _ _ s
  rw [if_neg (by simp), pick_rev]
  first
    | exact wpAny_bind (m := Builtin.Tuple.tupleExact _) (wpAny_newObj_type (wpAny_pure ⟨_, rfl, wpAny_pure h⟩) htake)
    | exact wpAny_bind (m := Builtin.Tuple.tupleExact _) (wpAny_newObj_type (wpAny_bind (wpAny_pure (wpAny_pure ⟨_, rfl, wpAny_pure h⟩))) htake)
    | exact wpAny_bind (wpAny_bind (m := Builtin.Tuple.tupleExact _) (wpAny_newObj_type (wpAny_pure (wpAny_pure ⟨_, rfl, wpAny_pure h⟩)) htake))
    | exact wpAny_bind (wpAny_bind (m := Builtin.Tuple.tupleExact _) (wpAny_newObj_type (wpAny_pure ⟨_, rfl, wpAny_pure h⟩) htake))
end
section
variable {X : Cx}
/-- t[::-1] -/
def tRevT (K : PySem.W.Frag) (te : TE) : TE := fun σ H Q => te σ H fun x H1 => ∃ a xs, x = .ref a ∧ SqT K H1 a xs ∧ ∀ p, H1 p = none → Q (.ref p) (upd H1 p (.tup xs.reverse))
theorem pe_revT {e : Expr} {te : TE} {k : Nat} {p1 p2 p3 pos : Pos} (he : PE X e te) : PE X (.Subscript e (.Slice none none (some (.UnaryOp .USub (.Constant (.int 1) k p1) p2)) p3) pos) (tRevT X.K te) := by
  refine ⟨fun pins s σ H Q I h => ?_⟩
  refine Subscript_ (thn (he.run pins s σ H _ I h) fun v s1 ⟨x, H1, I1, r1, q1⟩ => ?_)
  obtain ⟨a, xs, ex, hx, q⟩ := q1
  subst ex
  cases r1
  have hst : PO X (some (.UnaryOp .USub (.Constant (.int 1) k p1) p2)) (tPart (tUn (rU fun i => .int (-i)) (tC (.int 1)))) := po_some (pe_un un_neg pe_int)
  refine wpAny_Slice (thn (po_none.run pins s1 σ H1 (fun o H2 => o = none ∧ H2 = H1) I1 ⟨rfl, rfl⟩) fun vl s2 ⟨l, H2, I2, pl, el, e2⟩ => ?_)
  subst el e2
  refine thn (po_none.run pins s2 σ H2 (fun o H3 => o = none ∧ H3 = H2) I2 ⟨rfl, rfl⟩) fun vu s3 ⟨u, H3, I3, pu, eu, e3⟩ => ?_
  subst eu e3
  refine thn (hst.run pins s3 σ H3 (fun o H4 => o = some (-1) ∧ H4 = H3) I3 ⟨1, rfl, -1, rfl, rfl, rfl⟩) fun vs s4 ⟨o, H4, I4, ps, eo, e4⟩ => ?_
  subst eo e4
  have I5 : Inv X pins σ H4 { s4 with heap := s4.heap.push { cls := .type "slice", data := .fields #[vl, vu, vs] } } := I4.kept (t' := s4.toks) fun b ob q => Heap.get?_push_of_some _ q
  obtain ⟨its, r, ht, hz⟩ := I5.tuple hx
  have hlen := r.length
  cases pl
  cases pu
  show wpAny (model X.prog X.w) X.A (subscriptTail e (.Slice none none (some (.UnaryOp .USub (.Constant (.int 1) k p1) p2)) p3) (.ref a) (.ref s4.heap.objs.size)) (EP X pins σ Q) X.xe { s4 with heap := s4.heap.push { cls := .type "slice", data := .fields #[.none, .none, vs] } }
  refine tail_any (ops := [.ref a, .ref s4.heap.objs.size]) ht.typeIs (PyProof.Rows.slot_tuple_getitem.lookup) ?_ (by with_unfolding_all rfl)
  refine getItem_tuple_rev ht (Heap.IsSliceOf.new _ .none .none vs) ps ?_ (by rw [List.size_toArray]; omega)
  refine ⟨.ref _, _, I5.laid (t' := s4.toks) (o := .tup xs.reverse) (fun b ob q => Heap.get?_push_of_some _ q) (Nat.le_refl _) ?_, rfl, q _ (I5.hok.fresh (Nat.le_refl _))⟩
  exact ⟨by rw [List.length_reverse]; exact hz, its.reverse, r.reverse, IsTup.new _ _⟩
end
end G
/-! Rules2: tuple(d), tuple(d.values()) of a dict with int and text keys. -/
namespace G
open PySem PySem.Spec PyProof.Rows L2
section
variable {prog : Program} {w : World} {A : Around} {E : Value → Shared → Prop} {s : Shared} {T : String} {r d : Addr} {n : Nat} {P : Nat → Value → Prop} {OK : Heap → Prop}
theorem kdl_collect {Q : List Value → Shared → Prop} (K : PySem.W.KdlSrc prog w T r d n P OK) (hh : A.handled = none) (hok : OK s.heap) (hn : n ≤ sizeLine)
    (hQ : ∀ (h' : Heap) (tk : Nat) (acc : Array Value), (∀ b o, s.heap.get? b = some o → h'.get? b = some o) → ItemsOf P acc n → Q acc.toList { s with heap := h', toks := tk }) :
    wpAny (model prog w) A (collect (.ref r)) Q E s := by
  have hlt := K.there _ hok
  unfold collect
  refine wpAny_bind (wpAny_runValue (codeAny_builtin F.entry_proto_collect ?_))
  rw [Around.under_plainId F.plain_proto_collect _]
  show wpAny _ A.in1 (newList [] >>= fun l => again (.builtin "list.__iadd__" ⟨[l, .ref r], []⟩)) _ _ s
  refine wpAny_bind (wpAny_newObj_type ?_)
  refine wpAny_pure ⟨plainId_quiet F.plain_list_iadd _, codeAny_builtin F.entry_list_iadd ?_⟩
  rw [Around.under_plainId F.plain_list_iadd _]
  show wpAny _ A.in1 (Builtin.List.listExtendWith (.ref s.heap.objs.size) (.ref r) (.ref s.heap.objs.size)) _ _ _
  have hS : (s.heap.push { cls := .type "list", data := .seq ([] : List Value).toArray }).get? s.heap.objs.size = some { cls := .type "list", data := .seq #[] 0 } := Heap.get?_push_size _ rfl
  refine wpAny_mono (PySem.W.kdl_extend (A := A) (R := fun rr s' => rr = .ok (.ret (.ref s.heap.objs.size)) ∧ ∃ (h' : Heap) (tk : Nat) (acc : Array Value) (c' : Nat), s' = { s with heap := h', toks := tk } ∧
      (∀ b o, s.heap.get? b = some o → h'.get? b = some o) ∧ h'.get? s.heap.objs.size = some { cls := .type "list", dict := none, data := .seq acc c', slots := #[] } ∧ ItemsOf P acc n)
    (s := { s with heap := s.heap.push { cls := .type "list", data := .seq ([] : List Value).toArray } }) K hh (K.keep _ _ hok fun b _ o e => Heap.get?_push_of_some _ e) s.heap.objs.size (Nat.ne_of_gt hlt.1) (Nat.ne_of_gt hlt.2) (.ref s.heap.objs.size) 0 hS
    (fun h' tk acc c' hk e hi => ⟨rfl, h', tk, acc, c', rfl, fun b o q => hk b o (Nat.ne_of_lt (Heap.lt_size q)) (Heap.get?_push_of_some _ q), e, hi⟩) hn) (fun fin s' h => ?_) (fun e s' h => ?_)
  · cases fin with
    | done f =>
      obtain ⟨e, h', tk, acc, c', rfl, hk, hS', hi⟩ := h
      cases e
      show wpAny _ A (load s.heap.objs.size >>= _) _ _ _
      exact wpAny_bind (wpAny_load hS' (wpAny_pure (hQ h' tk acc hk hi)))
    | again c' =>
      refine ⟨h.1, codeAny_mono h.2 fun rr s'' hr' => ?_⟩
      obtain ⟨rfl, h', tk, acc, c', rfl, hk, hS', hi⟩ := hr'
      show wpAny _ A (load s.heap.objs.size >>= _) _ _ _
      exact wpAny_bind (wpAny_load hS' (wpAny_pure (hQ h' tk acc hk hi)))
  · exact absurd h.1 (by simp)
end
section
variable {prog : Program} {w : World} {A : Around} {E : Value → Shared → Prop} {s : Shared} {r d : Addr} {n : Nat} {P : Nat → Value → Prop} {OK : Heap → Prop}
theorem code_tuple_new_vals {Q₁ : Value → Shared → Prop} (K : PySem.W.KdlSrc prog w "dict_values" r d n P OK) (hh : A.handled = none) (hok : OK s.heap) (hn : n ≤ sizeLine)
    (h : ∀ (h' : Heap) (tk : Nat) (acc : Array Value), (∀ b o, s.heap.get? b = some o → h'.get? b = some o) → ItemsOf P acc n →
      Q₁ (.ref h'.objs.size) { s with heap := h'.push { cls := .type "tuple", data := .seq acc }, toks := tk }) :
    codeAny (model prog w) A (.call (.builtin "tuple.__new__") ⟨[.type "tuple", .ref r], []⟩) (wants Q₁ E) s := by
  refine codeAny_of_tree ?_
  show wpAny _ A.in1 (do checkBuiltinCall "tuple.__new__" ⟨[.type "tuple", .ref r], []⟩; again (.builtin "tuple.__new__" ⟨[.type "tuple", .ref r], []⟩)) _ _ s
  refine wpAny_bind (wpAny_of_eq (F.newCall_tuple_1 _) (wpAny_pure ⟨plainId_quiet F.plain_tuple_new _, codeAny_builtin F.entry_tuple_new ?_⟩))
  rw [Around.under_plainId F.plain_tuple_new _]
  have hsub := sub_tuple_self
  have hinit := init_tuple_lookup
  have hmh := madeHere_tuple
  have hTI : s.TypeIs (.ref r) "dict_values" := K.type s hok
  have hh1 : A.in1.handled = none := hh
  wp_walk using wpAny_typeOf hTI, kdl_collect (A := A.in1) K hh1 hok hn
  intro h' tk acc hk hacc
  show wpAny _ _ (Builtin.Tuple.tupleExact acc.toList.toArray >>= fun v => ret v) _ _ _
  unfold Builtin.Tuple.tupleExact
  refine wpAny_bind (wpAny_newObj_type ?_ (by show acc.toList.toArray.size ≤ sizeLine; simp only [Array.toArray_toList]; rw [hacc.1]; exact hn))
  refine wpAny_pure ?_
  have e : acc.toList.toArray = acc := by simp
  rw [e]
  exact h h' tk acc hk hacc
theorem code_tuple_new_dict {Q₁ : Value → Shared → Prop} (K : PySem.W.KdlSrc prog w "dict" r d n P OK) (hh : A.handled = none) (hok : OK s.heap) (hn : n ≤ sizeLine)
    (h : ∀ (h' : Heap) (tk : Nat) (acc : Array Value), (∀ b o, s.heap.get? b = some o → h'.get? b = some o) → ItemsOf P acc n →
      Q₁ (.ref h'.objs.size) { s with heap := h'.push { cls := .type "tuple", data := .seq acc }, toks := tk }) :
    codeAny (model prog w) A (.call (.builtin "tuple.__new__") ⟨[.type "tuple", .ref r], []⟩) (wants Q₁ E) s := by
  refine codeAny_of_tree ?_
  show wpAny _ A.in1 (do checkBuiltinCall "tuple.__new__" ⟨[.type "tuple", .ref r], []⟩; again (.builtin "tuple.__new__" ⟨[.type "tuple", .ref r], []⟩)) _ _ s
  refine wpAny_bind (wpAny_of_eq (F.newCall_tuple_1 _) (wpAny_pure ⟨plainId_quiet F.plain_tuple_new _, codeAny_builtin F.entry_tuple_new ?_⟩))
  rw [Around.under_plainId F.plain_tuple_new _]
  have hsub := sub_tuple_self
  have hinit := init_tuple_lookup
  have hmh := madeHere_tuple
  have hTI : s.TypeIs (.ref r) "dict" := K.type s hok
  have hh1 : A.in1.handled = none := hh
  wp_walk using wpAny_typeOf hTI, kdl_collect (A := A.in1) K hh1 hok hn
  intro h' tk acc hk hacc
  show wpAny _ _ (Builtin.Tuple.tupleExact acc.toList.toArray >>= fun v => ret v) _ _ _
  unfold Builtin.Tuple.tupleExact
  refine wpAny_bind (wpAny_newObj_type ?_ (by show acc.toList.toArray.size ≤ sizeLine; simp only [Array.toArray_toList]; rw [hacc.1]; exact hn))
  refine wpAny_pure ?_
  have e : acc.toList.toArray = acc := by simp
  rw [e]
  exact h h' tk acc hk hacc
theorem call_tuple_by {Q : Value → Shared → Prop}
    (c : ∀ {Q₁ : Value → Shared → Prop}, (∀ (h' : Heap) (tk : Nat) (acc : Array Value), (∀ b o, s.heap.get? b = some o → h'.get? b = some o) → ItemsOf P acc n →
      Q₁ (.ref h'.objs.size) { s with heap := h'.push { cls := .type "tuple", data := .seq acc }, toks := tk }) → codeAny (model prog w) A.in1 (.call (.builtin "tuple.__new__") ⟨[.type "tuple", .ref r], []⟩) (wants Q₁ E) s)
    (hQ : ∀ (h' : Heap) (tk : Nat) (acc : Array Value), (∀ b o, s.heap.get? b = some o → h'.get? b = some o) → ItemsOf P acc n →
      Q (.ref h'.objs.size) { s with heap := h'.push { cls := .type "tuple", data := .seq acc }, toks := tk }) :
    wpAny (model prog w) A (call (.type "tuple") [.ref r]) Q E s := by
  refine callType_codes (Q₁ := fun obj s₁ => s₁.TypeIs obj "tuple" ∧ Q obj s₁) F.called_tuple (F.typeCall_tuple_1 _) F.entry_object_init
    (c fun h' tk acc hk hacc => ⟨⟨_, Heap.get?_push_size _ rfl, rfl⟩, hQ h' tk acc hk hacc⟩) fun obj s₁ h₁ => ?_
  exact ⟨h₁.1, F.args_object_init_2 obj _, object_init_meets F.called_tuple.init.lookup F.called_tuple.made (by decide) prog w A.in1 _ s₁ ⟨h₁.1, rfl, h₁.2⟩⟩
end
section
variable {X : Cx} {e : Expr} {te : TE} {p apos cpos pos : Pos}
/-- tuple(d): its keys -/
def rTupD : List V → Hp → VK → Prop := fun xs H Q => ∃ (d : Addr) (kvs : List (Key × V)), xs = [.ref d] ∧ H d = some (.dK kvs) ∧ ∀ q, H q = none → Q (.ref q) (upd H q (.tup (kvs.map fun kv => kV kv.1)))
theorem call_tupD (hc : X.calm = true) : CallR X (.type "tuple") rTupD := by
  intro pins s σ H xs us Q I r h
  obtain ⟨d, kvs, rfl, hd, q⟩ := h
  obtain ⟨u, rfl, ru⟩ := vals1 r
  obtain rfl : u = .ref d := ru
  obtain ⟨hz, hs0, vs, kv, hdo⟩ := I.hok d _ hd
  obtain ⟨ep, hat⟩ := hdo.dictAt
  have lk : kvs.length = vs.length := Paired.length kv
  have K := PySem.W.kdl_dict (prog := X.prog) (w := X.w) (knd := mixKind X.prog X.w) (d := d) (kvs := vs) (ep := ep) hs0
  refine call_tuple_by (fun {Q₁} h1 => code_tuple_new_dict K (I.ok.hd hc) hat (by omega) h1) fun h' tk acc hk hacc => ?_
  have I1 : Inv X pins σ H { s with heap := h', toks := tk } := I.kept (t' := tk) hk
  have vals : Vals (kvs.map fun kv => kV kv.1) acc.toList := by
    refine vals_of_at (by rw [List.length_map, lk, Array.length_toList]; exact hacc.1.symm) fun j x u e1 e2 => ?_
    rw [List.getElem?_map] at e1
    obtain ⟨k, y, f1, f2⟩ := hacc.2 j u (by rw [← Array.getElem?_toList]; exact e2)
    cases e3 : kvs[j]? with
    | none => rw [e3] at e1; cases e1
    | some kv0 =>
      rw [e3] at e1
      obtain ⟨u', g1, g2, _⟩ := (paired_get kv e3)
      rw [f1] at g1
      cases g1
      have e4 : kV kv0.1 = x := Option.some.inj e1
      rw [← e4, g2]
      exact relV_key f2
  have hz2 : (kvs.map fun kv => kV kv.1).length ≤ sizeLine := by rw [List.length_map]; exact hz
  refine ⟨.ref h'.objs.size, _, I1.laid (t' := tk) (o := .tup (kvs.map fun kv => kV kv.1)) (fun b ob q => Heap.get?_push_of_some _ q) (Nat.le_refl _) ⟨hz2, acc.toList, vals, ?_⟩, rfl, q _ (I1.hok.fresh (Nat.le_refl _))⟩
  have e : acc.toList.toArray = acc := by simp
  rw [e]
  exact IsTup.new _ _
/-- tuple(e.values()) -/
def tTupVals (te : TE) : TE := fun σ H Q => te σ H fun x H1 => ∃ (d : Addr) (kvs : List (Key × V)), x = .ref d ∧ H1 d = some (.dK kvs) ∧ ∀ q, H1 q = none → Q (.ref q) (upd H1 q (.tup (kvs.map fun kv => kv.2)))
theorem pe_tupVals (hc : X.calm = true) (he : PE X e te) (hg : Gl X "tuple") (hm : X.mg "tuple" = none) (hv : bootBuiltins "tuple" = some (.type "tuple")) (hbase : attributeBase e "values" X.env (eval e X.env) = eval e X.env := by rfl) (hline : (apos.endLine == cpos.line) = true := by rfl)
    (hs : starEach [.Call (.Attribute e "values" apos) [] [] cpos] X.env = (false, eval (.Call (.Attribute e "values" apos) [] [] cpos) X.env) :: starEach [] X.env := by rfl) :
    PE X (.Call (.Name "tuple" p) [.Call (.Attribute e "values" apos) [] [] cpos] [] pos) (tTupVals te) := by
  refine ⟨fun pins s σ H Q I hq => ?_⟩
  refine wpAny_Call_Name_kw (ld_blt I hg hm hv ?_)
  refine PyProof.Rows.callWith_type1 ?_ hs rfl
  rw [hs]
  show wpAny _ _ (spliced ((false, eval (.Call (.Attribute e "values" apos) [] [] cpos) X.env) :: backTo pos (starEach [] X.env))) _ _ s
  refine Calls.spliced_cons ?_
  refine wpAny_Call_method (T := "dict") (id := "dict.values") hbase rfl hline F.plainAttrs_dict F.slot_dict_values F.type_dict_values (thn (he.run pins s σ H _ I hq) fun u s1 ⟨x, H1, I1, rx, d, kvs, ex, hd, q⟩ => ?_)
  subst ex
  obtain rfl : u = Value.ref d := rx
  obtain ⟨hz, hs0, vs, kv, hdo⟩ := I1.hok d _ hd
  obtain ⟨ep, hat⟩ := hdo.dictAt
  have lk : kvs.length = vs.length := Paired.length kv
  have I2 : Inv X pins σ H1 { s1 with heap := s1.heap.push { cls := .type "dict_values", data := .fields #[.ref d] } } := I1.kept (t' := s1.toks) fun b ob q => Heap.get?_push_of_some _ q
  refine ⟨hdo.typeIs, hdo.mapOf.noDict, ?_⟩
  show wpAny _ _ (callWith cpos (.builtin "dict.values") [.ref d] [] []) _ X.xe s1
  refine method_meetsIn F.slot_dict_values F.entry_dict_values rfl (PySem.evalArgs_none ⟨rfl, hdo.typeIs, F.args_dict_values_1 _, _, meets_dict_values (mixKind X.prog X.w) d hs0, ⟨vs, hdo⟩, ?_⟩)
  refine Calls.spliced_nil ?_
  have K := PySem.W.kdl_values (prog := X.prog) (w := X.w) (knd := mixKind X.prog X.w) (r := s1.heap.objs.size) (d := d) (kvs := vs) (ep := ep)
  refine call_tuple_by (fun {Q₁} h1 => code_tuple_new_vals K (I2.ok.hd hc) ⟨⟨_, Heap.get?_push_size _ rfl, rfl, rfl⟩, hat.push _⟩ (by omega) h1) fun h' tk acc hk hacc => ?_
  have I3 : Inv X pins σ H1 { s1 with heap := h', toks := tk } := I2.kept (t' := tk) hk
  have vals : Vals (kvs.map fun kv => kv.2) acc.toList := by
    refine vals_of_at (by rw [List.length_map, lk, Array.length_toList]; exact hacc.1.symm) fun j x u e1 e2 => ?_
    rw [List.getElem?_map] at e1
    obtain ⟨k, f1⟩ := hacc.2 j u (by rw [← Array.getElem?_toList]; exact e2)
    cases e3 : kvs[j]? with
    | none => rw [e3] at e1; cases e1
    | some kv0 =>
      rw [e3] at e1
      obtain ⟨u', g1, g2, g3⟩ := (paired_get kv e3)
      rw [f1] at g1
      cases g1
      have e4 : kv0.2 = x := Option.some.inj e1
      rw [← e4]
      exact g3
  have hz2 : (kvs.map fun kv => kv.2).length ≤ sizeLine := by rw [List.length_map]; exact hz
  refine ⟨.ref h'.objs.size, _, I3.laid (t' := tk) (o := .tup (kvs.map fun kv => kv.2)) (fun b ob q => Heap.get?_push_of_some _ q) (Nat.le_refl _) ⟨hz2, acc.toList, vals, ?_⟩, rfl, q _ (I3.hok.fresh (Nat.le_refl _))⟩
  have e : acc.toList.toArray = acc := by simp
  rw [e]
  exact IsTup.new _ _
end
end G
/-! Rules3: walks of zip and of enumerate over lists and tuples in any mix. -/
namespace G
open PySem PySem.Spec PyProof.Rows L2
/-! ### a list (false) or a tuple (true) -/
def IsIt : Bool → Heap → Addr → Addr → Nat → Prop
  | true, h, it, a, i => h.IsTupleIter it a i
  | false, h, it, a, i => h.IsListIter it a i
def IsSq : Bool → Heap → Addr → Array Value → Prop
  | true, h, a, its => h.IsTuple a its
  | false, h, a, its => h.IsList a its
def itOb : Bool → Addr → Obj
  | true, a => { cls := .type "tuple_iterator", data := .fields #[.ref a, .int 0 0] }
  | false, a => { cls := .type "list_iterator", data := .fields #[.ref a, .int 0 0] }
def Sq : Bool → PySem.W.Frag → Hp → Addr → List V → Prop
  | true, K, H, a, xs => SqT K H a xs
  | false, K, H, a, xs => SqL K H a xs
theorem IsIt.at {t : Bool} {h h' : Heap} {it a : Addr} {i : Nat} (x : IsIt t h it a i) (k : ∀ o, h.get? it = some o → h'.get? it = some o) : IsIt t h' it a i := by
  cases t
  · exact Heap.IsListIter.at x k
  · exact Heap.IsTupleIter.at x k
theorem IsIt.ob {t : Bool} {h : Heap} {it a : Addr} {i : Nat} (x : IsIt t h it a i) : ∃ o, h.get? it = some o ∧ ∀ v, o.data ≠ .cell v := by
  cases t
  · obtain ⟨o, e, _, d⟩ := x
    exact ⟨o, e, fun v z => by rw [d] at z; cases z⟩
  · obtain ⟨o, e, _, d⟩ := x
    exact ⟨o, e, fun v z => by rw [d] at z; cases z⟩
theorem isIt_new {t : Bool} {h : Heap} {it a : Addr} (e : h.get? it = some (itOb t a)) : IsIt t h it a 0 := by
  cases t
  · exact ⟨_, e, rfl, rfl⟩
  · exact ⟨_, e, rfl, rfl⟩
theorem draws {prog : Program} {w : World} {A : Around} (t : Bool) (hh : A.handled = none) (it a : Addr) (hne : a ≠ it) (items : Array Value) :
    Draws prog w A it [it, a] items.size (fun i v => items[i]? = some v) (fun i h => IsIt t h it a i ∧ IsSq t h a items) := by
  cases t
  · exact Draws.list hh it a hne items
  · exact Draws.tuple hh it a hne items
theorem begins (t : Bool) (a : Addr) (items : Array Value) : Begins (.ref a) (itOb t a) (fun h => IsSq t h a items) := by
  cases t
  · exact begins_list a items
  · exact begins_tuple a items
theorem IsSq.lt {t : Bool} {h : Heap} {a : Addr} {its : Array Value} (x : IsSq t h a its) : a < h.objs.size := by
  cases t
  · obtain ⟨o, e, _⟩ := x
    exact Heap.lt_size e
  · obtain ⟨o, e, _⟩ := x
    exact Heap.lt_size e
section
variable {X : Cx} {pins : List (Addr × Obj)} {σ : L2.St} {H : Hp} {s : Shared} {a : Addr} {xs ys : List V}
theorem inv_sq {t : Bool} (I : Inv X pins σ H s) (h : Sq t X.K H a xs) : ∃ its : List Value, Vals xs its ∧ IsSq t s.heap a its.toArray ∧ xs.length ≤ sizeLine := by
  cases t
  · obtain ⟨its, r, p, z⟩ := I.list h
    exact ⟨its, r, p.isList, z⟩
  · obtain ⟨its, r, p, z⟩ := I.tuple h
    exact ⟨its, r, (show s.heap.IsTuple a its.toArray from p), z⟩
theorem inv_sq_inj {t : Bool} (I : Inv X pins σ H s) (h : Sq t X.K H a xs) (h' : Sq t X.K H a ys) : xs = ys := by
  cases t
  · exact I.list_inj h h'
  · exact I.tuple_inj h h'
end
theorem vals_got {xs : List V} {us : List Value} {i : Nat} {u : Value} (r : Vals xs us) (e : us[i]? = some u) : ∃ x, xs[i]? = some x ∧ RelV x u := by
  have hi : i < us.length := (List.getElem?_eq_some_iff.mp e).1
  have hx : i < xs.length := by rw [r.length]; exact hi
  obtain ⟨u', h1, h2⟩ := r.get (i := i) (x := xs[i]) (by simp [hx])
  rw [e] at h1
  cases h1
  exact ⟨xs[i], by simp [hx], h2⟩

/-! ### zip -/
def ItzM (K : PySem.W.Frag) (t1 t2 : Bool) (a b : Addr) : It :=
  ⟨fun i H => ∃ (xs ys : List V) (x y : V), Sq t1 K H a xs ∧ Sq t2 K H b ys ∧ xs[i]? = some x ∧ ys[i]? = some y,
    fun i H v H' => ∃ T x y, v = .ref T ∧ H T = none ∧ H' = upd H T (.tup [x, y]) ∧ (∀ xs, Sq t1 K H a xs → xs[i]? = some x) ∧ ∀ ys, Sq t2 K H b ys → ys[i]? = some y,
    fun i H => ∃ xs ys : List V, Sq t1 K H a xs ∧ Sq t2 K H b ys ∧ i ≤ xs.length ∧ i ≤ ys.length ∧ (i = xs.length ∨ i = ys.length)⟩
theorem turn_zipM {P : Program} {w : World} {K : PySem.W.Frag} {elts : List Expr} {kk : Nat} {tpos : Pos} {t1 t2 : Bool} {a b z TI TO i1 i2 : Addr} (D : ZipSep2 z TI TO i1 i2 [i1, a] [i2, b]) (ne1 : a ≠ i1) (ne2 : b ≠ i2) :
    Turn P w K (.Tuple elts kk tpos) (ItzM K t1 t2 a b) [z, TI, TO, i1, i2] z (fun i h => IsZip h z TI TO .none ∧ IsTupOf2 h TI (.ref i1) (.ref i2) ∧ (∃ x y, IsTupOf2 h TO x y) ∧ IsIt t1 h i1 a i ∧ IsIt t2 h i2 b i) where
  mem := by simp
  obj := fun i h st c hc => by
    obtain ⟨hz, hTI, ⟨x, y, hTO⟩, h1, h2⟩ := st
    have e' : c = z ∨ c = TI ∨ c = TO ∨ c = i1 ∨ c = i2 := by simpa using hc
    rcases e' with q | q | q | q | q
    · rw [q]; exact ⟨_, hz, fun v q => nomatch q⟩
    · rw [q]; exact ⟨_, hTI, fun v q => nomatch q⟩
    · rw [q]; exact ⟨_, hTO, fun v q => nomatch q⟩
    · rw [q]; exact h1.ob
    · rw [q]; exact h2.ob
  keep := fun i h h' st k => by
    obtain ⟨hz, hTI, ⟨x, y, hTO⟩, h1, h2⟩ := st
    exact ⟨k z (by simp) _ hz, k TI (by simp) _ hTI, ⟨x, y, k TO (by simp) _ hTO⟩, h1.at fun o q => k i1 (by simp) o q, h2.at fun o q => k i2 (by simp) o q⟩
  item := by
    intro X hP hw hK hc i pins s σ H E I hf st hg
    subst hP hw hK
    obtain ⟨hz, hTI, ⟨x0, y0, hTO⟩, h1, h2⟩ := st
    obtain ⟨xs, ys, x, y, hqx, hqy, hx, hy⟩ := hg
    obtain ⟨its, rv, p, _⟩ := inv_sq I hqx
    obtain ⟨its2, rv2, p2, _⟩ := inv_sq I hqy
    have l1 := rv.length
    have l2 := rv2.length
    have hx1 := (List.getElem?_eq_some_iff.mp hx).1
    have hy1 := (List.getElem?_eq_some_iff.mp hy).1
    have hzl : z < s.heap.objs.size := Heap.lt_size hz
    have hh : X.A.in1.handled = none := I.ok.hd hc
    refine wpAny_pyNext_zipD2_item D (draws t1 hh i1 a ne1 its.toArray) (draws t2 hh i2 b ne2 its2.toArray) hz hTI hTO ⟨h1, p⟩ ⟨h2, p2⟩ (by simp; omega) (by simp; omega) fun u u2 h' tk hu hu2 z' TO' h1' h2' hT hsz hk => ?_
    obtain ⟨x', hx', ru⟩ := vals_got rv (show its[i]? = some u by simpa using hu)
    obtain ⟨y', hy', ru2⟩ := vals_got rv2 (show its2[i]? = some u2 by simpa using hu2)
    rw [hx] at hx'
    rw [hy] at hy'
    cases hx'
    cases hy'
    refine ⟨_, rfl, wpAny_letOwnedTupleGo_zip (s := { s with heap := h', toks := tk }) z' fun h'' z'' sb => ?_⟩
    have hT2 : h''.get? s.heap.objs.size = some { cls := .type "tuple", data := .seq #[u, u2] } := (sb.2 _ (Nat.ne_of_gt hzl)).trans hT
    have new : ObjOk X.prog X.w (upd H s.heap.objs.size (.tup [x, y])) h'' s.heap.objs.size (.tup [x, y]) :=
      ⟨by show 2 ≤ sizeLine; decide, [u, u2], .cons ru (.cons ru2 .nil), ⟨_, hT2, rfl, _, rfl⟩⟩
    have I1 : Inv X pins σ (upd H s.heap.objs.size (.tup [x, y])) { s with heap := h'', toks := tk } :=
      I.turnedNew (t' := tk) (ch := [z, TI, TO, i1, i2]) (fun c o hb q => (sb.2 c (fun q' => hb (by simp [q']))).trans (hk c o (fun q' => hb (by simp [q'])) (fun q' => hb (by simp [q'])) (fun q' => hb (by simp [q'])) (fun q' => hb (by simp [q'])) q)) hf (Nat.le_refl _) new
    refine ⟨.ref s.heap.objs.size, _, I1, rfl, ⟨_, x, y, rfl, I.hok.fresh (Nat.le_refl _), rfl, fun l hl => by rw [inv_sq_inj I hl hqx]; exact hx, fun l hl => by rw [inv_sq_inj I hl hqy]; exact hy⟩, ⟨z'', ?_, ⟨u, u2, ?_⟩, ?_, ?_⟩, fun c hcm => ?_⟩
    · exact (sb.2 _ D.TIz).trans (hk _ _ D.TIz D.TITO D.TIi1 D.TIi2 hTI)
    · exact (sb.2 _ D.TOz).trans TO'
    · exact h1'.1.at fun o q => (sb.2 _ D.zi1.symm).trans q
    · exact h2'.1.at fun o q => (sb.2 _ D.zi2.symm).trans q
    · have hlt : c < s.heap.objs.size := by
        have e' : c = z ∨ c = TI ∨ c = TO ∨ c = i1 ∨ c = i2 := by simpa using hcm
        rcases e' with q | q | q | q | q
        · rw [q]; exact hzl
        · rw [q]; exact Heap.lt_size hTI
        · rw [q]; exact Heap.lt_size hTO
        · rw [q]; obtain ⟨_, e1, _⟩ := h1.ob; exact Heap.lt_size e1
        · rw [q]; obtain ⟨_, e2, _⟩ := h2.ob; exact Heap.lt_size e2
      rw [upd_ne (Nat.ne_of_lt hlt)]
      exact (hf c hcm).1
  done := by
    intro X hP hw hK hc i pins s σ H E I hf st hg
    subst hP hw hK
    obtain ⟨hz, hTI, ⟨x0, y0, hTO⟩, h1, h2⟩ := st
    obtain ⟨xs, ys, hqx, hqy, hi1, hi2, hend⟩ := hg
    obtain ⟨its, rv, p, _⟩ := inv_sq I hqx
    obtain ⟨its2, rv2, p2, _⟩ := inv_sq I hqy
    have l1 := rv.length
    have l2 := rv2.length
    have hh : X.A.in1.handled = none := I.ok.hd hc
    refine wpAny_pyNext_zipD2_end D (draws t1 hh i1 a ne1 its.toArray) (draws t2 hh i2 b ne2 its2.toArray) hz hTI hTO ⟨h1, p⟩ ⟨h2, p2⟩ (by simp; omega) (by simp; omega) (by simp; omega) fun h' tk hk => ⟨rfl, I.turnedL (t' := tk) (ch := [z, TI, TO, i1, i2]) (fun c o hb q =>
      hk c o (fun q' => hb (by simp [q'])) (fun q' => hb (by simp [q'])) (fun q' => hb (by simp [q'])) (fun q' => hb (by simp [q'])) q) hf⟩
  self := fun A i s Q E st h => wpAny_pyIter_zip st.1 h
def iZipM (K : PySem.W.Frag) (t1 t2 : Bool) (ta : TA) : TI := fun σ H R => ta σ H fun vs H1 => ∃ a b xs ys, vs = [.ref a, .ref b] ∧ Sq t1 K H1 a xs ∧ Sq t2 K H1 b ys ∧ R (ItzM K t1 t2 a b) H1
theorem pi_zipM (t1 t2 : Bool) {X : Cx} {e e2 : Expr} {ta : TA} {p pos tpos : Pos} {elts : List Expr} {kk : Nat} (hg : Gl X "zip") (hm : X.mg "zip" = none) (ha : PA X [e, e2] ta)
    (hs : starEach [e, e2] X.env = (false, eval e X.env) :: starEach [e2] X.env := by rfl) (hpl : (backTo pos (starEach [e2] X.env)).any (·.1) = false := by rfl) :
    PI X (.Tuple elts kk tpos) (.Call (.Name "zip" p) [e, e2] [] pos) (iZipM X.K t1 t2 ta) := by
  refine ⟨fun pins s σ H R I h => ?_⟩
  refine Call_ (ld_blt I hg hm PyProof.Rows.boot_zip (PyProof.Rows.callWith_type1 (thn (ha.run pos pins s σ H _ I h) fun us s1 ⟨vs, H1, I1, r1, q1⟩ => ?_) hs hpl))
  obtain ⟨a, b, xs, ys, ex, hqx, hqy, q⟩ := q1
  subst ex
  cases r1 with
  | cons r rr =>
    cases rr with
    | cons r' rr =>
      cases rr
      cases r
      cases r'
      have fresh5 : ∀ c, c ∈ [s1.heap.objs.size + 4, s1.heap.objs.size + 2, s1.heap.objs.size + 3, s1.heap.objs.size, s1.heap.objs.size + 1] → FpOk X pins H1 c := fun c hcm => by
        have e' : c = s1.heap.objs.size + 4 ∨ c = s1.heap.objs.size + 2 ∨ c = s1.heap.objs.size + 3 ∨ c = s1.heap.objs.size ∨ c = s1.heap.objs.size + 1 := by simpa using hcm
        have hle : s1.heap.objs.size ≤ c := by
          rcases e' with z | z | z | z | z
          · rw [z]; exact Nat.le_add_right _ _
          · rw [z]; exact Nat.le_add_right _ _
          · rw [z]; exact Nat.le_add_right _ _
          · rw [z]; exact Nat.le_refl _
          · rw [z]; exact Nat.le_add_right _ _
        exact I1.fpOk hle (I1.hok.fresh hle)
      obtain ⟨its, rv, p1, _⟩ := inv_sq I1 hqx
      obtain ⟨its2, rv2, p2, _⟩ := inv_sq I1 hqy
      refine zip_begins2 (begins t1 a its.toArray) (begins t2 b its2.toArray) p1 p2 fun h' hz hTI hTO h1 h2 hsz hk => wpAny_pyIter_zip hz ?_
      have I2 : Inv X pins σ H1 { s1 with heap := h' } := I1.kept (t' := s1.toks) hk
      exact ⟨s1.heap.objs.size + 4, [s1.heap.objs.size + 4, s1.heap.objs.size + 2, s1.heap.objs.size + 3, s1.heap.objs.size, s1.heap.objs.size + 1], _, _, H1, rfl, I2,
        turn_zipM (t1 := t1) (t2 := t2) (zip_sep2 (N := s1.heap.objs.size) (fp1 := [a]) (fp2 := [b]) (fun c hc => by rw [List.mem_singleton.mp hc]; exact p1.lt) (fun c hc => by rw [List.mem_singleton.mp hc]; exact p2.lt)) (Nat.ne_of_lt p1.lt) (Nat.ne_of_lt (Nat.lt_succ_of_lt p2.lt)), ⟨hz, hTI, ⟨_, _, hTO⟩, isIt_new h1, isIt_new h2⟩, fresh5, q⟩
theorem walk_zipM {K : PySem.W.Frag} {t1 t2 : Bool} {a b : Addr} {xs ys : List V} {n : Nat} (hn : n = min xs.length ys.length) : Walk (ItzM K t1 t2 a b) n (fun H => Sq t1 K H a xs ∧ Sq t2 K H b ys) (YPair (fun i => xs[i]?) (fun i => ys[i]?)) := by
  subst hn
  refine ⟨fun i _ hi q => ?_, fun _ q => ⟨xs, ys, q.1, q.2, by omega, by omega, by omega⟩, fun i H v H' _ q y => ?_⟩
  · have h1 : i < xs.length := by omega
    have h2 : i < ys.length := by omega
    exact ⟨xs, ys, xs[i], ys[i], q.1, q.2, by simp [h1], by simp [h2]⟩
  · obtain ⟨T, x, z, h1, h2, h3, h4, h5⟩ := y
    exact ⟨T, x, z, h1, h2, h3, h4 xs q.1, h5 ys q.2⟩
end G
/-! Rules4: list(zip(a, b)), a and b lists or tuples. -/
namespace G
open PySem PySem.Spec PyProof.Rows L2 PySem.W
section
variable {prog : Program} {w : World} {A : Around} {E : Value → Shared → Prop} {s : Shared} {z TI TO T i1 i2 : Addr} {fp1 fp2 : List Addr} {n1 n2 i : Nat} {P1 P2 : Nat → Value → Prop} {St1 St2 : Nat → Heap → Prop} {f : Bool} {oT : Obj}
theorem zipH_item {Q : Value → Shared → Prop} (S : ZipSep2 z TI TO i1 i2 fp1 fp2) (D1 : Draws prog w A i1 fp1 n1 P1 St1) (D2 : Draws prog w A i2 fp2 n2 P2 St2)
    (hz : IsZipHeld s.heap z TI TO T f) (hT : s.heap.get? T = some oT) (hTI : IsTupOf2 s.heap TI (.ref i1) (.ref i2)) (st1 : St1 i s.heap) (st2 : St2 i s.heap) (hlt1 : i < n1) (hlt2 : i < n2)
    (hQ : ∀ x1 x2 h' tk, P1 i x1 → P2 i x2 → IsZipHeld h' z TI TO T true → St1 (i + 1) h' → St2 (i + 1) h' → IsTupOf2 h' s.heap.objs.size x1 x2 → h'.objs.size = s.heap.objs.size + 1 →
      (∀ c o, c ≠ z → c ≠ i1 → c ≠ i2 → s.heap.get? c = some o → h'.get? c = some o) → Q (.ref s.heap.objs.size) { s with heap := h', toks := tk }) :
    wpAny (model prog w) A (Builtin.«zip.__next__» ⟨[.ref z], []⟩) (fun fin s' => ∃ v, fin = .done (.ret v) ∧ Q v s') E s := by
  obtain ⟨hp, g, d, tk0, os⟩ := s
  show wpAny _ _ (field (.ref z) 2 >>= _) _ _ _
  refine wpAny_bind (wpAny_field hz rfl (x := .bool false) rfl ?_)
  show wpAny _ _ (field (.ref z) 3 >>= _) _ _ _
  refine wpAny_bind (wpAny_field hz rfl (x := .ref TI) rfl ?_)
  refine wpAny_bind (wpAny_seqItems hTI rfl ?_)
  show wpAny _ _ (Builtin.SmallTypes.ownedTupleIsFree (.ref z) >>= _) _ _ _
  refine wpAny_bind (wpAny_tupleHeld_zip hz hT fun g0 hz0 hs0 => ?_)
  replace hs0 : Heap.SameBut z hp g0 := hs0
  simp only [Bool.false_eq_true, if_false]
  refine wpAny_bind ?_
  rw [← Array.forIn_toList]
  simp only [List.forIn_cons, List.forIn_nil]
  refine wpAny_bind (wpAny_bind (wpAny_holding ?_))
  show wpAny _ _ (Builtin.SmallTypes.nextOf (.ref i1) >>= _) _ _ ⟨g0, g, d, tk0, os⟩
  refine wpAny_bind (D1.item i _ _ _ hlt1 (D1.over st1 hs0 S.zf1) fun x1 p1 tk1 hx1 sn1 hp1 => wpAny_pure ?_)
  replace hp1 : Heap.SameBut i1 g0 p1 := hp1
  refine wpAny_pure ?_
  refine wpAny_bind (wpAny_bind (wpAny_holding ?_))
  show wpAny _ _ (Builtin.SmallTypes.nextOf (.ref i2) >>= _) _ _ ⟨p1, g, d, tk1, os⟩
  refine wpAny_bind (D2.item i _ _ _ hlt2 (D2.over (D2.over st2 hs0 S.zf2) hp1 S.sep1_2) fun x2 p2 tk2 hx2 sn2 hp2 => wpAny_pure ?_)
  replace hp2 : Heap.SameBut i2 p1 p2 := hp2
  refine wpAny_pure (wpAny_pure ?_)
  show wpAny _ _ (newTuple [x1, x2] >>= _) _ _ _
  refine wpAny_bind (wpAny_newTuple ?_)
  have hsz : p2.objs.size = hp.objs.size := by rw [hp2.1, hp1.1, hs0.1]
  have hz₃ : IsZipHeld p2 z TI TO T true := hp2.extBut _ _ S.zi2 (hp1.extBut _ _ S.zi1 hz0)
  have hk : ∀ c o, c ≠ z → c ≠ i1 → c ≠ i2 → hp.get? c = some o → p2.get? c = some o := fun c o c1 c2 c3 e => hp2.extBut _ _ c3 (hp1.extBut _ _ c2 (hs0.extBut _ _ c1 e))
  have hj1 : St1 (i + 1) p2 := D1.over sn1 hp2 S.sep2_1
  refine wpAny_pure ⟨_, rfl, ?_⟩
  show Q (.ref p2.objs.size) _
  have hpr : IsTupOf2 (p2.push { cls := .type "tuple", data := .seq #[x1, x2] }) p2.objs.size x1 x2 := Heap.get?_push_size _ rfl
  have hz4 : (p2.push { cls := .type "tuple", data := .seq #[x1, x2] }).objs.size = p2.objs.size + 1 := Heap.size_push ..
  rw [hsz] at hpr hz4 ⊢
  exact hQ x1 x2 _ tk2 hx1 hx2 (Heap.get?_push_of_some _ hz₃) (D1.frame _ _ _ hj1 fun b _ o e => Heap.get?_push_of_some _ e) (D2.frame _ _ _ sn2 fun b _ o e => Heap.get?_push_of_some _ e) hpr hz4 fun c o c1 c2 c3 e => Heap.get?_push_of_some _ (hk c o c1 c2 c3 e)
theorem zipH_end {Q : Fin → Shared → Prop} (S : ZipSep2 z TI TO i1 i2 fp1 fp2) (D1 : Draws prog w A i1 fp1 n1 P1 St1) (D2 : Draws prog w A i2 fp2 n2 P2 St2)
    (hz : IsZipHeld s.heap z TI TO T f) (hT : s.heap.get? T = some oT) (hTI : IsTupOf2 s.heap TI (.ref i1) (.ref i2)) (st1 : St1 i s.heap) (st2 : St2 i s.heap) (hle1 : i ≤ n1) (hle2 : i ≤ n2) (hend : i = n1 ∨ i = n2)
    (hE : ∀ h' tk e, (∀ c o, c ≠ z → c ≠ i1 → c ≠ i2 → s.heap.get? c = some o → h'.get? c = some o) → (∃ o, h'.get? e = some o ∧ o.cls = .type "StopIteration") → E (.ref e) { s with heap := h', toks := tk }) :
    wpAny (model prog w) A (Builtin.«zip.__next__» ⟨[.ref z], []⟩) Q E s := by
  obtain ⟨hp, g, d, tk0, os⟩ := s
  show wpAny _ _ (field (.ref z) 2 >>= _) _ _ _
  refine wpAny_bind (wpAny_field hz rfl (x := .bool false) rfl ?_)
  show wpAny _ _ (field (.ref z) 3 >>= _) _ _ _
  refine wpAny_bind (wpAny_field hz rfl (x := .ref TI) rfl ?_)
  refine wpAny_bind (wpAny_seqItems hTI rfl ?_)
  show wpAny _ _ (Builtin.SmallTypes.ownedTupleIsFree (.ref z) >>= _) _ _ _
  refine wpAny_bind (wpAny_tupleHeld_zip hz hT fun g0 hz0 hs0 => ?_)
  replace hs0 : Heap.SameBut z hp g0 := hs0
  simp only [Bool.false_eq_true, if_false]
  refine wpAny_bind ?_
  rw [← Array.forIn_toList]
  simp only [List.forIn_cons, List.forIn_nil]
  refine wpAny_bind (wpAny_bind (wpAny_holding ?_))
  show wpAny _ _ (Builtin.SmallTypes.nextOf (.ref i1) >>= _) _ _ ⟨g0, g, d, tk0, os⟩
  by_cases hlt1 : i < n1
  · refine wpAny_bind (D1.item i _ _ _ hlt1 (D1.over st1 hs0 S.zf1) fun x1 p1 tk1 hx1 sn1 hp1 => wpAny_pure ?_)
    replace hp1 : Heap.SameBut i1 g0 p1 := hp1
    refine wpAny_pure ?_
    have hi2 : i = n2 := by omega
    refine wpAny_bind (wpAny_bind (wpAny_holding ?_))
    show wpAny _ _ (Builtin.SmallTypes.nextOf (.ref i2) >>= _) _ _ ⟨p1, g, d, tk1, os⟩
    refine wpAny_bind (D2.done ⟨p1, g, d, tk1, os⟩ _ _ (by rw [← hi2]; exact (D2.over (D2.over st2 hs0 S.zf2) hp1 S.sep1_2)) fun q e hq he => ?_)
    replace hq : Heap.ExtBut i2 p1 q := hq
    exact hE q tk1 e (fun c o cz c1 c2 x => hq _ _ c2 (hp1.extBut _ _ c1 (hs0.extBut _ _ cz x))) he
  · have hi1 : i = n1 := by omega
    refine wpAny_bind (D1.done ⟨g0, g, d, tk0, os⟩ _ _ (by rw [← hi1]; exact (D1.over st1 hs0 S.zf1)) fun q e hq he => ?_)
    replace hq : Heap.ExtBut i1 g0 q := hq
    exact hE q tk0 e (fun c o cz c1 c2 x => hq _ _ c1 (hs0.extBut _ _ cz x)) he
theorem pyNext_zipH_item {Q : Option Value → Shared → Prop} (S : ZipSep2 z TI TO i1 i2 fp1 fp2) (D1 : Draws prog w A.in1 i1 fp1 n1 P1 St1) (D2 : Draws prog w A.in1 i2 fp2 n2 P2 St2)
    (hz : IsZipHeld s.heap z TI TO T f) (hT : s.heap.get? T = some oT) (hTI : IsTupOf2 s.heap TI (.ref i1) (.ref i2)) (st1 : St1 i s.heap) (st2 : St2 i s.heap) (hlt1 : i < n1) (hlt2 : i < n2)
    (hQ : ∀ x1 x2 h' tk, P1 i x1 → P2 i x2 → IsZipHeld h' z TI TO T true → St1 (i + 1) h' → St2 (i + 1) h' → IsTupOf2 h' s.heap.objs.size x1 x2 → h'.objs.size = s.heap.objs.size + 1 →
      (∀ c o, c ≠ z → c ≠ i1 → c ≠ i2 → s.heap.get? c = some o → h'.get? c = some o) → Q (some (.ref s.heap.objs.size)) { s with heap := h', toks := tk }) :
    wpAny (model prog w) A (pyNext (.ref z)) Q E s := by
  have hTy : s.TypeIs (.ref z) "zip" := ⟨_, hz, rfl⟩
  unfold pyNext
  exact wpAny_bind (wpAny_attempt (wpAny_callSpecial?_slot (name := Str.ofString "__next__") hTy F.slot_zip_next
    (wpAny_call_entry F.slot_zip_next hTy F.entry_zip_next
      (zipH_item S D1 D2 hz hT hTI st1 st2 hlt1 hlt2 fun x1 x2 h' tk a1 a2 a3 a4 a5 a6 a7 a8 => wpAny_pure (hQ x1 x2 h' tk a1 a2 a3 a4 a5 a6 a7 a8)) (F.args_zip_next_1 _))))
theorem pyNext_zipH_end {Q : Option Value → Shared → Prop} (S : ZipSep2 z TI TO i1 i2 fp1 fp2) (D1 : Draws prog w A.in1 i1 fp1 n1 P1 St1) (D2 : Draws prog w A.in1 i2 fp2 n2 P2 St2)
    (hz : IsZipHeld s.heap z TI TO T f) (hT : s.heap.get? T = some oT) (hTI : IsTupOf2 s.heap TI (.ref i1) (.ref i2)) (st1 : St1 i s.heap) (st2 : St2 i s.heap) (hle1 : i ≤ n1) (hle2 : i ≤ n2) (hend : i = n1 ∨ i = n2)
    (hQ : ∀ h' tk, (∀ c o, c ≠ z → c ≠ i1 → c ≠ i2 → s.heap.get? c = some o → h'.get? c = some o) → Q none { s with heap := h', toks := tk }) : wpAny (model prog w) A (pyNext (.ref z)) Q E s := by
  have hTy : s.TypeIs (.ref z) "zip" := ⟨_, hz, rfl⟩
  unfold pyNext
  refine wpAny_bind (wpAny_attempt (wpAny_callSpecial?_slot (name := Str.ofString "__next__") hTy F.slot_zip_next
    (wpAny_call_entry F.slot_zip_next hTy F.entry_zip_next (zipH_end S D1 D2 hz hT hTI st1 st2 hle1 hle2 hend fun h' tk e hk he => ?_) (F.args_zip_next_1 _))))
  obtain ⟨o, ho, hc⟩ := he
  refine wpAny_bind (wpAny_isInstance (T := "StopIteration") (b := true) ⟨o, ho, hc⟩ isSubtype_stop ?_)
  exact wpAny_pure (hQ _ _ hk)
end
/-- ahead of the first draw, or behind one -/
def Zst (h : Heap) (z TI TO i1 i2 S : Addr) : Prop := (IsZip h z TI TO .none ∧ ∃ a1 a2, IsTupOf2 h TO a1 a2) ∨ ∃ (T : Addr) (f : Bool) (oT : Obj), IsZipHeld h z TI TO T f ∧ h.get? T = some oT ∧ T ≠ z ∧ T ≠ i1 ∧ T ≠ i2 ∧ T ≠ S
/-- the tuples that were drawn -/
structure ZG (P1 P2 : Nat → Value → Prop) (lo : Addr) (h : Heap) (as : List Addr) : Prop where
  rise : as.Pairwise (· < ·)
  above : ∀ a ∈ as, lo < a
  pairs : ∀ (j : Nat) (a : Addr), as[j]? = some a → ∃ x y, P1 j x ∧ P2 j y ∧ IsTupOf2 h a x y
theorem ZG.there {P1 P2 : Nat → Value → Prop} {lo : Addr} {h : Heap} {as : List Addr} (g : ZG P1 P2 lo h as) {a : Addr} (ha : a ∈ as) : a < h.objs.size := by
  obtain ⟨j, hj⟩ := List.mem_iff_getElem?.mp ha
  obtain ⟨_, _, _, _, e⟩ := g.pairs j a hj
  exact Heap.lt_size e
section
variable {prog : Program} {w : World} {A : Around} {s : Shared} {R : Result → Shared → Prop} {z TI TO i1 i2 S : Addr} {fp1 fp2 : List Addr} {n1 n2 : Nat} {P1 P2 : Nat → Value → Prop} {St1 St2 : Nat → Heap → Prop}
theorem zst_item {E : Value → Shared → Prop} {Q : Option Value → Shared → Prop} {i : Nat} (D : ZipSep2 z TI TO i1 i2 fp1 fp2) (D1 : Draws prog w A.in1 i1 fp1 n1 P1 St1) (D2 : Draws prog w A.in1 i2 fp2 n2 P2 St2)
    (hz : Zst s.heap z TI TO i1 i2 S) (hS : S < s.heap.objs.size) (hTI : IsTupOf2 s.heap TI (.ref i1) (.ref i2)) (st1 : St1 i s.heap) (st2 : St2 i s.heap) (hlt1 : i < n1) (hlt2 : i < n2)
    (hQ : ∀ x1 x2 h' tk, P1 i x1 → P2 i x2 → Zst h' z TI TO i1 i2 S → St1 (i + 1) h' → St2 (i + 1) h' → IsTupOf2 h' s.heap.objs.size x1 x2 → h'.objs.size = s.heap.objs.size + 1 →
      (∀ c o, c ≠ z → c ≠ TO → c ≠ i1 → c ≠ i2 → s.heap.get? c = some o → h'.get? c = some o) → Q (some (.ref s.heap.objs.size)) { s with heap := h', toks := tk }) :
    wpAny (model prog w) A (pyNext (.ref z)) Q E s := by
  have l1 : i1 < s.heap.objs.size := by
    obtain ⟨o, e⟩ := D1.live _ _ st1
    exact Heap.lt_size e
  have l2 : i2 < s.heap.objs.size := by
    obtain ⟨o, e⟩ := D2.live _ _ st2
    exact Heap.lt_size e
  rcases hz with ⟨hz, a1, a2, hTO⟩ | ⟨T, f, oT, hz, hT, t1, t2, t3, t4⟩
  · have lz : z < s.heap.objs.size := Heap.lt_size hz
    exact wpAny_pyNext_zipD2_item D D1 D2 hz hTI hTO st1 st2 hlt1 hlt2 fun x1 x2 h' tk hx1 hx2 z' TO' s1 s2 hT hsz hk =>
      hQ x1 x2 h' tk hx1 hx2 (.inr ⟨s.heap.objs.size, false, _, z', hT, Nat.ne_of_gt lz, Nat.ne_of_gt l1, Nat.ne_of_gt l2, Nat.ne_of_gt hS⟩) s1 s2 hT hsz hk
  · exact pyNext_zipH_item D D1 D2 hz hT hTI st1 st2 hlt1 hlt2 fun x1 x2 h' tk hx1 hx2 z' s1 s2 hT' hsz hk =>
      hQ x1 x2 h' tk hx1 hx2 (.inr ⟨T, true, oT, z', hk T oT t1 t2 t3 hT, t1, t2, t3, t4⟩) s1 s2 hT' hsz fun c o c1 _ c3 c4 e => hk c o c1 c3 c4 e
theorem zst_end {E : Value → Shared → Prop} {Q : Option Value → Shared → Prop} {i : Nat} (D : ZipSep2 z TI TO i1 i2 fp1 fp2) (D1 : Draws prog w A.in1 i1 fp1 n1 P1 St1) (D2 : Draws prog w A.in1 i2 fp2 n2 P2 St2)
    (hz : Zst s.heap z TI TO i1 i2 S) (hTI : IsTupOf2 s.heap TI (.ref i1) (.ref i2)) (st1 : St1 i s.heap) (st2 : St2 i s.heap) (hle1 : i ≤ n1) (hle2 : i ≤ n2) (hend : i = n1 ∨ i = n2)
    (hQ : ∀ h' tk, (∀ c o, c ≠ z → c ≠ TO → c ≠ i1 → c ≠ i2 → s.heap.get? c = some o → h'.get? c = some o) → Q none { s with heap := h', toks := tk }) :
    wpAny (model prog w) A (pyNext (.ref z)) Q E s := by
  rcases hz with ⟨hz, a1, a2, hTO⟩ | ⟨T, f, oT, hz, hT, t1, t2, t3, t4⟩
  · exact wpAny_pyNext_zipD2_end D D1 D2 hz hTI hTO st1 st2 hle1 hle2 hend hQ
  · exact pyNext_zipH_end D D1 D2 hz hT hTI st1 st2 hle1 hle2 hend fun h' tk hk => hQ h' tk fun c o c1 _ c3 c4 e => hk c o c1 c3 c4 e
theorem zl_loop {n : Nat} (D : ZipSep2 z TI TO i1 i2 fp1 fp2) (D1 : Draws prog w A.in1.in1 i1 fp1 n1 P1 St1) (D2 : Draws prog w A.in1.in1 i2 fp2 n2 P2 St2) (hn : n = min n1 n2) (hl : n ≤ sizeLine)
    (S1 : S ∉ fp1) (S2 : S ∉ fp2) (Sz : S ≠ z) (STI : S ≠ TI) (STO : S ≠ TO) (zS : z < S) (TOS : TO < S) (i1S : i1 < S) (i2S : i2 < S) (res : Value) {h₁ : Heap}
    (hR : ∀ h' tk acc c as, (∀ b o, b ≠ S → b ≠ z → b ≠ TO → b ≠ i1 → b ≠ i2 → h₁.get? b = some o → h'.get? b = some o) → h'.get? S = some { cls := .type "list", dict := none, data := .seq acc c, slots := #[] } → as.length = n → ZG P1 P2 S h' as →
      acc.toList = as.map Value.ref → R (.ok (.ret res)) { s with heap := h', toks := tk }) :
    ∀ (k i : Nat) (h : Heap) (tk c : Nat) (acc : Array Value) (as : List Addr), n - i = k → i ≤ n → Zst h z TI TO i1 i2 S → IsTupOf2 h TI (.ref i1) (.ref i2) → St1 i h → St2 i h → (∀ b o, b ≠ S → b ≠ z → b ≠ TO → b ≠ i1 → b ≠ i2 → h₁.get? b = some o → h.get? b = some o) →
      h.get? S = some { cls := .type "list", dict := none, data := .seq acc c, slots := #[] } → acc.toList = as.map Value.ref → as.length = i → ZG P1 P2 S h as →
      codeAny (model prog w) A (.builtin "list.extend.loop" ⟨[.ref S, .ref z, res], []⟩) R { s with heap := h, toks := tk } := by
  intro k
  induction k with
  | zero =>
    intro i h tk c acc as hk hi hst hTI d1 d2 hkeep hS hacc hal hG
    have hin : i = n := by omega
    refine codeAny_builtin PySem.F.entry_extend_loop ?_
    rw [Around.under_plainId PySem.F.plain_extend_loop _]
    show wpAny _ A.in1 (pyNext (.ref z) >>= _) _ _ _
    refine wpAny_bind (zst_end (s := { s with heap := h, toks := tk }) (A := A.in1) D D1 D2 hst hTI d1 d2 (by omega) (by omega) (by omega) fun h' tk' he => ?_)
    refine wpAny_pure (hR h' tk' acc c as (fun b o b1 b2 b3 b4 b5 e => he b o b2 b3 b4 b5 (hkeep b o b1 b2 b3 b4 b5 e)) (he S _ Sz STO (Nat.ne_of_gt i1S) (Nat.ne_of_gt i2S) hS) (by omega) ⟨hG.rise, hG.above, fun j a hj => ?_⟩ hacc)
    obtain ⟨x, y, p1, p2, e3⟩ := hG.pairs j a hj
    have la := hG.above a (List.mem_of_getElem? hj)
    exact ⟨x, y, p1, p2, he a _ (Nat.ne_of_gt (Nat.lt_trans zS la)) (Nat.ne_of_gt (Nat.lt_trans TOS la)) (Nat.ne_of_gt (Nat.lt_trans i1S la)) (Nat.ne_of_gt (Nat.lt_trans i2S la)) e3⟩
  | succ k ih =>
    intro i h tk c acc as hk hi hst hTI d1 d2 hkeep hS hacc hal hG
    have hlt : i < n := by omega
    have hsz : acc.size = i := by rw [← Array.length_toList, hacc, List.length_map, hal]
    refine codeAny_builtin PySem.F.entry_extend_loop ?_
    rw [Around.under_plainId PySem.F.plain_extend_loop _]
    show wpAny _ A.in1 (pyNext (.ref z) >>= _) _ _ _
    have hSl : S < h.objs.size := Heap.lt_size hS
    refine wpAny_bind (zst_item (s := { s with heap := h, toks := tk }) (A := A.in1) D D1 D2 hst hSl hTI d1 d2 (by omega) (by omega) fun x1 x2 h' tk' q1 q2 hst' d1' d2' ht hz hkp => ?_)
    dsimp only at ht hz hkp ⊢
    have hS' := hkp S _ Sz STO (Nat.ne_of_gt i1S) (Nat.ne_of_gt i2S) hS
    have up : ∀ b o, b ≠ S → h'.get? b = some o → (h'.update S (Obj.mapSeq (·.push (Value.ref h.objs.size)))).get? b = some o := fun b o hb e => (Heap.get?_update_other _ _ (Ne.symm hb)).trans e
    show wpAny _ A.in1 (updateSeq S (·.push (Value.ref h.objs.size)) >>= _) _ _ _
    refine wpAny_bind ?_
    refine wpAny_updateSeq hS' rfl (wpAny_pure ⟨plainId_quiet PySem.F.plain_extend_loop _, ih (i + 1) _ tk' _ (acc.push (Value.ref h.objs.size)) (as ++ [h.objs.size]) (by omega) hlt ?_ (up _ _ (Ne.symm STI) (hkp TI _ D.TIz D.TITO D.TIi1 D.TIi2 hTI))
      (D1.frame _ _ _ d1' fun b hb o e => up b o (fun q => S1 (q ▸ hb)) e) (D2.frame _ _ _ d2' fun b hb o e => up b o (fun q => S2 (q ▸ hb)) e)
      (fun b o b1 b2 b3 b4 b5 e => up b o b1 (hkp b o b2 b3 b4 b5 (hkeep b o b1 b2 b3 b4 b5 e))) (Heap.get?_update_self _ hS' rfl) (by rw [Array.toList_push, hacc, List.map_append]; rfl) (by rw [List.length_append, hal]; rfl) ⟨?_, ?_, ?_⟩⟩) (by rw [hsz]; omega) (by show (acc.push (Value.ref h.objs.size)).size ≤ sizeLine + 1; rw [Array.size_push, hsz]; omega)
    · rcases hst' with ⟨hz1, a1, a2, hTO⟩ | ⟨T, f, oT, hz1, hT, t1, t2, t3, t4⟩
      · exact .inl ⟨up _ _ (Ne.symm Sz) hz1, a1, a2, up _ _ (Ne.symm STO) hTO⟩
      · exact .inr ⟨T, f, oT, up _ _ (Ne.symm Sz) hz1, up _ _ t4 hT, t1, t2, t3, t4⟩
    · refine List.pairwise_append.mpr ⟨hG.rise, List.pairwise_singleton _ _, fun a ha b hb => ?_⟩
      rw [List.mem_singleton.mp hb]
      exact hG.there ha
    · intro a ha
      rcases List.mem_append.mp ha with ha | ha
      · exact hG.above a ha
      · rw [List.mem_singleton.mp ha]; exact hSl
    · intro j b hj
      rcases Nat.lt_trichotomy j as.length with h1 | h1 | h1
      · rw [List.getElem?_append_left h1] at hj
        obtain ⟨x, y, p1, p2, e3⟩ := hG.pairs j b hj
        have hb := hG.above b (List.mem_of_getElem? hj)
        exact ⟨x, y, p1, p2, up b _ (Nat.ne_of_gt hb) (hkp b _ (Nat.ne_of_gt (Nat.lt_trans zS hb)) (Nat.ne_of_gt (Nat.lt_trans TOS hb)) (Nat.ne_of_gt (Nat.lt_trans i1S hb)) (Nat.ne_of_gt (Nat.lt_trans i2S hb)) e3)⟩
      · subst h1
        have hb : h.objs.size = b := by simpa using hj
        subst hb
        exact ⟨x1, x2, by rw [hal]; exact q1, by rw [hal]; exact q2, up _ _ (Nat.ne_of_gt hSl) ht⟩
      · have hnone : (as ++ [h.objs.size])[j]? = none := List.getElem?_eq_none (by rw [List.length_append, List.length_singleton]; omega)
        rw [hnone] at hj; cases hj
end
end G
/-! Rules5: list(zip(a, b)) as a rule. -/
namespace G
open PySem PySem.Spec PyProof.Rows L2 PySem.W
theorem zip_len_none : typeLookup (.type "zip") "__len__" = pure none := by rw [typeLookup_type, builtinLookup_eq_fast]; kernel_rfl
theorem zip_hint_none : typeLookup (.type "zip") "__length_hint__" = pure none := by rw [typeLookup_type, builtinLookup_eq_fast]; kernel_rfl
section
variable {prog : Program} {w : World} {A : Around} {E : Value → Shared → Prop} {s : Shared} {R : Result → Shared → Prop} {z TI TO i1 i2 S : Addr} {fp1 fp2 : List Addr} {n1 n2 : Nat} {P1 P2 : Nat → Value → Prop} {St1 St2 : Nat → Heap → Prop}
theorem zl_hint (hT : s.TypeIs (.ref z) "zip") {Q : Bool → Shared → Prop} (h : Q true s) : wpAny (model prog w) A (Builtin.List.listLengthHint (.ref z)) Q E s := by
  unfold Builtin.List.listLengthHint
  refine wpAny_bind (wpAny_specialOf hT zip_len_none ?_)
  simp only [Option.isSome_none, Bool.false_eq_true, if_false]
  refine wpAny_bind (wpAny_specialOf hT zip_hint_none ?_)
  exact wpAny_pure h
theorem zl_extend {n : Nat} (D : ZipSep2 z TI TO i1 i2 fp1 fp2) (D1 : Draws prog w A.in1.in1 i1 fp1 n1 P1 St1) (D2 : Draws prog w A.in1.in1 i2 fp2 n2 P2 St2) (hn : n = min n1 n2) (hl : n ≤ sizeLine)
    (S1 : S ∉ fp1) (S2 : S ∉ fp2) (Sz : S ≠ z) (STI : S ≠ TI) (STO : S ≠ TO) (zS : z < S) (TOS : TO < S) (i1S : i1 < S) (i2S : i2 < S) (res : Value) (c₀ : Nat)
    (hz : IsZip s.heap z TI TO .none) (hTO : ∃ a1 a2, IsTupOf2 s.heap TO a1 a2) (hTI : IsTupOf2 s.heap TI (.ref i1) (.ref i2)) (st1 : St1 0 s.heap) (st2 : St2 0 s.heap) (hS : s.heap.get? S = some { cls := .type "list", data := .seq #[] c₀ })
    (hR : ∀ h' tk acc c as, (∀ b o, b ≠ S → b ≠ z → b ≠ TO → b ≠ i1 → b ≠ i2 → s.heap.get? b = some o → h'.get? b = some o) → h'.get? S = some { cls := .type "list", dict := none, data := .seq acc c, slots := #[] } → as.length = n → ZG P1 P2 S h' as →
      acc.toList = as.map Value.ref → R (.ok (.ret res)) { s with heap := h', toks := tk }) :
    wpAny (model prog w) A.in1 (Builtin.List.listExtendWith (.ref S) (.ref z) res)
      (fun fin s' => match fin with | .done f => R (.ok f) s' | .again c' => c'.quiet = true ∧ codeAny (model prog w) A c' R s') (fun e s' => R (.error e) s') s := by
  have hT : s.TypeIs (.ref z) "zip" := ⟨_, hz, rfl⟩
  unfold Builtin.List.listExtendWith
  refine wpAny_bind (wpAny_typeOf (T := "zip") hT ?_)
  have h1 : Builtin.List.listSameRef (.ref S) (.ref z) = false := by simp [Builtin.List.listSameRef, Sz]
  have h2 : (Value.type "zip" == Value.type "list") = false := by decide
  have h3 : (Value.type "zip" == Value.type "tuple") = false := by decide
  simp only [h1, h2, h3, Bool.or_false, Bool.false_eq_true, if_false]
  refine wpAny_bind (wpAny_pyIter_zip hz ?_)
  refine wpAny_bind (wpAny_holding (zl_hint hT ?_))
  simp only [Bool.true_or, if_true]
  refine wpAny_bind (wpAny_rule ?_)
  refine wpAny_bind ?_
  show wpAny _ _ (updateSeq S (·.push .none) >>= fun _ => updateSeq S (·.pop)) _ _ _
  refine wpAny_bind (wpAny_updateSeq hS rfl ?_)
  have hS₂ := Heap.get?_update_self (Obj.mapSeq (·.push Value.none)) hS rfl
  refine wpAny_updateSeq (hz := by seq_fits) hS₂ rfl ?_
  have hS₃ := Heap.get?_update_self (Obj.mapSeq (·.pop)) hS₂ rfl
  have up : ∀ b o, b ≠ S → s.heap.get? b = some o → ((s.heap.update S (Obj.mapSeq (·.push Value.none))).update S (Obj.mapSeq (·.pop))).get? b = some o := fun b o hb e =>
    (Heap.get?_update_other _ _ (Ne.symm hb)).trans ((Heap.get?_update_other _ _ (Ne.symm hb)).trans e)
  obtain ⟨a1, a2, hTO⟩ := hTO
  refine wpAny_pure ⟨plainId_quiet PySem.F.plain_extend_loop _, zl_loop (h₁ := s.heap) D D1 D2 hn hl S1 S2 Sz STI STO zS TOS i1S i2S res hR n 0 _ _ _ #[] [] (Nat.sub_zero _) (Nat.zero_le _) (.inl ⟨up _ _ (Ne.symm Sz) hz, a1, a2, up _ _ (Ne.symm STO) hTO⟩) (up _ _ (Ne.symm STI) hTI)
    (D1.frame _ _ _ st1 fun b hb o e => up b o (fun q => S1 (q ▸ hb)) e) (D2.frame _ _ _ st2 fun b hb o e => up b o (fun q => S2 (q ▸ hb)) e) (fun b o b1 _ _ _ _ e => up b o b1 e) hS₃ rfl rfl ⟨List.Pairwise.nil, (fun _ ha => nomatch ha), (fun j a hj => by simp at hj)⟩⟩
theorem zl_init {n : Nat} (D : ZipSep2 z TI TO i1 i2 fp1 fp2) (D1 : Draws prog w A.in1.in1 i1 fp1 n1 P1 St1) (D2 : Draws prog w A.in1.in1 i2 fp2 n2 P2 St2) (hn : n = min n1 n2) (hl : n ≤ sizeLine)
    (S1 : S ∉ fp1) (S2 : S ∉ fp2) (Sz : S ≠ z) (STI : S ≠ TI) (STO : S ≠ TO) (zS : z < S) (TOS : TO < S) (i1S : i1 < S) (i2S : i2 < S)
    (hz : IsZip s.heap z TI TO .none) (hTO : ∃ a1 a2, IsTupOf2 s.heap TO a1 a2) (hTI : IsTupOf2 s.heap TI (.ref i1) (.ref i2)) (st1 : St1 0 s.heap) (st2 : St2 0 s.heap) (hS : s.heap.get? S = some { cls := .type "list", data := .seq #[] })
    (hR : ∀ h' tk acc c as, (∀ b o, b ≠ S → b ≠ z → b ≠ TO → b ≠ i1 → b ≠ i2 → s.heap.get? b = some o → h'.get? b = some o) → h'.get? S = some { cls := .type "list", dict := none, data := .seq acc c, slots := #[] } → as.length = n → ZG P1 P2 S h' as →
      acc.toList = as.map Value.ref → R (.ok (.ret .none)) { s with heap := h', toks := tk }) :
    wpAny (model prog w) A.in1 (Builtin.«list.__init__» ⟨[.ref S, .ref z], []⟩)
      (fun fin s' => match fin with | .done f => R (.ok f) s' | .again c' => c'.quiet = true ∧ codeAny (model prog w) A c' R s') (fun e s' => R (.error e) s') s := by
  show wpAny _ _ (do let old ← Builtin.List.listItems (.ref S); Builtin.List.listUpdate (.ref S) (fun _ => #[]); letGo old.toList.reverse; Builtin.List.listExtendWith (.ref S) (.ref z) .none) _ _ s
  refine wpAny_bind ?_
  unfold Builtin.List.listItems
  refine wpAny_bind (wpAny_seqItems hS rfl (wpAny_pure ?_))
  show wpAny _ _ (updateSeq S (fun _ => #[]) >>= fun _ => letGo (#[] : Array Value).toList.reverse >>= fun _ => Builtin.List.listExtendWith (.ref S) (.ref z) .none) _ _ s
  refine wpAny_bind (wpAny_updateSeq hS rfl ?_)
  have hS₂ := Heap.get?_update_self (Obj.mapSeq (fun _ => (#[] : Array Value))) hS rfl
  have oth : ∀ b o, b ≠ S → s.heap.get? b = some o → (s.heap.update S (Obj.mapSeq (fun _ => (#[] : Array Value)))).get? b = some o :=
    fun b o hb e => (Heap.get?_update_other _ _ (Ne.symm hb)).trans e
  refine wpAny_bind (wpAny_letGo ?_)
  obtain ⟨a1, a2, hTO⟩ := hTO
  refine zl_extend D D1 D2 hn hl S1 S2 Sz STI STO zS TOS i1S i2S .none _ (oth _ _ (Ne.symm Sz) hz) ⟨a1, a2, oth _ _ (Ne.symm STO) hTO⟩ (oth _ _ (Ne.symm STI) hTI) (D1.frame _ _ _ st1 fun b hb o e => oth b o (fun q => S1 (q ▸ hb)) e) (D2.frame _ _ _ st2 fun b hb o e => oth b o (fun q => S2 (q ▸ hb)) e) hS₂
    (fun h' tk acc c as hk hS' hl hG hacc => ?_)
  exact hR h' tk acc c as (fun b o b1 b2 b3 b4 b5 e => hk b o b1 b2 b3 b4 b5 (oth b o b1 e)) hS' hl hG hacc
theorem zl_call {n : Nat} {Q : Value → Shared → Prop} (D : ZipSep2 z TI TO i1 i2 fp1 fp2) (D1 : Draws prog w A.in1.in1.in1 i1 fp1 n1 P1 St1) (D2 : Draws prog w A.in1.in1.in1 i2 fp2 n2 P2 St2) (hn : n = min n1 n2) (hl : n ≤ sizeLine)
    (L1 : ∀ b ∈ fp1, b < s.heap.objs.size) (L2 : ∀ b ∈ fp2, b < s.heap.objs.size)
    (hz : IsZip s.heap z TI TO .none) (hTO : ∃ a1 a2, IsTupOf2 s.heap TO a1 a2) (hTI : IsTupOf2 s.heap TI (.ref i1) (.ref i2)) (st1 : St1 0 s.heap) (st2 : St2 0 s.heap)
    (hQ : ∀ h' tk acc c as, (∀ b o, b ≠ z → b ≠ TO → b ≠ i1 → b ≠ i2 → s.heap.get? b = some o → h'.get? b = some o) → h'.get? s.heap.objs.size = some { cls := .type "list", dict := none, data := .seq acc c, slots := #[] } → as.length = n → ZG P1 P2 s.heap.objs.size h' as →
      acc.toList = as.map Value.ref → Q (.ref s.heap.objs.size) { s with heap := h', toks := tk }) :
    wpAny (model prog w) A (call (.type "list") [.ref z]) Q E s := by
  refine callType_codes (Q₁ := fun obj s₁ => obj = .ref s.heap.objs.size ∧ s₁ = { s with heap := s.heap.push { cls := .type "list", data := .seq #[] } }) PySem.F.called_list (PySem.F.typeCall_list_1 _) PySem.F.entry_list_init
    (code_list_new _ ⟨rfl, rfl⟩) fun obj s₁ h₁ => ?_
  obtain ⟨rfl, rfl⟩ := h₁
  have hS : (s.heap.push { cls := .type "list", data := .seq #[] }).get? s.heap.objs.size = some { cls := .type "list", data := .seq #[] } := Heap.get?_push_size _ rfl
  have zl : z < s.heap.objs.size := Heap.lt_size hz
  have Tl : TI < s.heap.objs.size := Heap.lt_size hTI
  obtain ⟨a1, a2, hTO⟩ := hTO
  have Ol : TO < s.heap.objs.size := Heap.lt_size hTO
  have up : ∀ b o, s.heap.get? b = some o → (s.heap.push { cls := .type "list", data := .seq #[] }).get? b = some o := fun b o e => Heap.get?_push_of_some _ e
  refine ⟨⟨_, hS, rfl⟩, PySem.F.args_list_init_2 _ _, zl_init (A := A.in1) (S := s.heap.objs.size) D D1 D2 hn hl (fun q => Nat.lt_irrefl _ (L1 _ q)) (fun q => Nat.lt_irrefl _ (L2 _ q)) (Nat.ne_of_gt zl) (Nat.ne_of_gt Tl) (Nat.ne_of_gt Ol) zl Ol (L1 _ D.mem1) (L2 _ D.mem2)
    (up _ _ hz) ⟨a1, a2, up _ _ hTO⟩ (up _ _ hTI) (D1.frame _ _ _ st1 fun b _ o e => up b o e) (D2.frame _ _ _ st2 fun b _ o e => up b o e) hS (fun h' tk acc c as hk hS' hl hG hacc => ?_)⟩
  exact ⟨rfl, hQ h' tk acc c as (fun b o b2 b3 b4 b5 e => hk b o (Nat.ne_of_lt (Heap.lt_size e)) b2 b3 b4 b5 (up b o e)) hS' hl hG hacc⟩
end

/-! ### the new pairs tracked -/
def putP : Hp → List Addr → List (V × V) → Hp
  | H, a :: as, p :: kvs => putP (upd H a (.tup [p.1, p.2])) as kvs
  | H, _, _ => H
theorem putP_off {b : Addr} : ∀ (as : List Addr) (kvs : List (V × V)) (H : Hp), b ∉ as → putP H as kvs b = H b
  | [], _, _, _ => rfl
  | _ :: _, [], _, _ => rfl
  | a :: as, p :: kvs, H, h => by
    show putP (upd H a (.tup [p.1, p.2])) as kvs b = H b
    rw [putP_off as kvs _ (fun z => h (List.mem_cons_of_mem _ z)), upd_ne (fun z => h (by rw [z]; exact List.mem_cons_self))]
theorem putP_at : ∀ (as : List Addr) (kvs : List (V × V)) (H : Hp), as.length = kvs.length → as.Nodup → Paired (fun (t : Addr) (p : V × V) => putP H as kvs t = some (.tup [p.1, p.2])) as kvs
  | [], [], _, _, _ => .nil
  | [], _ :: _, _, h, _ => by cases h
  | _ :: _, [], _, h, _ => by cases h
  | a :: as, p :: kvs, H, h, hn => by
    have hn' := List.nodup_cons.mp hn
    have ih := putP_at as kvs (upd H a (.tup [p.1, p.2])) (Nat.succ.inj h) hn'.2
    refine .cons ?_ ih
    show putP (upd H a (.tup [p.1, p.2])) as kvs a = some (.tup [p.1, p.2])
    rw [putP_off as kvs _ hn'.1, upd_same]
/-- list(zip(a, b)): a new list of new pairs -/
def rListZip (K : PySem.W.Frag) : List V → Hp → VK → Prop := fun vs H Q => ∃ (t1 t2 : Bool) (a b : Addr) (xs ys : List V), vs = [.ref a, .ref b] ∧ Sq t1 K H a xs ∧ Sq t2 K H b ys ∧
  ∀ (H' : Hp) (p : Addr) (ts : List Addr), Same H H' → H p = none → H' p = some (.lst (ts.map V.ref)) → Paired (fun (t : Addr) (q : V × V) => H t = none ∧ H' t = some (.tup [q.1, q.2])) ts (xs.zip ys) → Q (.ref p) H'
section
variable {X : Cx}
theorem pairs_laid {pins : List (Addr × Obj)} {σ : L2.St} {H : Hp} {s : Shared} {h' : Heap} {tk : Nat} {xs ys : List V} {us ws : List Value} {acc : Array Value} {c : Nat} {as : List Addr} {lo : Addr} (I : Inv X pins σ H s) (hz : min xs.length ys.length ≤ sizeLine) (rx : Vals xs us) (ry : Vals ys ws)
    (hlo : s.heap.objs.size ≤ lo)
    (hk : ∀ b o, s.heap.get? b = some o → h'.get? b = some o) (hS : h'.get? lo = some { cls := .type "list", dict := none, data := .seq acc c, slots := #[] }) (hl : as.length = min us.length ws.length) (hG : ZG (fun i v => us.toArray[i]? = some v) (fun i v => ws.toArray[i]? = some v) lo h' as) (hacc : acc.toList = as.map Value.ref) :
    ∃ H' : Hp, Same H H' ∧ H lo = none ∧ H' lo = some (.lst (as.map V.ref)) ∧ Paired (fun (t : Addr) (q : V × V) => H t = none ∧ H' t = some (.tup [q.1, q.2])) as (xs.zip ys) ∧ Inv X pins σ H' { s with heap := h', toks := tk } := by
  have lx := rx.length
  have ly := ry.length
  have hSn : lo ∉ as := fun z => Nat.lt_irrefl _ (hG.above _ z)
  have nd : as.Nodup := List.Pairwise.imp (fun {a b} (h : a < b) => Nat.ne_of_lt h) hG.rise
  have new : ∀ t ∈ as, H t = none := fun t ht => I.hok.fresh (Nat.le_of_lt (Nat.lt_of_le_of_lt hlo (hG.above t ht)))
  have newS : H lo = none := I.hok.fresh hlo
  have atP := putP_at as (xs.zip ys) (upd H lo (.lst (as.map V.ref))) (by rw [List.length_zip]; omega) nd
  have off : ∀ b, b ∉ as → b ≠ lo → putP (upd H lo (.lst (as.map V.ref))) as (xs.zip ys) b = H b := fun b h1 h2 => by rw [putP_off as _ _ h1, upd_ne h2]
  have low : ∀ b o, s.heap.get? b = some o → b ∉ as ∧ b ≠ lo := fun b o e => ⟨fun z => absurd (Heap.lt_size e) (Nat.not_lt.mpr (Nat.le_of_lt (Nat.lt_of_le_of_lt hlo (hG.above b z)))), Nat.ne_of_lt (Nat.lt_of_lt_of_le (Heap.lt_size e) hlo)⟩
  have kp : ∀ b u, H b = some u → (putP (upd H lo (.lst (as.map V.ref))) as (xs.zip ys)) b = some u := fun b u e => by
    rw [off b (fun z => by rw [new b z] at e; cases e) (fun z => by rw [z, newS] at e; cases e)]
    exact e
  have eS : putP (upd H lo (.lst (as.map V.ref))) as (xs.zip ys) lo = some (.lst (as.map V.ref)) := by rw [putP_off as _ _ hSn, upd_same]
  refine ⟨putP (upd H lo (.lst (as.map V.ref))) as (xs.zip ys), kp, newS, eS, ?_, ?_⟩
  · have : ∀ {as' : List Addr} {ps : List (V × V)}, Paired (fun (t : Addr) (p : V × V) => putP (upd H lo (.lst (as.map V.ref))) as (xs.zip ys) t = some (.tup [p.1, p.2])) as' ps → (∀ t ∈ as', H t = none) →
        Paired (fun (t : Addr) (q : V × V) => H t = none ∧ putP (upd H lo (.lst (as.map V.ref))) as (xs.zip ys) t = some (.tup [q.1, q.2])) as' ps := by
      intro as' ps q
      induction q with
      | nil => intro _; exact .nil
      | cons r t ih => intro hm; exact .cons ⟨hm _ List.mem_cons_self, r⟩ (ih fun t ht => hm t (List.mem_cons_of_mem _ ht))
    exact this atP new
  refine I.call' (ch := []) rfl ⟨fun b o q _ _ _ => hk b o q, fun b o q _ _ _ => ⟨o.slots, hk b o q⟩, fun b o q n _ => ?_, fun b o q _ => ⟨o, hk b o q⟩, fun b xs q => kp b _ q, fun b o u q => kp b _ q, fun b ps q => ⟨#[], by rw [kp b _ q]; simp⟩⟩ (fun b u q => ?_) I.bare fun b z => by simp at z
  · obtain ⟨z1, z2⟩ := low b o q
    rw [off b z1 z2]
    exact n
  · by_cases hb : b ∈ as
    · obtain ⟨j, pk, e1, e2, e3⟩ := LiI.paired_ix atP hb
      rw [e3] at q
      cases q
      obtain ⟨x, y, f1, f2, f3⟩ := hG.pairs j b e1
      obtain ⟨v1, g1, r1⟩ := vals_got rx (show us[j]? = some x by simpa using f1)
      obtain ⟨v2, g2, r2⟩ := vals_got ry (show ws[j]? = some y by simpa using f2)
      have e4 : (xs.zip ys)[j]? = some (v1, v2) := by
        rw [List.getElem?_zip_eq_some]
        exact ⟨g1, g2⟩
      rw [e2] at e4
      cases e4
      exact ⟨by show 2 ≤ sizeLine; decide, [x, y], .cons r1 (.cons r2 .nil), ⟨_, f3, rfl, _, rfl⟩⟩
    · by_cases hb2 : b = lo
      · rw [hb2] at q ⊢
        rw [eS] at q
        cases q
        refine ⟨by rw [List.length_map]; omega, acc.toList, c, by rw [hacc]; exact LiI.vals_refs as, ?_⟩
        rw [Array.toArray_toList]
        exact hS
      · rw [off b hb hb2] at q
        exact (I.hok b u q).stay (fun d v _ y => hk d v y) (fun d y => kp d _ y) fun d xs y => kp d _ y
theorem pe_listZip {e1 e2 : Expr} {ta : TA} {p p2 cpos pos : Pos} (hc : X.calm = true) (ha : PA X [e1, e2] ta) (hg : Gl X "list") (hm : X.mg "list" = none) (hg2 : Gl X "zip") (hm2 : X.mg "zip" = none) (hv : bootBuiltins "list" = some (.type "list"))
    (hs2 : starEach [e1, e2] X.env = (false, eval e1 X.env) :: starEach [e2] X.env := by rfl) (hpl : (backTo cpos (starEach [e2] X.env)).any (·.1) = false := by rfl)
    (hs : starEach [.Call (.Name "zip" p2) [e1, e2] [] cpos] X.env = (false, eval (.Call (.Name "zip" p2) [e1, e2] [] cpos) X.env) :: starEach [] X.env := by rfl) :
    PE X (.Call (.Name "list" p) [.Call (.Name "zip" p2) [e1, e2] [] cpos] [] pos) (tCB (rListZip X.K) ta) := by
  refine ⟨fun pins s σ H Q I hq => ?_⟩
  refine wpAny_Call_Name_kw (ld_blt I hg hm hv ?_)
  refine PyProof.Rows.callWith_type1 ?_ hs rfl
  rw [hs]
  show wpAny _ _ (spliced ((false, eval (.Call (.Name "zip" p2) [e1, e2] [] cpos) X.env) :: backTo pos (starEach [] X.env))) _ _ s
  refine Calls.spliced_cons ?_
  refine Call_ (ld_blt I hg2 hm2 PyProof.Rows.boot_zip (PyProof.Rows.callWith_type1 (thn (ha.run cpos pins s σ H _ I hq) fun us s1 ⟨vs, H1, I1, r1, q1⟩ => ?_) hs2 hpl))
  obtain ⟨t1, t2, a, b, xs, ys, ex, hqx, hqy, q⟩ := q1
  subst ex
  cases r1 with
  | cons r rr =>
    cases rr with
    | cons r' rr =>
      cases rr
      cases r
      cases r'
      obtain ⟨its, rv, p1, hz1⟩ := inv_sq I1 hqx
      obtain ⟨its2, rv2, p2, hz2⟩ := inv_sq I1 hqy
      have l1 := rv.length
      have l2 := rv2.length
      refine zip_begins2 (begins t1 a its.toArray) (begins t2 b its2.toArray) p1 p2 fun h' hz hTI hTO h1 h2 hsz hk => ?_
      refine Calls.spliced_nil ?_
      have hh : X.A.in1.in1.in1.handled = none := I1.ok.hd hc
      have pl1 := p1.lt
      have pl2 := p2.lt
      have D := zip_sep2 (N := s1.heap.objs.size) (fp1 := [a]) (fp2 := [b]) (fun c hc => by rw [List.mem_singleton.mp hc]; exact pl1) (fun c hc => by rw [List.mem_singleton.mp hc]; exact pl2)
      have D1 := draws (prog := X.prog) (w := X.w) t1 hh s1.heap.objs.size a (Nat.ne_of_lt pl1) its.toArray
      have D2 := draws (prog := X.prog) (w := X.w) t2 hh (s1.heap.objs.size + 1) b (Nat.ne_of_lt (Nat.lt_succ_of_lt pl2)) its2.toArray
      have q1' : IsSq t1 h' a its.toArray := (begins t1 a its.toArray).keeps _ _ p1 hk
      have q2' : IsSq t2 h' b its2.toArray := (begins t2 b its2.toArray).keeps _ _ p2 hk
      refine zl_call (s := { s1 with heap := h' }) (n := min its.length its2.length) D D1 D2 (by simp) (by omega) (fun c hc => ?_) (fun c hc => ?_) hz ⟨_, _, hTO⟩ hTI ⟨isIt_new h1, q1'⟩ ⟨isIt_new h2, q2'⟩ fun h'' tk acc c as hk2 hS hl hG hacc => ?_
      · show c < h'.objs.size
        rw [hsz]
        rcases List.mem_cons.mp hc with e | hc
        · rw [e]; exact Nat.lt_add_of_pos_right (by decide)
        · rw [List.mem_singleton.mp hc]; exact Nat.lt_of_lt_of_le pl1 (Nat.le_add_right _ _)
      · show c < h'.objs.size
        rw [hsz]
        rcases List.mem_cons.mp hc with e | hc
        · rw [e]; exact Nat.add_lt_add_left (by decide) _
        · rw [List.mem_singleton.mp hc]; exact Nat.lt_of_lt_of_le pl2 (Nat.le_add_right _ _)
      have keep : ∀ b o, s1.heap.get? b = some o → h''.get? b = some o := fun b o e => by
        have lt := Heap.lt_size e
        exact hk2 b o (Nat.ne_of_lt (Nat.lt_of_lt_of_le lt (Nat.le_add_right _ _))) (Nat.ne_of_lt (Nat.lt_of_lt_of_le lt (Nat.le_add_right _ _))) (Nat.ne_of_lt lt) (Nat.ne_of_lt (Nat.lt_of_lt_of_le lt (Nat.le_add_right _ _))) (hk b o e)
      obtain ⟨H', k1, k2, k3, k4, J⟩ := pairs_laid (tk := tk) (lo := h'.objs.size) I1 (by omega) rv rv2 (by rw [hsz]; exact Nat.le_add_right _ _) keep hS hl hG hacc
      exact ⟨.ref _, H', J, rfl, q H' _ as k1 k2 k3 k4⟩
end
end G
/-! Rules6: walks over a list or a tuple (whichever it is), zip of such, enumerate of such. -/
namespace G
open PySem PySem.Spec PyProof.Rows L2
/-- what a list or tuple walked yields -/
def Itq (K : PySem.W.Frag) (t : Bool) (a : Addr) : It := if t = true then Itt K a else Itl K a
theorem walk_sq {K : PySem.W.Frag} {t : Bool} {a : Addr} {xs : List V} : Walk (Itq K t a) xs.length (fun H => Sq t K H a xs) (YAt xs) := by
  cases t
  · exact walk_list
  · exact walk_tup
def iSeq (K : PySem.W.Frag) (tl : TE) : TI := fun σ H R => tl σ H fun x H1 => ∃ t a xs, x = .ref a ∧ Sq t K H1 a xs ∧ R (Itq K t a) H1
theorem pi_seq {X : Cx} {l tg : Expr} {tl : TE} (hl : PE X l tl) : PI X tg l (iSeq X.K tl) := by
  refine ⟨fun pins s σ H R I h => ?_⟩
  refine thn (hl.run pins s σ H _ I h) fun v s1 ⟨x, H1, I1, r1, q1⟩ => ?_
  obtain ⟨t, a, xs, e, hq, q⟩ := q1
  subst e
  cases r1
  cases t
  · obtain ⟨its, rv, p, hz⟩ := I1.list hq
    refine wpAny_pyIter_list p.isList ?_
    refine ⟨s1.heap.objs.size, [s1.heap.objs.size], _, _, H1, rfl, I1.kept (t' := s1.toks) fun b o e => Heap.get?_push_of_some _ e, turn_list a _, ⟨_, Heap.get?_push_size _ rfl, rfl, rfl⟩, fun b hb => ?_, q⟩
    have e : b = s1.heap.objs.size := by simpa using hb
    subst e
    exact I1.fpOk (Nat.le_refl _) (I1.hok.fresh (Nat.le_refl _))
  · obtain ⟨its, rv, p, hz⟩ := I1.tuple hq
    refine wpAny_pyIter_tuple (show s1.heap.IsTuple a its.toArray from p) ?_
    refine ⟨s1.heap.objs.size, [s1.heap.objs.size], _, _, H1, rfl, I1.kept (t' := s1.toks) fun b o e => Heap.get?_push_of_some _ e, turn_tuple a _, ⟨_, Heap.get?_push_size _ rfl, rfl, rfl⟩, fun b hb => ?_, q⟩
    have e : b = s1.heap.objs.size := by simpa using hb
    subst e
    exact I1.fpOk (Nat.le_refl _) (I1.hok.fresh (Nat.le_refl _))
def iZipA (K : PySem.W.Frag) (ta : TA) : TI := fun σ H R => ta σ H fun vs H1 => ∃ t1 t2 a b xs ys, vs = [.ref a, .ref b] ∧ Sq t1 K H1 a xs ∧ Sq t2 K H1 b ys ∧ R (ItzM K t1 t2 a b) H1
theorem pi_zipA {X : Cx} {e e2 : Expr} {ta : TA} {p pos tpos : Pos} {elts : List Expr} {kk : Nat} (hg : Gl X "zip") (hm : X.mg "zip" = none) (ha : PA X [e, e2] ta)
    (hs : starEach [e, e2] X.env = (false, eval e X.env) :: starEach [e2] X.env := by rfl) (hpl : (backTo pos (starEach [e2] X.env)).any (·.1) = false := by rfl) :
    PI X (.Tuple elts kk tpos) (.Call (.Name "zip" p) [e, e2] [] pos) (iZipA X.K ta) := by
  refine ⟨fun pins s σ H R I h => ?_⟩
  refine Call_ (ld_blt I hg hm PyProof.Rows.boot_zip (PyProof.Rows.callWith_type1 (thn (ha.run pos pins s σ H _ I h) fun us s1 ⟨vs, H1, I1, r1, q1⟩ => ?_) hs hpl))
  obtain ⟨t1, t2, a, b, xs, ys, ex, hqx, hqy, q⟩ := q1
  subst ex
  cases r1 with
  | cons r rr =>
    cases rr with
    | cons r' rr =>
      cases rr
      cases r
      cases r'
      have fresh5 : ∀ c, c ∈ [s1.heap.objs.size + 4, s1.heap.objs.size + 2, s1.heap.objs.size + 3, s1.heap.objs.size, s1.heap.objs.size + 1] → FpOk X pins H1 c := fun c hcm => by
        have e' : c = s1.heap.objs.size + 4 ∨ c = s1.heap.objs.size + 2 ∨ c = s1.heap.objs.size + 3 ∨ c = s1.heap.objs.size ∨ c = s1.heap.objs.size + 1 := by simpa using hcm
        have hle : s1.heap.objs.size ≤ c := by
          rcases e' with z | z | z | z | z
          · rw [z]; exact Nat.le_add_right _ _
          · rw [z]; exact Nat.le_add_right _ _
          · rw [z]; exact Nat.le_add_right _ _
          · rw [z]; exact Nat.le_refl _
          · rw [z]; exact Nat.le_add_right _ _
        exact I1.fpOk hle (I1.hok.fresh hle)
      obtain ⟨its, rv, p1, _⟩ := inv_sq I1 hqx
      obtain ⟨its2, rv2, p2, _⟩ := inv_sq I1 hqy
      refine zip_begins2 (begins t1 a its.toArray) (begins t2 b its2.toArray) p1 p2 fun h' hz hTI hTO h1 h2 hsz hk => wpAny_pyIter_zip hz ?_
      have I2 : Inv X pins σ H1 { s1 with heap := h' } := I1.kept (t' := s1.toks) hk
      exact ⟨s1.heap.objs.size + 4, [s1.heap.objs.size + 4, s1.heap.objs.size + 2, s1.heap.objs.size + 3, s1.heap.objs.size, s1.heap.objs.size + 1], _, _, H1, rfl, I2,
        turn_zipM (t1 := t1) (t2 := t2) (zip_sep2 (N := s1.heap.objs.size) (fp1 := [a]) (fp2 := [b]) (fun c hc => by rw [List.mem_singleton.mp hc]; exact p1.lt) (fun c hc => by rw [List.mem_singleton.mp hc]; exact p2.lt)) (Nat.ne_of_lt p1.lt) (Nat.ne_of_lt (Nat.lt_succ_of_lt p2.lt)), ⟨hz, hTI, ⟨_, _, hTO⟩, isIt_new h1, isIt_new h2⟩, fresh5, q⟩
/-! ### enumerate -/
set_option maxHeartbeats 1000000 in
theorem meets_enumB {v : Value} {o : Obj} {H : Heap → Prop} (B : Begins v o H) :
    Meets (Builtin.«enumerate.__new__» ⟨[.type "enumerate", v], []⟩) (fun _ R s => H s.heap ∧
      R (.ok (.ret (.ref (s.heap.push o).objs.size))) { s with heap := (s.heap.push o).push { cls := .type "enumerate", data := .fields #[.none, .bool false, .ref s.heap.objs.size, rawInt 0, .none, .none] } }) :=
  .of_wp fun prog w A R s h => by
    obtain ⟨hp, g, d, tk, os⟩ := s; obtain ⟨h1, h⟩ := h
    have hsub := sub_enumerate
    have q1 : ∀ {A' : Around} {E : Value → Shared → Prop} {Q : Value → Shared → Prop}, Q (.ref hp.objs.size) ⟨hp.push o, g, d, tk, os⟩ → wpAny (model prog w) A' (pyIter v) Q E ⟨hp, g, d, tk, os⟩ :=
      fun q => B.iter prog w _ _ ⟨hp, g, d, tk, os⟩ _ h1 q
    wp_walk using q1
    refine wpAny_stack_any fun st => wpAny_pure ?_
    split
    · rename_i c _ _ _ _ _
      cases (c == Value.type "enumerate")
      · wp_walk using q1
        exact ⟨_, rfl, h⟩
      · wp_walk using q1
        exact ⟨_, rfl, h⟩
    · wp_walk using q1
      exact ⟨_, rfl, h⟩
section
variable {prog : Program} {w : World} {A : Around} {E : Value → Shared → Prop} {s : Shared}
theorem enum_begins1 {v : Value} {o : Obj} {H : Heap → Prop} {Q : Value → Shared → Prop} (B : Begins v o H) (h1 : H s.heap)
    (h : ∀ h', IsEnum h' (s.heap.objs.size + 1) s.heap.objs.size 0 .none → h'.get? s.heap.objs.size = some o → h'.objs.size = s.heap.objs.size + 2 →
      (∀ b o, s.heap.get? b = some o → h'.get? b = some o) → Q (.ref (s.heap.objs.size + 1)) { s with heap := h' }) :
    wpAny (model prog w) A (call (.type "enumerate") [v]) Q E s := by
  refine callType_new F.called_enumerate (by decide) (F.typeCall_enumerate_1 _) (F.newCall_enumerate_1 _) (fun obj => F.args_object_init_2 obj _) F.entry_enumerate_new
    (meets_enumB B) ⟨h1, ?_⟩
  have hz : (s.heap.push o).objs.size = s.heap.objs.size + 1 := Heap.size_push ..
  show _ ∧ _
  rw [hz]
  have he : IsEnum ((s.heap.push o).push { cls := .type "enumerate", data := .fields #[.none, .bool false, .ref s.heap.objs.size, rawInt 0, .none, .none] }) (s.heap.objs.size + 1) s.heap.objs.size 0 .none := by
    have := Heap.get?_push_size (s.heap.push o) (o := { cls := .type "enumerate", data := .fields #[.none, .bool false, .ref s.heap.objs.size, rawInt 0, .none, .none] }) rfl
    rw [hz] at this; exact this
  refine ⟨⟨_, he, rfl⟩, h _ he (Heap.get?_push_of_some _ (Heap.get?_push_size _ B.free)) (by rw [Heap.size_push, hz]) fun b o x => Heap.get?_push_of_some _ (Heap.get?_push_of_some _ x)⟩
end
def Iteq (K : PySem.W.Frag) (t : Bool) (a : Addr) : It :=
  ⟨fun i H => ∃ (xs : List V) (x : V), Sq t K H a xs ∧ xs[i]? = some x, fun i H v H' => ∃ T x, v = .ref T ∧ H T = none ∧ H' = upd H T (.tup [.int (i : Nat), x]) ∧ ∀ xs, Sq t K H a xs → xs[i]? = some x, fun i H => ∃ xs : List V, Sq t K H a xs ∧ xs.length = i⟩
theorem turn_enumq {P : Program} {w : World} {K : PySem.W.Frag} {elts : List Expr} {kk : Nat} {tpos : Pos} {t : Bool} (a e it : Addr) (hai : a ≠ it) (hea : e ≠ a) :
    Turn P w K (.Tuple elts kk tpos) (Iteq K t a) [e, it] e (fun i h => (∃ old, IsEnum h e it ((i : Nat) : Int) old) ∧ IsIt t h it a i ∧ e ≠ it) where
  mem := by simp
  obj := fun i h st b hb => by
    obtain ⟨⟨old, he⟩, hi, _⟩ := st
    have e' : b = e ∨ b = it := by simpa using hb
    rcases e' with z | z
    · rw [z]; exact ⟨_, he, fun v q => nomatch q⟩
    · rw [z]; exact hi.ob
  keep := fun i h h' st k => let ⟨⟨old, he⟩, hi, hne⟩ := st; ⟨⟨old, k e (by simp) _ he⟩, hi.at fun o q => k it (by simp) o q, hne⟩
  item := by
    intro X hP hw hK hc i pins s σ H E I hf st hg
    subst hP hw hK
    obtain ⟨⟨old, he⟩, hit, hne⟩ := st
    obtain ⟨xs, x, hq, hx⟩ := hg
    obtain ⟨its, rv, p, hz⟩ := inv_sq I hq
    have l1 := rv.length
    have hx1 := (List.getElem?_eq_some_iff.mp hx).1
    have hel : e < s.heap.objs.size := Heap.lt_size he
    have hil : it < s.heap.objs.size := by obtain ⟨_, q, _⟩ := hit.ob; exact Heap.lt_size q
    have hh : X.A.in1.handled = none := I.ok.hd hc
    refine wpAny_pyNext_enum_itemD (draws t hh it a hai its.toArray) he ⟨hit, p⟩ (by simp; omega) hne (by simp [hne, hea]) fun u h' tk hu ho hst' hT hsz hk => ?_
    obtain ⟨x', hx', ru⟩ := vals_got rv (show its[i]? = some u by simpa using hu)
    rw [hx] at hx'
    cases hx'
    refine ⟨_, rfl, wpAny_letOwnedTupleGo_enum (s := { s with heap := h', toks := tk + 1 }) ho fun h'' he' sb => ?_⟩
    have hT2 : h''.get? s.heap.objs.size = some { cls := .type "tuple", data := .seq #[.int i tk, u] } := (sb.2 _ (Nat.ne_of_gt hel)).trans hT
    have new : ObjOk X.prog X.w (upd H s.heap.objs.size (.tup [.int (i : Nat), x])) h'' s.heap.objs.size (.tup [.int (i : Nat), x]) :=
      ⟨by show 2 ≤ sizeLine; decide, [.int i tk, u], .cons ⟨_, rfl⟩ (.cons ru .nil), ⟨_, hT2, rfl, _, rfl⟩⟩
    have I1 : Inv X pins σ (upd H s.heap.objs.size (.tup [.int (i : Nat), x])) { s with heap := h'', toks := tk + 1 } :=
      I.turnedNew (ch := [e, it]) (fun b ob hb q => (sb.2 b (fun z => hb (by simp [z]))).trans (hk b ob (fun z => hb (by simp [z])) (fun z => hb (by simp [z])) q)) hf (Nat.le_refl _) new
    refine ⟨.ref s.heap.objs.size, _, I1, rfl, ⟨_, x, rfl, I.hok.fresh (Nat.le_refl _), rfl, fun ys hy => by rw [inv_sq_inj I hy hq]; exact hx⟩, ⟨⟨u, ?_⟩, hst'.1.at fun o q => (sb.2 it (Ne.symm hne)).trans q, hne⟩, fun b hb => ?_⟩
    · have e1 : ((i + 1 : Nat) : Int) = (i : Int) + 1 := by omega
      rw [e1]; exact he'
    · have hb' : b < s.heap.objs.size := by
        have e' : b = e ∨ b = it := by simpa using hb
        rcases e' with z | z
        · rw [z]; exact hel
        · rw [z]; exact hil
      rw [upd_ne (Nat.ne_of_lt hb')]
      exact (hf b hb).1
  done := by
    intro X hP hw hK hc i pins s σ H E I hf st hg
    subst hP hw hK
    obtain ⟨⟨old, he⟩, hit, hne⟩ := st
    obtain ⟨xs, hq, hx⟩ := hg
    obtain ⟨its, rv, p, hz⟩ := inv_sq I hq
    obtain ⟨f0, f1, f2, f3, f4, f5⟩ := hf it (by simp)
    have hl := rv.length
    have hh : X.A.in1.handled = none := I.ok.hd hc
    have en : i = its.toArray.size := by simp; omega
    subst en
    exact wpAny_pyNext_enum_endD (draws t hh it a hai its.toArray) he ⟨hit, p⟩ fun h' eb => ⟨rfl, I.turned (t' := s.toks) (fun b o hb q => eb b o hb q) f0 f1 f3 f4 f5⟩
  self := fun A i s Q E st h => let ⟨⟨_, he⟩, _⟩ := st; wpAny_pyIter_enum he h
def iEnumA (K : PySem.W.Frag) (ta : TA) : TI := fun σ H R => ta σ H fun vs H1 => ∃ t a xs, vs = [.ref a] ∧ Sq t K H1 a xs ∧ R (Iteq K t a) H1
theorem pi_enumA {X : Cx} {e : Expr} {ta : TA} {p pos tpos : Pos} {elts : List Expr} {kk : Nat} (hg : Gl X "enumerate") (hm : X.mg "enumerate" = none) (ha : PA X [e] ta) (hs : starEach [e] X.env = [(false, eval e X.env)] := by rfl) :
    PI X (.Tuple elts kk tpos) (.Call (.Name "enumerate" p) [e] [] pos) (iEnumA X.K ta) := by
  refine ⟨fun pins s σ H R I h => ?_⟩
  refine Call_ (ld_blt I hg hm boot_enumerate (PyProof.Rows.callWith_type1 (thn (ha.run pos pins s σ H _ I h) fun us s1 ⟨vs, H1, I1, r1, q1⟩ => ?_) hs rfl))
  obtain ⟨t, a, xs, ex, hq, q⟩ := q1
  subst ex
  cases r1 with
  | cons r rr =>
    cases rr
    cases r
    obtain ⟨its, rv, p', hz⟩ := inv_sq I1 hq
    refine enum_begins1 (begins t a its.toArray) p' fun h' he hit hsz hk => wpAny_pyIter_enum he ?_
    have I2 : Inv X pins σ H1 { s1 with heap := h' } := I1.kept (t' := s1.toks) hk
    have lt := p'.lt
    refine ⟨s1.heap.objs.size + 1, [s1.heap.objs.size + 1, s1.heap.objs.size], _, _, H1, rfl, I2, turn_enumq (t := t) a (s1.heap.objs.size + 1) s1.heap.objs.size (Nat.ne_of_lt lt) (Nat.ne_of_gt (Nat.lt_succ_of_lt lt)), ⟨⟨.none, he⟩, isIt_new hit, Nat.succ_ne_self _⟩, fun b hb => ?_, q⟩
    have e' : b = s1.heap.objs.size + 1 ∨ b = s1.heap.objs.size := by simpa using hb
    have hle : s1.heap.objs.size ≤ b := by
      rcases e' with z | z
      · rw [z]; exact Nat.le_add_right _ _
      · rw [z]; exact Nat.le_refl _
    exact I1.fpOk hle (I1.hok.fresh hle)
theorem walk_enumq {K : PySem.W.Frag} {t : Bool} {a : Addr} {xs : List V} : Walk (Iteq K t a) xs.length (fun H => Sq t K H a xs) (YPair (fun i => some (.int (i : Nat))) (fun i => xs[i]?)) := by
  refine ⟨fun i _ hi q => ⟨xs, xs[i], q, by simp [hi]⟩, fun _ q => ⟨xs, q, rfl⟩, fun i H v H' _ q y => ?_⟩
  obtain ⟨T, x, h1, h2, h3, h4⟩ := y
  exact ⟨T, .int (i : Nat), x, h1, h2, h3, rfl, h4 xs q⟩
end G
/-! Rules7: {t: v} with a tuple as its key. -/
namespace G
open PySem PySem.Spec PyProof.Rows L2
def tDisp1T (tk tv : TE) : TE := fun σ H Q => ∀ p, H p = none → tk σ (upd H p (.dT [])) fun x H1 => tv σ H1 fun y H2 => H2 p = some (.dT []) ∧ ∃ (b : Addr) (k : List Key), x = .ref b ∧ H2 b = some (.tup (k.map kV)) ∧ Q (.ref p) (upd H2 p (.dT [(k, y)]))
theorem pe_disp1T {X : Cx} {pos : Pos} {k v : Expr} {tk tv : TE} (hu : X.A.units + 1 < cLine) (hk : PE X k tk) (hv : PE X v tv) : PE X (.Dict [some k] [v] pos) (tDisp1T tk tv) := by
  refine ⟨fun pins s σ H Q I q => ?_⟩
  have hn := I.hok.fresh (Nat.le_refl s.heap.objs.size)
  have I1 := I.laid (a := s.heap.objs.size) (o := .dT []) (h' := s.heap.push { cls := .type "dict", data := .dict #[] }) (t' := s.toks) (fun _ _ q => Heap.get?_push_of_some _ q) (Nat.le_refl _) (dt_empty s.heap I.big)
  have hshape := zip_pairTrees [some k] [v] X.env pos rfl rfl
  have hp : pairTrees [some k] [v] X.env pos = [(eval k X.env, do let x ← eval v X.env; standAt pos; pure x)] := rfl
  have hlen : (pairTrees [some k] [v] X.env pos).length ≤ 15 := by rw [hp]; show 1 ≤ 15; decide
  have h0 : pairTrees [some k] [v] X.env pos ≠ [] := by rw [hp]; exact fun z => nomatch z
  rw [arm_eval_Dict, hshape, dictDisplay_pairs _ h0 (by omega)]
  refine wpAny_bind (wpAny_standAt (wpAny_bind (wpAny_subDictH (knd := tupleKind (mixKind X.prog X.w)) (Q := fun d s' => wpAny (model X.prog X.w) X.A (pure (Value.ref d)) (EP X pins σ Q) X.xe s') (show X.A.units < cLine by omega) hlen ?_)))
  refine pairTrees_cons_walk (thn (hk.run pins _ σ _ _ I1 (q _ hn)) fun u s1 ⟨x, H1, I2, rx, q1⟩ => thn (hv.run pins s1 σ H1 _ I2 q1) fun w2 s2 ⟨y, H2, I3, ry, e, b, kk, ex, eb, q2⟩ => ?_)
  subst ex
  cases (show u = Value.ref b from rx)
  refine pairTrees_nil_walk ?_
  obtain ⟨z, hd, xs, rel, dd⟩ := dt_of I3.hok e
  cases rel
  refine ⟨[(kk, b, w2)], ⟨rfl, rfl, key_of I3.hok eb, trivial⟩, dd, fun h' tk dd' hs => wpAny_pure ⟨.ref s.heap.objs.size, _, ?_, rfl, q2⟩⟩
  obtain ⟨qo, es, ep, hq, h2, h3, h4, _, h5⟩ := dd'
  have st : storedAllH [] [(kk, b, w2)] = [(kk, b, w2)] := rfl
  rw [st] at h4 h5
  have I4 : Inv X pins σ H2 { s2 with toks := tk } := I3.tok _
  refine d_write (s := { s2 with toks := tk }) I4 (by rw [e]; exact True.intro) hs ⟨qo, hq⟩ ⟨by show 1 ≤ sizeLine; decide, hd, [(kk, b, w2)], .cons ⟨rfl, ?_, ry⟩ .nil, qo, es, ep, hq, h2, h3, h4, h5⟩
  rw [upd_ne (ne_of eb e (fun z => nomatch z))]
  exact eb
end G
/-! Rules8: a tuple known with its object (so that its methods are found): tuple(d), t.m(x). -/
namespace G
open PySem PySem.Spec PyProof.Rows L2
section
variable {X : Cx}
/-- tuple(d): its keys; the tuple is known with its object -/
def rTupDF : List V → Hp → VK → Prop := fun xs H Q => ∃ (d : Addr) (kvs : List (Key × V)), xs = [.ref d] ∧ H d = some (.dK kvs) ∧ ∀ q o, H q = none → o.dict = none → Q (.ref q) (upd H q (.frz o (.tup (kvs.map fun kv => kV kv.1))))
theorem call_tupDF (hc : X.calm = true) : CallR X (.type "tuple") rTupDF := by
  intro pins s σ H xs us Q I r h
  obtain ⟨d, kvs, rfl, hd, q⟩ := h
  obtain ⟨u, rfl, ru⟩ := vals1 r
  obtain rfl : u = .ref d := ru
  obtain ⟨hz, hs0, vs, kv, hdo⟩ := I.hok d _ hd
  obtain ⟨ep, hat⟩ := hdo.dictAt
  have lk : kvs.length = vs.length := Paired.length kv
  have K := PySem.W.kdl_dict (prog := X.prog) (w := X.w) (knd := mixKind X.prog X.w) (d := d) (kvs := vs) (ep := ep) hs0
  refine call_tuple_by (fun {Q₁} h1 => code_tuple_new_dict K (I.ok.hd hc) hat (by omega) h1) fun h' tk acc hk hacc => ?_
  have I1 : Inv X pins σ H { s with heap := h', toks := tk } := I.kept (t' := tk) hk
  have vals : Vals (kvs.map fun kv => kV kv.1) acc.toList := by
    refine vals_of_at (by rw [List.length_map, lk, Array.length_toList]; exact hacc.1.symm) fun j x u e1 e2 => ?_
    rw [List.getElem?_map] at e1
    obtain ⟨k, y, f1, f2⟩ := hacc.2 j u (by rw [← Array.getElem?_toList]; exact e2)
    cases e3 : kvs[j]? with
    | none => rw [e3] at e1; cases e1
    | some kv0 =>
      rw [e3] at e1
      obtain ⟨u', g1, g2, _⟩ := (paired_get kv e3)
      rw [f1] at g1
      cases g1
      have e4 : kV kv0.1 = x := Option.some.inj e1
      rw [← e4, g2]
      exact relV_key f2
  have hz2 : (kvs.map fun kv => kV kv.1).length ≤ sizeLine := by rw [List.length_map]; exact hz
  have e : acc.toList.toArray = acc := by simp
  refine ⟨.ref h'.objs.size, _, I1.laid (t' := tk) (o := .frz { cls := .type "tuple", data := .seq acc } (.tup (kvs.map fun kv => kV kv.1))) (fun b ob q => Heap.get?_push_of_some _ q) (Nat.le_refl _) ⟨Heap.get?_push_size _ rfl, hz2, acc.toList, vals, ?_⟩, rfl, q _ _ (I1.hok.fresh (Nat.le_refl _)) rfl⟩
  rw [e]
  exact IsTup.new _ _
/-- o.m(e, ..), o a tuple known with its object -/
def tBMF (r : V → List V → Hp → VK → Prop) (to : TE) (t : TA) : TE := fun σ H Q => to σ H fun x H1 => (∃ a o xs, x = .ref a ∧ H1 a = some (.frz o (.tup xs)) ∧ o.dict = none) ∧ t σ H1 fun xs H2 => r x xs H2 Q
variable {o e : Expr} {es : List Expr} {to : TE} {t : TA} {name : Str} {apos cpos : Pos} {id : String} {r : V → List V → Hp → VK → Prop}
theorem pe_bmF (pa : PlainAttrs "tuple") (slot : Slot "tuple" name id) (hty : typeOf (.builtin id) = pure (.type "method_descriptor")) (hm : MtR X id r) (ho : PE X o to) (ha : PA X (e :: es) t)
    (hbase : attributeBase o name X.env (eval o X.env) = eval o X.env := by rfl)
    (hfew : ((backTo cpos (starEach (e :: es) X.env)).all (fun x => !x.1) && (backToKw cpos (keywordEach [] X.env)).all (fun x => x.1.isSome)
      && decide ((e :: es).length + ([] : List Keyword).length + (if ([] : List Keyword).isEmpty then 0 else 1) < 30)) = true := by rfl)
    (hline : (apos.endLine == cpos.line) = true := by rfl) (hs : starEach (e :: es) X.env = (false, eval e X.env) :: starEach es X.env := by rfl) (hplain : (backTo cpos (starEach es X.env)).any (·.1) = false := by rfl) :
    PE X (.Call (.Attribute o name apos) (e :: es) [] cpos) (tBMF r to t) := by
  refine ⟨fun pins s σ H Q I h => ?_⟩
  refine wpAny_Call_method_late hbase hfew hline rfl (thn (ho.run pins s σ H _ I h) fun v s1 ⟨x, H1, I1, r1, ty, q1⟩ => ?_)
  obtain ⟨a, ob, xs, rfl, hH, hd⟩ := ty
  cases r1
  obtain ⟨hob, _, its, rv, ⟨ob', hob', hcls, _⟩⟩ := I1.hok a _ hH
  rw [hob] at hob'
  cases hob'
  refine ⟨"tuple", id, pa, slot, hty, ⟨_, hob, hcls⟩, fun a e => by cases e; exact ⟨_, hob, hd⟩, ?_⟩
  have hA := ha.run cpos pins s1 σ H1 _ I1 q1
  rw [hs] at hA ⊢
  refine Calls.callWith_builtin (by show (false || (backTo cpos (starEach es X.env)).any (·.1)) = false; rw [hplain] <;> rfl) (Calls.evalArgs_plain ?_)
  exact thn hA fun us s2 ⟨vs, H2, I2, r2, q2⟩ => hm pins s2 σ H2 (.ref a) vs (.ref a) us Q I2 rfl r2 q2
end
end G
/-! M1: values as trees over a frozen part F of the heap H; the bag; slots; how states are related. -/
namespace M
open PySem PySem.Spec PyProof.Rows L2
abbrev D := PyData
/-! ### trees over the frozen part -/
mutual
inductive Im (F : Hp) : V → D → Prop
  | non : Im F .non .none
  | bl (b : Bool) : Im F (.bl b) (.bool b)
  | int (i : Int) : Im F (.int i) (.int i)
  | str (x : Str) : Im F (.str x) (.str x)
  | tup {a : Addr} {xs : List V} {ds : List D} : F a = some (.tup xs) → ImA F xs ds → Im F (.ref a) (.tuple ds)
  | lst {a : Addr} {xs : List V} {ds : List D} : F a = some (.lst xs) → ImA F xs ds → Im F (.ref a) (.list ds)
  | dct {a : Addr} {kvs : List (Key × V)} : F a = some (.dK kvs) → Im F (.ref a) (.dict [])
inductive ImA (F : Hp) : List V → List D → Prop
  | nil : ImA F [] []
  | cons {v : V} {vs : List V} {d : D} {ds : List D} : Im F v d → ImA F vs ds → ImA F (v :: vs) (d :: ds)
end
mutual
theorem Im.same {H H' : Hp} (m : Same H H') : ∀ {d : D} {v : V}, Im H v d → Im H' v d
  | _, _, .non => .non
  | _, _, .bl b => .bl b
  | _, _, .int i => .int i
  | _, _, .str x => .str x
  | _, _, .tup h r => .tup (m _ _ h) (ImA.same m r)
  | _, _, .lst h r => .lst (m _ _ h) (ImA.same m r)
  | _, _, .dct h => .dct (m _ _ h)
theorem ImA.same {H H' : Hp} (m : Same H H') : ∀ {ds : List D} {vs : List V}, ImA H vs ds → ImA H' vs ds
  | _, _, .nil => .nil
  | _, _, .cons a b => .cons (Im.same m a) (ImA.same m b)
end
theorem ImA.length : ∀ {H : Hp} {vs : List V} {ds : List D}, ImA H vs ds → vs.length = ds.length
  | _, _, _, .nil => rfl
  | _, _, _, .cons _ t => by rw [List.length_cons, List.length_cons, ImA.length t]
theorem ImA.get : ∀ {H : Hp} {vs : List V} {ds : List D}, ImA H vs ds → ∀ {i : Nat} {v : V}, vs[i]? = some v → ∃ d, ds[i]? = some d ∧ Im H v d
  | _, _, _, .nil, _, _, e => by simp at e
  | _, _, _, .cons r _, 0, _, e => by simp at e; subst e; exact ⟨_, rfl, r⟩
  | _, _, _, .cons _ t, i + 1, v, e => by
    obtain ⟨d, h1, h2⟩ := ImA.get t (i := i) (v := v) (by simpa using e)
    exact ⟨d, by simpa using h1, h2⟩
theorem ImA.getD : ∀ {H : Hp} {vs : List V} {ds : List D}, ImA H vs ds → ∀ {i : Nat} {d : D}, ds[i]? = some d → ∃ v, vs[i]? = some v ∧ Im H v d
  | _, _, _, .nil, _, _, e => by simp at e
  | _, _, _, .cons r _, 0, _, e => by simp at e; subst e; exact ⟨_, rfl, r⟩
  | _, _, _, .cons _ t, i + 1, v, e => by
    obtain ⟨d, h1, h2⟩ := ImA.getD t (i := i) (d := v) (by simpa using e)
    exact ⟨d, by simpa using h1, h2⟩
theorem ImA.append : ∀ {H : Hp} {vs ws : List V} {ds es : List D}, ImA H vs ds → ImA H ws es → ImA H (vs ++ ws) (ds ++ es)
  | _, _, _, _, _, .nil, s => s
  | _, _, _, _, _, .cons r t, s => .cons r (ImA.append t s)
theorem ImA.snoc {H : Hp} {vs : List V} {ds : List D} {v : V} {d : D} (a : ImA H vs ds) (b : Im H v d) : ImA H (vs ++ [v]) (ds ++ [d]) := a.append (.cons b .nil)
theorem ImA.take : ∀ {H : Hp} {vs : List V} {ds : List D} (n : Nat), ImA H vs ds → ImA H (vs.take n) (ds.take n)
  | _, _, _, 0, _ => .nil
  | _, _, _, _ + 1, .nil => .nil
  | _, _, _, n + 1, .cons r t => .cons r (ImA.take n t)
theorem ImA.drop : ∀ {H : Hp} {vs : List V} {ds : List D} (n : Nat), ImA H vs ds → ImA H (vs.drop n) (ds.drop n)
  | _, _, _, 0, r => r
  | _, _, _, _ + 1, .nil => .nil
  | _, _, _, n + 1, .cons _ t => ImA.drop n t
theorem ImA.reverse : ∀ {H : Hp} {vs : List V} {ds : List D}, ImA H vs ds → ImA H vs.reverse ds.reverse
  | _, _, _, .nil => .nil
  | _, _, _, .cons r t => by
    rw [List.reverse_cons, List.reverse_cons]
    exact t.reverse.snoc r
theorem ImA.set {H : Hp} {v : V} {d : D} (b : Im H v d) : ∀ {vs : List V} {ds : List D} (n : Nat), ImA H vs ds → ImA H (vs.set n v) (ds.set n d)
  | _, _, _, .nil => .nil
  | _, _, 0, .cons _ t => .cons b t
  | _, _, n + 1, .cons r t => .cons r (ImA.set b n t)
theorem ImA.eraseIdx {H : Hp} : ∀ {vs : List V} {ds : List D} (n : Nat), ImA H vs ds → ImA H (vs.eraseIdx n) (ds.eraseIdx n)
  | _, _, _, .nil => .nil
  | _, _, 0, .cons _ t => t
  | _, _, n + 1, .cons r t => .cons r (ImA.eraseIdx n t)
theorem ImA.dropLast {H : Hp} : ∀ {vs : List V} {ds : List D}, ImA H vs ds → ImA H vs.dropLast ds.dropLast
  | _, _, .nil => .nil
  | _, _, .cons r .nil => .nil
  | _, _, .cons r (.cons r' t) => .cons r (ImA.dropLast (.cons r' t))
theorem ImA.ints {H : Hp} : ∀ (ns : List Int), ImA H (ns.map V.int) (ns.map PyData.int)
  | [] => .nil
  | _ :: r => .cons (.int _) (ImA.ints r)
theorem ImA.of_ints {H : Hp} : ∀ {ns : List Int} {vs : List V}, ImA H vs (ns.map PyData.int) → vs = ns.map V.int
  | [], _, .nil => rfl
  | _ :: r, _, .cons h t => by
    cases h
    rw [ImA.of_ints (ns := r) t]
    rfl
theorem ImA.of_bools {H : Hp} : ∀ {ns : List Bool} {vs : List V}, ImA H vs (ns.map PyData.bool) → vs = ns.map V.bl
  | [], _, .nil => rfl
  | _ :: r, _, .cons h t => by
    cases h
    rw [ImA.of_bools (ns := r) t]
    rfl
/-! ### the bag that the law draws from -/
structure Bag where
  n : Int
  m : Int
  k : Int
  cells : List Int
  small : cells.length ≤ 63
def BagAt (b : Addr) (F H : Hp) (β : Bag) : Prop := ∃ c, H b = some (.lst [.int β.n, .int β.m, .int β.k, .ref c]) ∧ F b = none ∧ F c = some (.lst (β.cells.map V.int))
structure Wd (b : Addr) (β : Bag) (F H : Hp) : Prop where
  le : Same F H
  bag : BagAt b F H β
/-- a step: what stood stands (but the bag), what was frozen is so, nothing that stood became frozen -/
structure Stp (b : Addr) (F H F' H' : Hp) : Prop where
  keep : ∀ a o, H a = some o → ∃ o', H' a = some o' ∧ (a ≠ b → o' = o)
  fz : ∀ a o, H a = some o → F' a = F a
section
variable {b : Addr} {β β' : Bag} {F H F' H' F2 H2 : Hp}
theorem Stp.refl : Stp b F H F H := ⟨fun _ o h => ⟨o, h, fun _ => rfl⟩, fun _ _ _ => rfl⟩
theorem Stp.trans (s : Stp b F H F' H') (t : Stp b F' H' F2 H2) : Stp b F H F2 H2 := by
  refine ⟨fun a o h => ?_, fun a o h => ?_⟩
  · obtain ⟨o1, h1, e1⟩ := s.keep a o h
    obtain ⟨o2, h2, e2⟩ := t.keep a o1 h1
    exact ⟨o2, h2, fun n => (e2 n).trans (e1 n)⟩
  · obtain ⟨o1, h1, _⟩ := s.keep a o h
    rw [t.fz a o1 h1, s.fz a o h]
theorem Stp.same (s : Stp b F H F' H') (w : Same F H) : Same F F' := fun a o h => by
  rw [s.fz a o (w a o h)]
  exact h
theorem Stp.kp (s : Stp b F H F' H') {a : Addr} {o : HO} (n : a ≠ b) (h : H a = some o) : H' a = some o := by
  obtain ⟨o', h1, e⟩ := s.keep a o h
  rw [h1, e n]
/-- what is behind a step is free was free -/
theorem Stp.free (s : Stp b F H F' H') {a : Addr} (h : H' a = none) : H a = none := by
  cases q : H a with
  | none => rfl
  | some o =>
    obtain ⟨o', h1, _⟩ := s.keep a o q
    rw [h] at h1
    cases h1
theorem Wd.ne (w : Wd b β F H) {a : Addr} (h : H a = none) : a ≠ b := fun e => by
  obtain ⟨c, h1, _⟩ := w.bag
  rw [← e, h] at h1
  cases h1
theorem Wd.fnone (w : Wd b β F H) {a : Addr} (h : H a = none) : F a = none := w.le.free h
/-- a new object, frozen -/
theorem Wd.put (w : Wd b β F H) {p : Addr} {o : HO} (h : H p = none) : Wd b β (upd F p o) (upd H p o) := by
  have hf := w.fnone h
  have hb := w.ne h
  obtain ⟨c, h1, h2, h3⟩ := w.bag
  refine ⟨fun a u e => ?_, c, ?_, ?_, ?_⟩
  · by_cases z : a = p
    · subst z
      rw [upd_same] at e ⊢
      exact e
    · rw [upd_ne z] at e ⊢
      exact w.le a u e
  · rw [upd_ne hb.symm]; exact h1
  · rw [upd_ne hb.symm]; exact h2
  · rw [upd_ne (fun z => by rw [z, hf] at h3; cases h3)]; exact h3
theorem Stp.put {p : Addr} {o : HO} (h : H p = none) : Stp b F H (upd F p o) (upd H p o) :=
  ⟨fun a u e => ⟨u, by rw [upd_ne (fun z => by rw [z, h] at e; cases e)]; exact e, fun _ => rfl⟩, fun a u e => upd_ne (fun z => by rw [z, h] at e; cases e)⟩
/-- a new object, owned -/
theorem Wd.own (w : Wd b β F H) {p : Addr} {o : HO} (hf : F p = none) (hb : p ≠ b) : Wd b β F (upd H p o) := by
  obtain ⟨c, h1, h2, h3⟩ := w.bag
  refine ⟨fun a u e => ?_, c, ?_, h2, h3⟩
  · rw [upd_ne (fun z => by rw [z, hf] at e; cases e)]
    exact w.le a u e
  · rw [upd_ne hb.symm]; exact h1
theorem Stp.own {p : Addr} {o : HO} (h : H p = none) : Stp b F H F (upd H p o) :=
  ⟨fun a u e => ⟨u, by rw [upd_ne (fun z => by rw [z, h] at e; cases e)]; exact e, fun _ => rfl⟩, fun a u e => rfl⟩
/-- an object made since is changed -/
theorem Stp.mut (s : Stp b F H F' H') {p : Addr} {o : HO} (h : H p = none) : Stp b F H F' (upd H' p o) :=
  ⟨fun a u e => let ⟨o', h1, h2⟩ := s.keep a u e; ⟨o', by rw [upd_ne (fun z => by rw [z, h] at e; cases e)]; exact h1, h2⟩, s.fz⟩
/-- an object made since is frozen -/
theorem Stp.frz (s : Stp b F H F' H') {p : Addr} {o : HO} (h : H p = none) : Stp b F H (upd F' p o) H' :=
  ⟨s.keep, fun a u e => by rw [upd_ne (fun z => by rw [z, h] at e; cases e)]; exact s.fz a u e⟩
theorem Wd.frz (w : Wd b β F H) {p : Addr} {o : HO} (h : H p = some o) (hf : F p = none) (hb : p ≠ b) : Wd b β (upd F p o) H := by
  obtain ⟨c, h1, h2, h3⟩ := w.bag
  refine ⟨fun a u e => ?_, c, h1, ?_, ?_⟩
  · by_cases z : a = p
    · subst z
      rw [upd_same] at e
      rw [h]
      exact e
    · rw [upd_ne z] at e
      exact w.le a u e
  · rw [upd_ne hb.symm]; exact h2
  · rw [upd_ne (fun z => by rw [z, hf] at h3; cases h3)]; exact h3
theorem same_put {p : Addr} {o : HO} (hf : F p = none) : Same F (upd F p o) := fun a u e => by
  rw [upd_ne (fun z => by rw [z, hf] at e; cases e)]
  exact e
end
/-! ### slots -/
inductive ImK {κ : Type} (F : Hp) : List (κ × V) → List (κ × D) → Prop
  | nil : ImK F [] []
  | cons {k : κ} {v : V} {d : D} {r : List (κ × V)} {s : List (κ × D)} : Im F v d → ImK F r s → ImK F ((k, v) :: r) ((k, d) :: s)
theorem ImK.same {κ : Type} {F F' : Hp} (m : Same F F') : ∀ {r : List (κ × V)} {s : List (κ × D)}, ImK F r s → ImK F' r s
  | _, _, .nil => .nil
  | _, _, .cons a t => .cons (a.same m) (ImK.same m t)
inductive Slot
  | no
  | v (d : D)
  | own (ds : List D)
  | dk (kvs : List (Key × D))
  | dt (kvs : List (List Key × D))
  | bag
  | fn (x : Str)
def Slot.isOwn : Slot → Bool
  | .own _ => true
  | .dk _ => true
  | .dt _ => true
  | _ => false
structure Ow (b : Addr) (H0 F : Hp) (a : Addr) : Prop where
  nb : a ≠ b
  nf : F a = none
  n0 : H0 a = none
def SlotR (mg : Str → Option Value) (b : Addr) (H0 F H : Hp) : Slot → V → Prop
  | .no, _ => True
  | .v d, u => Im F u d
  | .own ds, u => ∃ a xs, u = .ref a ∧ Ow b H0 F a ∧ H a = some (.lst xs) ∧ ImA F xs ds
  | .dk kvs, u => ∃ a ks, u = .ref a ∧ Ow b H0 F a ∧ H a = some (.dK ks) ∧ ImK F ks kvs
  | .dt kvs, u => ∃ a ks, u = .ref a ∧ Ow b H0 F a ∧ H a = some (.dT ks) ∧ ImK F ks kvs
  | .bag, u => u = .ref b
  | .fn x, u => ∃ f, mg x = some (.ref f) ∧ u = .ref f
structure Rep (mg : Str → Option Value) (b : Addr) (H0 F H : Hp) (ρ : List Slot) (σ : L2.St) : Prop where
  len : ρ.length = σ.length
  atS : ∀ (i : Nat) (s : Slot), ρ[i]? = some s → s = .no ∨ ∃ u, σ[i]? = some (some u) ∧ SlotR mg b H0 F H s u
  inj : ∀ (i j : Nat) (s t : Slot) (a : Addr), ρ[i]? = some s → ρ[j]? = some t → s.isOwn = true → t.isOwn = true → σ[i]? = some (some (.ref a)) → σ[j]? = some (some (.ref a)) → i = j
section
variable {mg : Str → Option Value} {b : Addr} {H0 F H F' H' : Hp} {ρ : List Slot} {σ : L2.St}
theorem SlotR.step {s : Slot} {u : V} (r : SlotR mg b H0 F H s u) (t : Stp b F H F' H') (w : Same F H) : SlotR mg b H0 F' H' s u := by
  have m := t.same w
  cases s with
  | no => trivial
  | v d => exact Im.same m r
  | own ds =>
    obtain ⟨a, xs, e, o, h, i⟩ := r
    exact ⟨a, xs, e, ⟨o.nb, by rw [t.fz a _ h]; exact o.nf, o.n0⟩, t.kp o.nb h, i.same m⟩
  | dk ds =>
    obtain ⟨a, xs, e, o, h, i⟩ := r
    exact ⟨a, xs, e, ⟨o.nb, by rw [t.fz a _ h]; exact o.nf, o.n0⟩, t.kp o.nb h, i.same m⟩
  | dt ds =>
    obtain ⟨a, xs, e, o, h, i⟩ := r
    exact ⟨a, xs, e, ⟨o.nb, by rw [t.fz a _ h]; exact o.nf, o.n0⟩, t.kp o.nb h, i.same m⟩
  | bag => exact r
  | fn x => exact r
theorem Rep.step (r : Rep mg b H0 F H ρ σ) (t : Stp b F H F' H') (w : Same F H) : Rep mg b H0 F' H' ρ σ := by
  refine ⟨r.len, fun i s e => ?_, r.inj⟩
  rcases r.atS i s e with z | ⟨u, h, q⟩
  · exact .inl z
  · exact .inr ⟨u, h, q.step t w⟩
/-- a value is stored -/
theorem Rep.setV (r : Rep mg b H0 F H ρ σ) {u : V} {s : Slot} (i : Nat) (hs : s.isOwn = false) (h : SlotR mg b H0 F H s u) : Rep mg b H0 F H (ρ.set i s) (σ.set i (some u)) := by
  have hl := r.len
  refine ⟨by rw [List.length_set, List.length_set]; exact r.len, fun j t e => ?_, fun j k t t' a e1 e2 o1 o2 h1 h2 => ?_⟩
  · rw [List.getElem?_set] at e
    by_cases z : i = j
    · subst z
      rw [if_pos rfl] at e
      by_cases lt : i < ρ.length
      · rw [if_pos lt] at e
        cases e
        exact .inr ⟨u, by rw [List.getElem?_set, if_pos rfl, if_pos (by omega)], h⟩
      · rw [if_neg lt] at e
        cases e
    · rw [if_neg z] at e
      rcases r.atS j t e with q | ⟨u', h', q⟩
      · exact .inl q
      · exact .inr ⟨u', by rw [List.getElem?_set, if_neg z]; exact h', q⟩
  · have nz : ∀ {j : Nat} {t : Slot}, (ρ.set i s)[j]? = some t → t.isOwn = true → i ≠ j ∧ ρ[j]? = some t := fun {j t} e o => by
      rw [List.getElem?_set] at e
      by_cases z : i = j
      · rw [if_pos z] at e
        split at e
        · cases e
          rw [hs] at o
          cases o
        · cases e
      · rw [if_neg z] at e
        exact ⟨z, e⟩
    obtain ⟨z1, e1'⟩ := nz e1 o1
    obtain ⟨z2, e2'⟩ := nz e2 o2
    rw [List.getElem?_set, if_neg z1] at h1
    rw [List.getElem?_set, if_neg z2] at h2
    exact r.inj j k t t' a e1' e2' o1 o2 h1 h2
/-- an owned object is stored that no other slot owns -/
theorem Rep.setO (r : Rep mg b H0 F H ρ σ) {a : Addr} {s : Slot} (i : Nat) (h : SlotR mg b H0 F H s (.ref a)) (hn : ∀ j t, j ≠ i → ρ[j]? = some t → t.isOwn = true → σ[j]? ≠ some (some (.ref a))) : Rep mg b H0 F H (ρ.set i s) (σ.set i (some (.ref a))) := by
  have hl := r.len
  refine ⟨by rw [List.length_set, List.length_set]; exact r.len, fun j t e => ?_, fun j k t t' c e1 e2 o1 o2 h1 h2 => ?_⟩
  · rw [List.getElem?_set] at e
    by_cases z : i = j
    · subst z
      rw [if_pos rfl] at e
      by_cases lt : i < ρ.length
      · rw [if_pos lt] at e
        cases e
        exact .inr ⟨.ref a, by rw [List.getElem?_set, if_pos rfl, if_pos (by omega)], h⟩
      · rw [if_neg lt] at e
        cases e
    · rw [if_neg z] at e
      rcases r.atS j t e with q | ⟨u', h', q⟩
      · exact .inl q
      · exact .inr ⟨u', by rw [List.getElem?_set, if_neg z]; exact h', q⟩
  · by_cases z1 : i = j
    · by_cases z2 : i = k
      · rw [← z1, ← z2]
      · exfalso
        rw [List.getElem?_set, if_neg z2] at e2 h2
        rw [List.getElem?_set, if_pos z1] at h1
        split at h1
        · cases h1
          exact hn k t' (fun q => z2 q.symm) e2 o2 h2
        · cases h1
    · by_cases z2 : i = k
      · exfalso
        rw [List.getElem?_set, if_neg z1] at e1 h1
        rw [List.getElem?_set, if_pos z2] at h2
        split at h2
        · cases h2
          exact hn j t (fun q => z1 q.symm) e1 o1 h1
        · cases h2
      · rw [List.getElem?_set, if_neg z1] at e1 h1
        rw [List.getElem?_set, if_neg z2] at e2 h2
        exact r.inj j k t t' c e1 e2 o1 o2 h1 h2
/-- the object that slot i owns is changed -/
theorem Rep.mut (r : Rep mg b H0 F H ρ σ) {a : Addr} {s s' : Slot} {o : HO} {i : Nat} (hi : ρ[i]? = some s) (hs : s.isOwn = true) (hσ : σ[i]? = some (some (.ref a))) (ho : Ow b H0 F a) (h : SlotR mg b H0 F (upd H a o) s' (.ref a)) (hs' : s'.isOwn = true) :
    Rep mg b H0 F (upd H a o) (ρ.set i s') σ := by
  refine ⟨by rw [List.length_set]; exact r.len, fun j t e => ?_, fun j k t t' c e1 e2 o1 o2 h1 h2 => ?_⟩
  · rw [List.getElem?_set] at e
    by_cases z : i = j
    · subst z
      rw [if_pos rfl] at e
      split at e
      · cases e
        exact .inr ⟨.ref a, hσ, h⟩
      · cases e
    · rw [if_neg z] at e
      rcases r.atS j t e with q | ⟨u', h', q⟩
      · exact .inl q
      · refine .inr ⟨u', h', ?_⟩
        have ne : ∀ {c : Addr}, t.isOwn = true → u' = .ref c → c ≠ a := fun {c} ht hu hc => by
          subst hc
          subst hu
          exact z (r.inj i j s t c hi e hs ht hσ h')
        cases t with
        | no => trivial
        | v d => exact q
        | own ds =>
          obtain ⟨c, xs, e', o', h1, im⟩ := q
          exact ⟨c, xs, e', o', by rw [upd_ne (ne rfl e')]; exact h1, im⟩
        | dk ds =>
          obtain ⟨c, xs, e', o', h1, im⟩ := q
          exact ⟨c, xs, e', o', by rw [upd_ne (ne rfl e')]; exact h1, im⟩
        | dt ds =>
          obtain ⟨c, xs, e', o', h1, im⟩ := q
          exact ⟨c, xs, e', o', by rw [upd_ne (ne rfl e')]; exact h1, im⟩
        | bag => exact q
        | fn x => exact q
  · have back : ∀ {j : Nat} {t : Slot}, (ρ.set i s')[j]? = some t → t.isOwn = true → ∃ t0, ρ[j]? = some t0 ∧ t0.isOwn = true := fun {j t} e o => by
      rw [List.getElem?_set] at e
      by_cases z : i = j
      · subst z
        exact ⟨s, hi, hs⟩
      · rw [if_neg z] at e
        exact ⟨t, e, o⟩
    obtain ⟨t1, f1, p1⟩ := back e1 o1
    obtain ⟨t2, f2, p2⟩ := back e2 o2
    exact r.inj j k t1 t2 c f1 f2 p1 p2 h1 h2
/-- the list that slot i owns is frozen -/
theorem Rep.frz (r : Rep mg b H0 F H ρ σ) {a : Addr} {s s' : Slot} {o : HO} {i : Nat} (hi : ρ[i]? = some s) (hs : s.isOwn = true) (hσ : σ[i]? = some (some (.ref a))) (ho : Ow b H0 F a) (h : SlotR mg b H0 (upd F a o) H s' (.ref a)) (hs' : s'.isOwn = false) :
    Rep mg b H0 (upd F a o) H (ρ.set i s') σ := by
  have m : Same F (upd F a o) := same_put ho.nf
  refine ⟨by rw [List.length_set]; exact r.len, fun j t e => ?_, fun j k t t' c e1 e2 o1 o2 h1 h2 => ?_⟩
  · rw [List.getElem?_set] at e
    by_cases z : i = j
    · subst z
      rw [if_pos rfl] at e
      split at e
      · cases e
        exact .inr ⟨.ref a, hσ, h⟩
      · cases e
    · rw [if_neg z] at e
      rcases r.atS j t e with q | ⟨u', h', q⟩
      · exact .inl q
      · refine .inr ⟨u', h', ?_⟩
        have ne : ∀ {c : Addr}, t.isOwn = true → u' = .ref c → c ≠ a := fun {c} ht hu hc => by
          subst hc
          subst hu
          exact z (r.inj i j s t c hi e hs ht hσ h')
        cases t with
        | no => trivial
        | v d => exact Im.same m q
        | own ds =>
          obtain ⟨c, xs, e', o', h1, im⟩ := q
          exact ⟨c, xs, e', ⟨o'.nb, by rw [upd_ne (ne rfl e')]; exact o'.nf, o'.n0⟩, h1, im.same m⟩
        | dk ds =>
          obtain ⟨c, xs, e', o', h1, im⟩ := q
          exact ⟨c, xs, e', ⟨o'.nb, by rw [upd_ne (ne rfl e')]; exact o'.nf, o'.n0⟩, h1, im.same m⟩
        | dt ds =>
          obtain ⟨c, xs, e', o', h1, im⟩ := q
          exact ⟨c, xs, e', ⟨o'.nb, by rw [upd_ne (ne rfl e')]; exact o'.nf, o'.n0⟩, h1, im.same m⟩
        | bag => exact q
        | fn x => exact q
  · have nz : ∀ {j : Nat} {t : Slot}, (ρ.set i s')[j]? = some t → t.isOwn = true → ρ[j]? = some t := fun {j t} e o => by
      rw [List.getElem?_set] at e
      by_cases z : i = j
      · rw [if_pos z] at e
        split at e
        · cases e
          rw [hs'] at o
          cases o
        · cases e
      · rw [if_neg z] at e
        exact e
    exact r.inj j k t t' c (nz e1 o1) (nz e2 o2) o1 o2 h1 h2
end
end M
/-! M2: expressions: what they compute (a function of the slots and the bag), and that they do. -/
namespace M
open PySem PySem.Spec PyProof.Rows L2
structure Gx where
  P : Program
  w : World
  K : PySem.W.Frag
  mg : Str → Option Value
  base : Heap
  lv : Nat
structure Cond (G : Gx) (X : Cx) : Prop where
  p : X.prog = G.P
  w : X.w = G.w
  K : X.K = G.K
  mg : X.mg = G.mg
  base : X.base = G.base
  calm : X.calm = true
  room : Room G.lv X.A
theorem Cond.blk {G : Gx} {X : Cx} (c : Cond G X) (s : Shared) (H : Hp) (scope : Scope) (env : Env) (fp : List Addr) : Cond G (X.blk s H scope env fp) := ⟨c.p, c.w, c.K, c.mg, c.base, c.calm, c.room⟩
abbrev ME := List Slot → Bag → Option (D × Bag)
abbrev MT := List Slot → Bag → Option (Bool × Bag)
abbrev ML := List Slot → Bag → Option (List D × Bag)
abbrev MA := List Slot → Bag → Option (List Slot × Bag)
abbrev MO := List Slot → Bag → Option (Option Int × Bag)
abbrev VR := Addr → Hp → Hp → V → D → Prop
def imR : VR := fun _ F _ u d => Im F u d
def pkR : VR := fun b F H u d => Im F u d ∨ ∃ a xs ds, u = .ref a ∧ a ≠ b ∧ H a = some (.lst xs) ∧ ImA F xs ds ∧ d = .list ds
section
variable {b : Addr} {β : Bag} {F H F' H' : Hp} {u : V} {d : D} {ds : List D}
theorem pkR.step (r : pkR b F H u d) (t : Stp b F H F' H') (w : Same F H) : pkR b F' H' u d := by
  rcases r with r | ⟨a, xs, ds, e, n, h, i, e'⟩
  · exact .inl (r.same (t.same w))
  · exact .inr ⟨a, xs, ds, e, n, t.kp n h, i.same (t.same w), e'⟩
theorem pkR.tup (r : pkR b F H u (.tuple ds)) : ∃ a xs, u = .ref a ∧ F a = some (.tup xs) ∧ ImA F xs ds := by
  rcases r with r | ⟨a, xs, ds', e, n, h, i, e'⟩
  · cases r with
    | tup h i => exact ⟨_, _, rfl, h, i⟩
  · cases e'
theorem pkR.lst (w : Same F H) (r : pkR b F H u (.list ds)) : ∃ a xs, u = .ref a ∧ H a = some (.lst xs) ∧ ImA F xs ds := by
  rcases r with r | ⟨a, xs, ds', e, n, h, i, e'⟩
  · cases r with
    | lst h i => exact ⟨_, _, rfl, w _ _ h, i⟩
  · cases e'
    exact ⟨a, xs, e, h, i⟩
theorem pkR.int {i : Int} (r : pkR b F H u (.int i)) : u = .int i := by
  rcases r with r | ⟨_, _, _, _, _, _, _, e'⟩
  · cases r; rfl
  · cases e'
theorem pkR.str {i : Str} (r : pkR b F H u (.str i)) : u = .str i := by
  rcases r with r | ⟨_, _, _, _, _, _, _, e'⟩
  · cases r; rfl
  · cases e'
theorem pkR.bl {i : Bool} (r : pkR b F H u (.bool i)) : u = .bl i := by
  rcases r with r | ⟨_, _, _, _, _, _, _, e'⟩
  · cases r; rfl
  · cases e'
theorem pkR.non (r : pkR b F H u .none) : u = .non := by
  rcases r with r | ⟨_, _, _, _, _, _, _, e'⟩
  · cases r; rfl
  · cases e'
end
def SndE (mg : Str → Option Value) (R : VR) (te : TE) (m : ME) : Prop := ∀ (b : Addr) (H0 F H : Hp) (ρ : List Slot) (β : Bag) (σ : L2.St) (d : D) (β' : Bag) (Q : VK), Wd b β F H → Rep mg b H0 F H ρ σ → m ρ β = some (d, β') →
  (∀ u F' H', Wd b β' F' H' → Stp b F H F' H' → R b F' H' u d → Q u H') → te σ H Q
def SndT (mg : Str → Option Value) (tt : TT) (m : MT) : Prop := ∀ (b : Addr) (H0 F H : Hp) (ρ : List Slot) (β : Bag) (σ : L2.St) (c : Bool) (β' : Bag) (Q : Bool → Hp → Prop), Wd b β F H → Rep mg b H0 F H ρ σ → m ρ β = some (c, β') →
  (∀ F' H', Wd b β' F' H' → Stp b F H F' H' → Q c H') → tt σ H Q
def SndL (mg : Str → Option Value) (ta : TA) (m : ML) : Prop := ∀ (b : Addr) (H0 F H : Hp) (ρ : List Slot) (β : Bag) (σ : L2.St) (ds : List D) (β' : Bag) (Q : List V → Hp → Prop), Wd b β F H → Rep mg b H0 F H ρ σ → m ρ β = some (ds, β') →
  (∀ us F' H', Wd b β' F' H' → Stp b F H F' H' → ImA F' us ds → Q us H') → ta σ H Q
inductive ArgsR (mg : Str → Option Value) (b : Addr) (F : Hp) : List Slot → List V → Prop
  | nil : ArgsR mg b F [] []
  | v {d : D} {u : V} {ss : List Slot} {us : List V} : Im F u d → ArgsR mg b F ss us → ArgsR mg b F (.v d :: ss) (u :: us)
  | bag {ss : List Slot} {us : List V} : ArgsR mg b F ss us → ArgsR mg b F (.bag :: ss) (.ref b :: us)
  | fn {x : Str} {f : Addr} {ss : List Slot} {us : List V} : mg x = some (.ref f) → ArgsR mg b F ss us → ArgsR mg b F (.fn x :: ss) (.ref f :: us)
def SndA (mg : Str → Option Value) (ta : TA) (m : MA) : Prop := ∀ (b : Addr) (H0 F H : Hp) (ρ : List Slot) (β : Bag) (σ : L2.St) (ss : List Slot) (β' : Bag) (Q : List V → Hp → Prop), Wd b β F H → Rep mg b H0 F H ρ σ → m ρ β = some (ss, β') →
  (∀ us F' H', Wd b β' F' H' → Stp b F H F' H' → ArgsR mg b F' ss us → Q us H') → ta σ H Q
def SndO (mg : Str → Option Value) (t : TO) (m : MO) : Prop := ∀ (b : Addr) (H0 F H : Hp) (ρ : List Slot) (β : Bag) (σ : L2.St) (o : Option Int) (β' : Bag) (Q : Option Int → Hp → Prop), Wd b β F H → Rep mg b H0 F H ρ σ → m ρ β = some (o, β') →
  (∀ F' H', Wd b β' F' H' → Stp b F H F' H' → Q o H') → t σ H Q
structure Ev (G : Gx) (R : VR) (X : Cx) (e : Expr) (te : TE) (m : ME) : Prop where
  pe : Cond G X → PE X e te
  snd : SndE G.mg R te m
structure EvT (G : Gx) (X : Cx) (e : Expr) (tt : TT) (m : MT) : Prop where
  pe : Cond G X → PT X e tt
  snd : SndT G.mg tt m
structure EvL (G : Gx) (X : Cx) (es : List Expr) (ta : TA) (m : ML) : Prop where
  pe : Cond G X → PA X es ta
  snd : SndL G.mg ta m
structure EvA (G : Gx) (X : Cx) (es : List Expr) (ta : TA) (m : MA) : Prop where
  pe : Cond G X → PA X es ta
  snd : SndA G.mg ta m
structure EvO (G : Gx) (X : Cx) (e : Option Expr) (t : TO) (m : MO) : Prop where
  pe : Cond G X → PO X e t
  snd : SndO G.mg t m
section
variable {G : Gx} {R : VR} {X : Cx} {e e1 e2 e3 : Expr} {es : List Expr} {te t1 t2 t3 : TE} {ta : TA} {tt tu : TT} {m m1 m2 m3 : ME} {ml : ML} {ma : MA} {mt mu : MT} {pos p p2 : Pos}
theorem Ev.pk (h : Ev G imR X e te m) : Ev G pkR X e te m := ⟨h.pe, fun b H0 F H ρ β σ d β' Q w r hm k => h.snd b H0 F H ρ β σ d β' Q w r hm fun u F' H' w' s i => k u F' H' w' s (.inl i)⟩
/-! ### constants, names -/
def mC (d : D) : ME := fun _ β => some (d, β)
theorem snd_c {mg : Str → Option Value} {v : V} {d : D} (i : ∀ F, Im F v d) : SndE mg imR (tC v) (mC d) := fun b H0 F H ρ β σ d' β' Q w r hm k => by
  cases hm
  exact k v F H w Stp.refl (i F)
theorem ev_int {i : Int} {j : Nat} : Ev G imR X (.Constant (.int i) j pos) (tC (.int i)) (mC (.int i)) := ⟨fun _ => pe_int, snd_c fun _ => .int i⟩
theorem ev_str {x : Str} {j : Nat} : Ev G imR X (.Constant (.str x) j pos) (tC (.str x)) (mC (.str x)) := ⟨fun _ => pe_str, snd_c fun _ => .str x⟩
theorem ev_bl {x : Bool} {j : Nat} : Ev G imR X (.Constant (.bool x) j pos) (tC (.bl x)) (mC (.bool x)) := ⟨fun _ => pe_bl, snd_c fun _ => .bl x⟩
theorem ev_non {j : Nat} : Ev G imR X (.Constant .none j pos) (tC .non) (mC .none) := ⟨fun _ => pe_non, snd_c fun _ => .non⟩
theorem ev_gint {x : Str} {i : Int} {t : Tok} (hm : G.mg x = some (.int i t)) (hg : Gl X x := by rfl) (hd : (x == ("__debug__" : Str)) = false := by decide) : Ev G imR X (.Name x pos) (tC (.int i)) (mC (.int i)) :=
  ⟨fun c => pe_glob hg (by rw [c.mg]; exact hm) ⟨t, rfl⟩ hd, snd_c fun _ => .int i⟩
theorem ev_gstr {x i : Str} {t : Tok} (hm : G.mg x = some (.str i t)) (hg : Gl X x := by rfl) (hd : (x == ("__debug__" : Str)) = false := by decide) : Ev G imR X (.Name x pos) (tC (.str i)) (mC (.str i)) :=
  ⟨fun c => pe_glob hg (by rw [c.mg]; exact hm) ⟨t, rfl⟩ hd, snd_c fun _ => .str i⟩
def getV : Option Slot → Option D
  | some (.v d) => some d
  | _ => none
def getP : Option Slot → Option D
  | some (.v d) => some d
  | some (.own ds) => some (.list ds)
  | _ => none
def mNm (i : Nat) : ME := fun ρ β => (getV ρ[i]?).map fun d => (d, β)
def mPk (i : Nat) : ME := fun ρ β => (getP ρ[i]?).map fun d => (d, β)
theorem snd_nm {mg : Str → Option Value} (i : Nat) : SndE mg imR (tVar i) (mNm i) := fun b H0 F H ρ β σ d β' Q w r hm k => by
  unfold mNm at hm
  cases e : ρ[i]? with
  | none => rw [e] at hm; cases hm
  | some s =>
    rw [e] at hm
    cases s with
    | v d' =>
      cases hm
      rcases r.atS i _ e with z | ⟨u, h, q⟩
      · cases z
      · exact ⟨u, h, k u F H w Stp.refl q⟩
    | no => cases hm
    | own ds => cases hm
    | dk ds => cases hm
    | dt ds => cases hm
    | bag => cases hm
    | fn x => cases hm
theorem snd_pk {mg : Str → Option Value} (i : Nat) : SndE mg pkR (tVar i) (mPk i) := fun b H0 F H ρ β σ d β' Q w r hm k => by
  unfold mPk at hm
  cases e : ρ[i]? with
  | none => rw [e] at hm; cases hm
  | some s =>
    rw [e] at hm
    cases s with
    | v d' =>
      cases hm
      rcases r.atS i _ e with z | ⟨u, h, q⟩
      · cases z
      · exact ⟨u, h, k u F H w Stp.refl (.inl q)⟩
    | no => cases hm
    | own ds =>
      cases hm
      rcases r.atS i _ e with z | ⟨u, h, a, xs, e1, o, h1, im⟩
      · cases z
      · exact ⟨u, h, k u F H w Stp.refl (.inr ⟨a, xs, ds, e1, o.nb, h1, im, rfl⟩)⟩
    | dk ds => cases hm
    | dt ds => cases hm
    | bag => cases hm
    | fn x => cases hm
theorem ev_nm (i : Nat) {x : Str} (hN : X.N[i]? = some x := by rfl) (hv : Vis X.env.scope x := by first | exact Or.inl rfl | exact Or.inr (Or.inl rfl) | exact Or.inr (Or.inr rfl)) (hd : (x == ("__debug__" : Str)) = false := by decide)
    (hcd : (x == ("__classdict__" : Str)) = false := by decide) : Ev G imR X (.Name x pos) (tVar i) (mNm i) := ⟨fun _ => pe_var hN hv hd hcd, snd_nm i⟩
theorem ev_pk (i : Nat) {x : Str} (hN : X.N[i]? = some x := by rfl) (hv : Vis X.env.scope x := by first | exact Or.inl rfl | exact Or.inr (Or.inl rfl) | exact Or.inr (Or.inr rfl)) (hd : (x == ("__debug__" : Str)) = false := by decide)
    (hcd : (x == ("__classdict__" : Str)) = false := by decide) : Ev G pkR X (.Name x pos) (tVar i) (mPk i) := ⟨fun _ => pe_var hN hv hd hcd, snd_pk i⟩

/-! ### operators -/
def mOp (f : D → D → Option D) (m1 m2 : ME) : ME := fun ρ β => (m1 ρ β).bind fun p => (m2 ρ p.2).bind fun q => (f p.1 q.1).map fun z => (z, q.2)
def OpS (r : R2) (f : D → D → Option D) : Prop := ∀ (b : Addr) (β : Bag) (F H : Hp) (x y : V) (d e z : D) (Q : VK), Wd b β F H → pkR b F H x d → pkR b F H y e → f d e = some z →
  (∀ u F' H', Wd b β F' H' → Stp b F H F' H' → Im F' u z → Q u H') → r x y H Q
theorem snd_op {mg : Str → Option Value} {r : R2} {f : D → D → Option D} (O : OpS r f) (ha : SndE mg pkR t1 m1) (hb : SndE mg pkR t2 m2) : SndE mg imR (tOp r t1 t2) (mOp f m1 m2) := fun b H0 F H ρ β σ d β' Q w rp hm k => by
  unfold mOp at hm
  obtain ⟨⟨x, β1⟩, h1, hm⟩ := Option.bind_eq_some_iff.mp hm
  obtain ⟨⟨y, β2⟩, h2, hm⟩ := Option.bind_eq_some_iff.mp hm
  obtain ⟨z, h3, hm⟩ := Option.map_eq_some_iff.mp hm
  cases hm
  refine ha b H0 F H ρ β σ x β1 _ w rp h1 fun u1 F1 H1 w1 s1 r1 => ?_
  refine hb b H0 F1 H1 ρ β1 σ y β2 _ w1 (rp.step s1 w.le) h2 fun u2 F2 H2 w2 s2 r2 => ?_
  exact O b _ F2 H2 u1 u2 x y _ Q w2 (r1.step s2 w1.le) r2 h3 fun u F' H' w' s' i => k u F' H' w' ((s1.trans s2).trans s') i
theorem ev_op {op : Operator} {r : R2} {f : D → D → Option D} (O : OpS r f) (ho : Cond G X → OpR X (binaryOp op) r) (ha : Ev G pkR X e1 t1 m1) (hb : Ev G pkR X e2 t2 m2) : Ev G imR X (.BinOp e1 op e2 pos) (tOp r t1 t2) (mOp f m1 m2) :=
  ⟨fun c => pe_op (ho c) (ha.pe c) (hb.pe c), snd_op O ha.snd hb.snd⟩
theorem ev_cmp {op : CmpOp} {r : R2} {f : D → D → Option D} (O : OpS r f) (ho : Cond G X → OpR X (compareOp op) r) (ha : Ev G pkR X e1 t1 m1) (hb : Ev G pkR X e2 t2 m2) (hm : behindInMarks op e2 = false := by first | exact nomark _ | rfl) : Ev G imR X (.Compare e1 [op] [e2] pos) (tOp r t1 t2) (mOp f m1 m2) :=
  ⟨fun c => pe_cmpR (ho c) (ha.pe c) (hb.pe c) hm, snd_op O ha.snd hb.snd⟩
def toB : D → Option Bool
  | .bool c => some c
  | _ => none
def mTest (m : ME) : MT := fun ρ β => (m ρ β).bind fun p => (toB p.1).map fun c => (c, p.2)
theorem snd_test {mg : Str → Option Value} (h : SndE mg imR te m) : SndT mg (tTest te) (mTest m) := fun b H0 F H ρ β σ c β' Q w rp hm k => by
  unfold mTest at hm
  obtain ⟨⟨x, β1⟩, h1, hm⟩ := Option.bind_eq_some_iff.mp hm
  obtain ⟨z, h3, hm⟩ := Option.map_eq_some_iff.mp hm
  cases hm
  refine h b H0 F H ρ β σ x _ _ w rp h1 fun u F' H' w' s i => ?_
  cases x with
  | bool c' =>
    cases h3
    cases i
    exact ⟨c, rfl, k F' H' w' s⟩
  | none => cases h3
  | int i => cases h3
  | str x => cases h3
  | list x => cases h3
  | tuple x => cases h3
  | dict x => cases h3
theorem evt_cmp {op : CmpOp} {r : R2} {f : D → D → Option D} (O : OpS r f) (ho : Cond G X → OpR X (compareOp op) r) (ha : Ev G pkR X e1 t1 m1) (hb : Ev G pkR X e2 t2 m2) (hm : behindInMarks op e2 = false := by first | exact nomark _ | rfl) : EvT G X (.Compare e1 [op] [e2] pos) (tTest (tOp r t1 t2)) (mTest (mOp f m1 m2)) :=
  ⟨fun c => pt_cmpR (ho c) (ha.pe c) (hb.pe c) hm, snd_test (snd_op O ha.snd hb.snd)⟩
/-! ### chains -/
def mChain (f g : D → D → Option D) (m1 m2 m3 : ME) : ME := fun ρ β => (m1 ρ β).bind fun p => (m2 ρ p.2).bind fun q => (f p.1 q.1).bind fun z => (toB z).bind fun c => if c = true then (m3 ρ q.2).bind fun s => (g q.1 s.1).map fun z => (z, s.2) else some (.bool false, q.2)
theorem iteB {α : Type} {c : Bool} {A B : Option α} {r : α} (h : (if c = true then A else B) = some r) : (c = true ∧ A = some r) ∨ (c = false ∧ B = some r) := by
  cases c with
  | true => exact .inl ⟨rfl, h⟩
  | false => exact .inr ⟨rfl, h⟩
theorem snd_chain {mg : Str → Option Value} {r r' : R2} {f g : D → D → Option D} (O : OpS r f) (O' : OpS r' g) (ha : SndE mg pkR t1 m1) (hb : SndE mg pkR t2 m2) (hc : SndE mg pkR t3 m3) : SndE mg imR (tChain r r' t1 t2 t3) (mChain f g m1 m2 m3) := fun b H0 F H ρ β σ d β' Q w rp hm k => by
  unfold mChain at hm
  obtain ⟨⟨x, β1⟩, h1, hm⟩ := Option.bind_eq_some_iff.mp hm
  obtain ⟨⟨y, β2⟩, h2, hm⟩ := Option.bind_eq_some_iff.mp hm
  obtain ⟨z, h3, hm⟩ := Option.bind_eq_some_iff.mp hm
  obtain ⟨c, h4, hm⟩ := Option.bind_eq_some_iff.mp hm
  refine ha b H0 F H ρ β σ x β1 _ w rp h1 fun u1 F1 H1 w1 s1 r1 => ?_
  have rp1 := rp.step s1 w.le
  refine hb b H0 F1 H1 ρ β1 σ y β2 _ w1 rp1 h2 fun u2 F2 H2 w2 s2 r2 => ?_
  have rp2 := rp1.step s2 w1.le
  refine O b β2 F2 H2 u1 u2 x y z _ w2 (r1.step s2 w1.le) r2 h3 fun u F' H' w' s' i => ?_
  cases z with
  | bool c' =>
    cases h4
    cases i
    refine ⟨c, rfl, ?_⟩
    rcases iteB hm with ⟨rfl, hn⟩ | ⟨rfl, hn⟩
    · obtain ⟨⟨v, β3⟩, h5, hn⟩ := Option.bind_eq_some_iff.mp hn
      obtain ⟨z', h6, hn⟩ := Option.map_eq_some_iff.mp hn
      cases hn
      refine iteT (hc b H0 F' H' ρ β2 σ v β3 _ w' (rp2.step s' w2.le) h5 fun u3 F3 H3 w3 s3 r3 => ?_)
      exact O' b β3 F3 H3 u2 u3 y v _ Q w3 ((r2.step s' w2.le).step s3 w'.le) r3 h6 fun u F4 H4 w4 s4 i4 => k u F4 H4 w4 ((((s1.trans s2).trans s').trans s3).trans s4) i4
    · cases hn
      exact iteF (k _ _ _ w' ((s1.trans s2).trans s') (.bl false))
  | none => cases h4
  | int i => cases h4
  | str x => cases h4
  | list x => cases h4
  | tuple x => cases h4
  | dict x => cases h4
theorem ev_chain {op op' : CmpOp} {r r' : R2} {f g : D → D → Option D} (O : OpS r f) (O' : OpS r' g) (ho : Cond G X → OpR X (compareOp op) r) (ho' : Cond G X → OpR X (compareOp op') r') (ha : Ev G pkR X e1 t1 m1) (hb : Ev G pkR X e2 t2 m2) (hc : Ev G pkR X e3 t3 m3)
    (hm : lastMarks [op, op'] [e2, e3] = false := by with_unfolding_all rfl) : Ev G imR X (.Compare e1 [op, op'] [e2, e3] pos) (tChain r r' t1 t2 t3) (mChain f g m1 m2 m3) :=
  ⟨fun c => pe_chain (ho c) (ho' c) (ha.pe c) (hb.pe c) (hc.pe c) hm, snd_chain O O' ha.snd hb.snd hc.snd⟩
theorem evt_chain {op op' : CmpOp} {r r' : R2} {f g : D → D → Option D} (O : OpS r f) (O' : OpS r' g) (ho : Cond G X → OpR X (compareOp op) r) (ho' : Cond G X → OpR X (compareOp op') r') (ha : Ev G pkR X e1 t1 m1) (hb : Ev G pkR X e2 t2 m2) (hc : Ev G pkR X e3 t3 m3)
    (hm : lastMarks [op, op'] [e2, e3] = false := by with_unfolding_all rfl) : EvT G X (.Compare e1 [op, op'] [e2, e3] pos) (tTest (tChain r r' t1 t2 t3)) (mTest (mChain f g m1 m2 m3)) :=
  ⟨fun c => pt_chain (ho c) (ho' c) (ha.pe c) (hb.pe c) (hc.pe c) hm, snd_test (snd_chain O O' ha.snd hb.snd hc.snd)⟩
/-! ### truth, and, or, not, if -/
def truD : D → Option Bool
  | .none => some false
  | .bool c => some c
  | .int i => some (i != 0)
  | .list ds => some (!ds.isEmpty)
  | .tuple ds => some (!ds.isEmpty)
  | _ => none
theorem isEmptyA {F : Hp} {xs : List V} {ds : List D} (i : ImA F xs ds) : (!ds.isEmpty) = !xs.isEmpty := by cases i <;> rfl
theorem truV_of {K : PySem.W.Frag} {b : Addr} {F H : Hp} {u : V} {d : D} {c : Bool} (w : Same F H) (r : pkR b F H u d) (h : truD d = some c) : TruV K u H c := by
  cases d with
  | none => rw [r.non]; cases h; rfl
  | bool c' => rw [r.bl]; cases h; rfl
  | int i => rw [r.int]; cases h; rfl
  | list ds =>
    obtain ⟨a, xs, rfl, h1, i⟩ := r.lst w
    cases h
    exact .inl ⟨xs, SqL.of h1, isEmptyA i⟩
  | tuple ds =>
    obtain ⟨a, xs, rfl, h1, i⟩ := r.tup
    cases h
    exact .inr (.inl ⟨xs, SqT.of (w _ _ h1), isEmptyA i⟩)
  | str x => cases h
  | dict x => cases h
def mTru (m : ME) : MT := fun ρ β => (m ρ β).bind fun p => (truD p.1).map fun c => (c, p.2)
theorem evt_tru (ha : Ev G pkR X e te m) (he : ∀ whole, isTrue e X.env whole = (do let v ← whole; standAt e.pos; holding [v] (truthy v)) := by intro _; rfl) : EvT G X e (fun σ H Q => te σ H fun x H' => ∃ k, TruV G.K x H' k ∧ Q k H') (mTru m) := by
  refine ⟨fun c => by have h := pt_truth (ha.pe c) he; rw [c.K] at h; exact h, fun b H0 F H ρ β σ c β' Q w rp hm k => ?_⟩
  unfold mTru at hm
  obtain ⟨⟨x, β1⟩, h1, hm⟩ := Option.bind_eq_some_iff.mp hm
  obtain ⟨z, h3, hm⟩ := Option.map_eq_some_iff.mp hm
  cases hm
  exact ha.snd b H0 F H ρ β σ x _ _ w rp h1 fun u F' H' w' s i => ⟨c, truV_of w'.le i h3, k F' H' w' s⟩
def mAnd (m1 m2 : MT) : MT := fun ρ β => (m1 ρ β).bind fun p => if p.1 = true then m2 ρ p.2 else some (false, p.2)
def mOr (m1 m2 : MT) : MT := fun ρ β => (m1 ρ β).bind fun p => if p.1 = true then some (true, p.2) else m2 ρ p.2
def mNot (m1 : MT) : MT := fun ρ β => (m1 ρ β).map fun p => (!p.1, p.2)
structure EvW (G : Gx) (X : Cx) (e : Expr) (tt : TT) (m : MT) : Prop where
  pe : Cond G X → PW X e tt
  snd : SndT G.mg tt m
theorem EvW.t (h : EvW G X e tt mt) : EvT G X e tt mt := ⟨fun c => (h.pe c).pt, h.snd⟩
theorem evw_and1 (h : EvT G X e tt mt) : EvW G X (.BoolOp .And [e] pos) tt mt := ⟨fun c => pw_and1 (h.pe c), h.snd⟩
theorem evw_or1 (h : EvT G X e tt mt) : EvW G X (.BoolOp .Or [e] pos) tt mt := ⟨fun c => pw_or1 (h.pe c), h.snd⟩
theorem evw_and (h : EvT G X e1 tt mt) (h2 : EvW G X (.BoolOp .And (e2 :: es) pos) tu mu) : EvW G X (.BoolOp .And (e1 :: e2 :: es) pos) (tAnd tt tu) (mAnd mt mu) := by
  refine ⟨fun c => pw_and (h.pe c) (h2.pe c), fun b H0 F H ρ β σ c β' Q w rp hm k => ?_⟩
  unfold mAnd at hm
  obtain ⟨⟨x, β1⟩, h1, hm⟩ := Option.bind_eq_some_iff.mp hm
  refine h.snd b H0 F H ρ β σ x _ _ w rp h1 fun F' H' w' s => ?_
  cases x with
  | true => exact iteT (h2.snd b H0 F' H' ρ β1 σ c β' Q w' (rp.step s w.le) hm fun F2 H2 w2 s2 => k F2 H2 w2 (s.trans s2))
  | false => cases hm; exact iteF (k F' H' w' s)
theorem evw_or (h : EvT G X e1 tt mt) (h2 : EvW G X (.BoolOp .Or (e2 :: es) pos) tu mu) : EvW G X (.BoolOp .Or (e1 :: e2 :: es) pos) (tOr tt tu) (mOr mt mu) := by
  refine ⟨fun c => pw_or (h.pe c) (h2.pe c), fun b H0 F H ρ β σ c β' Q w rp hm k => ?_⟩
  unfold mOr at hm
  obtain ⟨⟨x, β1⟩, h1, hm⟩ := Option.bind_eq_some_iff.mp hm
  refine h.snd b H0 F H ρ β σ x _ _ w rp h1 fun F' H' w' s => ?_
  cases x with
  | false => exact iteF (h2.snd b H0 F' H' ρ β1 σ c β' Q w' (rp.step s w.le) hm fun F2 H2 w2 s2 => k F2 H2 w2 (s.trans s2))
  | true => cases hm; exact iteT (k F' H' w' s)
theorem evt_not (h : EvT G X e tt mt) : EvT G X (.UnaryOp .Not e pos) (tNot tt) (mNot mt) := by
  refine ⟨fun c => pt_not (h.pe c), fun b H0 F H ρ β σ c β' Q w rp hm k => ?_⟩
  unfold mNot at hm
  obtain ⟨⟨x, β1⟩, h1, hm⟩ := Option.map_eq_some_iff.mp hm
  cases hm
  exact h.snd b H0 F H ρ β σ x _ _ w rp h1 fun F' H' w' s => k F' H' w' s
def mBo (m : MT) : ME := fun ρ β => (m ρ β).map fun p => (.bool p.1, p.2)
def mAndV (m1 m2 : ME) : ME := fun ρ β => (m1 ρ β).bind fun p => (toB p.1).bind fun c => if c = true then m2 ρ p.2 else some (.bool false, p.2)
def mOrV (m1 m2 : ME) : ME := fun ρ β => (m1 ρ β).bind fun p => (toB p.1).bind fun c => if c = true then some (.bool true, p.2) else m2 ρ p.2
def mNotV (m1 : ME) : ME := fun ρ β => (m1 ρ β).bind fun p => (toB p.1).map fun c => (.bool (!c), p.2)
theorem toB_some {d : D} {c : Bool} (h : toB d = some c) : d = .bool c := by
  cases d with
  | bool c' => cases h; rfl
  | none => cases h
  | int i => cases h
  | str x => cases h
  | list x => cases h
  | tuple x => cases h
  | dict x => cases h
theorem ev_one {op : BoolOp} (h : Ev G imR X e te m) : Ev G imR X (.BoolOp op [e] pos) te m := ⟨fun c => pe_one (h.pe c), h.snd⟩
theorem ev_and (h : Ev G imR X e1 t1 m1) (h2 : Ev G imR X (.BoolOp .And (e2 :: es) pos) t2 m2) : Ev G imR X (.BoolOp .And (e1 :: e2 :: es) pos) (tAndV t1 t2) (mAndV m1 m2) := by
  refine ⟨fun c => pe_and (h.pe c) (h2.pe c), fun b H0 F H ρ β σ d β' Q w rp hm k => ?_⟩
  unfold mAndV at hm
  obtain ⟨⟨x, β1⟩, h1, hm⟩ := Option.bind_eq_some_iff.mp hm
  obtain ⟨c, h3, hm⟩ := Option.bind_eq_some_iff.mp hm
  refine h.snd b H0 F H ρ β σ x _ _ w rp h1 fun u F' H' w' s i => ?_
  have ex : x = .bool c := toB_some h3
  subst ex
  cases i
  refine ⟨c, rfl, ?_⟩
  cases c with
  | true => exact iteT (h2.snd b H0 F' H' ρ β1 σ d β' Q w' (rp.step s w.le) hm fun u F2 H2 w2 s2 => k u F2 H2 w2 (s.trans s2))
  | false => cases hm; exact iteF (k _ F' H' w' s (.bl false))
theorem ev_or (h : Ev G imR X e1 t1 m1) (h2 : Ev G imR X (.BoolOp .Or (e2 :: es) pos) t2 m2) : Ev G imR X (.BoolOp .Or (e1 :: e2 :: es) pos) (tOrV t1 t2) (mOrV m1 m2) := by
  refine ⟨fun c => pe_or (h.pe c) (h2.pe c), fun b H0 F H ρ β σ d β' Q w rp hm k => ?_⟩
  unfold mOrV at hm
  obtain ⟨⟨x, β1⟩, h1, hm⟩ := Option.bind_eq_some_iff.mp hm
  obtain ⟨c, h3, hm⟩ := Option.bind_eq_some_iff.mp hm
  refine h.snd b H0 F H ρ β σ x _ _ w rp h1 fun u F' H' w' s i => ?_
  have ex : x = .bool c := toB_some h3
  subst ex
  cases i
  refine ⟨c, rfl, ?_⟩
  cases c with
  | false => exact iteF (h2.snd b H0 F' H' ρ β1 σ d β' Q w' (rp.step s w.le) hm fun u F2 H2 w2 s2 => k u F2 H2 w2 (s.trans s2))
  | true => cases hm; exact iteT (k _ F' H' w' s (.bl true))
theorem ev_not (h : Ev G imR X e te m) : Ev G imR X (.UnaryOp .Not e pos) (tNotV te) (mNotV m) := by
  refine ⟨fun c => pe_not (h.pe c), fun b H0 F H ρ β σ d β' Q w rp hm k => ?_⟩
  unfold mNotV at hm
  obtain ⟨⟨x, β1⟩, h1, hm⟩ := Option.bind_eq_some_iff.mp hm
  obtain ⟨c, h3, hm⟩ := Option.map_eq_some_iff.mp hm
  cases hm
  refine h.snd b H0 F H ρ β σ x _ _ w rp h1 fun u F' H' w' s i => ?_
  have ex : x = .bool c := toB_some h3
  subst ex
  cases i
  exact ⟨c, rfl, k _ F' H' w' s (.bl _)⟩
def mIf (mt : MT) (m1 m2 : ME) : ME := fun ρ β => (mt ρ β).bind fun p => if p.1 = true then m1 ρ p.2 else m2 ρ p.2
theorem ev_if (ht : EvT G X e tt mt) (ha : Ev G R X e1 t1 m1) (hb : Ev G R X e2 t2 m2) : Ev G R X (.IfExp e e1 e2 pos) (tIf tt t1 t2) (mIf mt m1 m2) := by
  refine ⟨fun c => pe_ifExp (ht.pe c) (ha.pe c) (hb.pe c), fun b H0 F H ρ β σ d β' Q w rp hm k => ?_⟩
  unfold mIf at hm
  obtain ⟨⟨x, β1⟩, h1, hm⟩ := Option.bind_eq_some_iff.mp hm
  refine ht.snd b H0 F H ρ β σ x _ _ w rp h1 fun F' H' w' s => ?_
  cases x with
  | true => exact iteT (ha.snd b H0 F' H' ρ β1 σ d β' Q w' (rp.step s w.le) hm fun u F2 H2 w2 s2 => k u F2 H2 w2 (s.trans s2))
  | false => exact iteF (hb.snd b H0 F' H' ρ β1 σ d β' Q w' (rp.step s w.le) hm fun u F2 H2 w2 s2 => k u F2 H2 w2 (s.trans s2))
/-! ### lists of expressions; displays -/
def mLn : ML := fun _ β => some ([], β)
def mLc1 (m : ME) (ml : ML) : ML := fun ρ β => (m ρ β).bind fun p => (ml ρ p.2).map fun q => (p.1 :: q.1, q.2)
def seqD : D → Option (List D)
  | .list ds => some ds
  | .tuple ds => some ds
  | _ => none
def mLs (m : ME) (ml : ML) : ML := fun ρ β => (m ρ β).bind fun p => (seqD p.1).bind fun ds => (ml ρ p.2).map fun q => (ds ++ q.1, q.2)
theorem evl_nil : EvL G X [] tNil mLn := ⟨fun _ => pa_nil, fun b H0 F H ρ β σ d β' Q w rp hm k => by cases hm; exact k [] F H w Stp.refl .nil⟩
theorem evl_cons (ha : Ev G imR X e te m) (hr : EvL G X es ta ml) (hs : starEach (e :: es) X.env = (false, eval e X.env) :: starEach es X.env := by rfl) : EvL G X (e :: es) (tCons te ta) (mLc1 m ml) := by
  refine ⟨fun c => pa_cons (ha.pe c) (hr.pe c) hs, fun b H0 F H ρ β σ d β' Q w rp hm k => ?_⟩
  unfold mLc1 at hm
  obtain ⟨⟨x, β1⟩, h1, hm⟩ := Option.bind_eq_some_iff.mp hm
  obtain ⟨⟨y, β2⟩, h2, hm⟩ := Option.map_eq_some_iff.mp hm
  cases hm
  refine ha.snd b H0 F H ρ β σ x _ _ w rp h1 fun u F1 H1 w1 s1 i => ?_
  refine hr.snd b H0 F1 H1 ρ β1 σ y _ _ w1 (rp.step s1 w.le) h2 fun us F2 H2 w2 s2 is => ?_
  exact k _ F2 H2 w2 (s1.trans s2) (.cons (i.same (s2.same w1.le)) is)
theorem pkR.seq {K : PySem.W.Frag} {b : Addr} {F H : Hp} {u : V} {d : D} {ds : List D} (w : Same F H) (r : pkR b F H u d) (h : seqD d = some ds) : ∃ a xs, u = .ref a ∧ (SqL K H a xs ∨ SqT K H a xs) ∧ ImA F xs ds := by
  cases d with
  | list ds' =>
    cases h
    obtain ⟨a, xs, e, h1, i⟩ := r.lst w
    exact ⟨a, xs, e, .inl (SqL.of h1), i⟩
  | tuple ds' =>
    cases h
    obtain ⟨a, xs, e, h1, i⟩ := r.tup
    exact ⟨a, xs, e, .inr (SqT.of (w _ _ h1)), i⟩
  | none => cases h
  | bool c => cases h
  | int i => cases h
  | str x => cases h
  | dict x => cases h
theorem evl_star (ha : Ev G pkR X e te m) (hr : EvL G X es ta ml) (hs : starEach (.Starred e p :: es) X.env = (true, eval e X.env) :: starEach es X.env := by rfl) : EvL G X (.Starred e p :: es) (StX.tStar G.K te ta) (mLs m ml) := by
  refine ⟨fun c => by have h := StX.pa_star (p := p) (ha.pe c) (hr.pe c) hs; rw [c.K] at h; exact h, fun b H0 F H ρ β σ d β' Q w rp hm k => ?_⟩
  unfold mLs at hm
  obtain ⟨⟨x, β1⟩, h1, hm⟩ := Option.bind_eq_some_iff.mp hm
  obtain ⟨ds, h3, hm⟩ := Option.bind_eq_some_iff.mp hm
  obtain ⟨⟨y, β2⟩, h2, hm⟩ := Option.map_eq_some_iff.mp hm
  cases hm
  refine ha.snd b H0 F H ρ β σ x _ _ w rp h1 fun u F1 H1 w1 s1 i => ?_
  obtain ⟨a, xs, e, hq, im⟩ := i.seq (K := G.K) w1.le h3
  refine ⟨a, xs, e, hq.symm, ?_⟩
  refine hr.snd b H0 F1 H1 ρ β1 σ y _ _ w1 (rp.step s1 w.le) h2 fun us F2 H2 w2 s2 is => ?_
  exact k _ F2 H2 w2 (s1.trans s2) ((im.same (s2.same w1.le)).append is)
def tupD (xs : List D) : Option D := if xs.length ≤ sizeLine then some (.tuple xs) else none
def lstD (xs : List D) : Option D := if xs.length ≤ sizeLine then some (.list xs) else none
theorem tupD_some {xs : List D} {d : D} (h : tupD xs = some d) : xs.length ≤ sizeLine ∧ d = .tuple xs := by
  unfold tupD at h
  split at h
  · cases h; exact ⟨by assumption, rfl⟩
  · cases h
theorem lstD_some {xs : List D} {d : D} (h : lstD xs = some d) : xs.length ≤ sizeLine ∧ d = .list xs := by
  unfold lstD at h
  split at h
  · cases h; exact ⟨by assumption, rfl⟩
  · cases h
def mTup (ml : ML) : ME := fun ρ β => (ml ρ β).bind fun p => (tupD p.1).map fun d => (d, p.2)
def mLst (ml : ML) : ME := fun ρ β => (ml ρ β).bind fun p => (lstD p.1).map fun d => (d, p.2)
theorem new_tup {b : Addr} {β : Bag} {F H : Hp} {xs : List V} {ds : List D} {Q : VK} (w : Wd b β F H) (i : ImA F xs ds) (k : ∀ u F' H', Wd b β F' H' → Stp b F H F' H' → Im F' u (.tuple ds) → Q u H') : ∀ p, H p = none → Q (.ref p) (upd H p (.tup xs)) := fun p hp =>
  k _ _ _ (w.put hp) (Stp.put hp) (.tup upd_same (i.same (same_put (w.fnone hp))))
theorem new_lst {b : Addr} {β : Bag} {F H : Hp} {xs : List V} {ds : List D} {Q : VK} (w : Wd b β F H) (i : ImA F xs ds) (k : ∀ u F' H', Wd b β F' H' → Stp b F H F' H' → Im F' u (.list ds) → Q u H') : ∀ p, H p = none → Q (.ref p) (upd H p (.lst xs)) := fun p hp =>
  k _ _ _ (w.put hp) (Stp.put hp) (.lst upd_same (i.same (same_put (w.fnone hp))))
theorem ev_tup {x1} (h : EvL G X es ta ml) : Ev G imR X (.Tuple es x1 pos) (tTup ta) (mTup ml) := by
  refine ⟨fun c => pe_tup (h.pe c), fun b H0 F H ρ β σ d β' Q w rp hm k => ?_⟩
  unfold mTup at hm
  obtain ⟨⟨x, β1⟩, h1, hm⟩ := Option.bind_eq_some_iff.mp hm
  obtain ⟨z, h3, hm⟩ := Option.map_eq_some_iff.mp hm
  cases hm
  obtain ⟨hz, rfl⟩ := tupD_some h3
  exact h.snd b H0 F H ρ β σ x _ _ w rp h1 fun us F' H' w' s i => ⟨by rw [i.length]; exact hz, new_tup w' i fun u F2 H2 w2 s2 i2 => k u F2 H2 w2 (s.trans s2) i2⟩
theorem ev_lst (h : EvL G X es ta ml) : Ev G imR X (.List es pos) (tLst ta) (mLst ml) := by
  refine ⟨fun c => pe_lst (h.pe c), fun b H0 F H ρ β σ d β' Q w rp hm k => ?_⟩
  unfold mLst at hm
  obtain ⟨⟨x, β1⟩, h1, hm⟩ := Option.bind_eq_some_iff.mp hm
  obtain ⟨z, h3, hm⟩ := Option.map_eq_some_iff.mp hm
  cases hm
  obtain ⟨hz, rfl⟩ := lstD_some h3
  exact h.snd b H0 F H ρ β σ x _ _ w rp h1 fun us F' H' w' s i => ⟨by rw [i.length]; exact hz, new_lst w' i fun u F2 H2 w2 s2 i2 => k u F2 H2 w2 (s.trans s2) i2⟩
/-! ### subscripts and slices -/
theorem ev_ix {r : R2} {f : D → D → Option D} (O : OpS r f) (ho : Cond G X → IxR X r) (ha : Ev G pkR X e1 t1 m1) (hb : Ev G pkR X e2 t2 m2) (hs : PlainIx e2 := by exact fun _ _ => rfl) : Ev G imR X (.Subscript e1 e2 pos) (tOp r t1 t2) (mOp f m1 m2) :=
  ⟨fun c => pe_ix (ho c) (ha.pe c) (hb.pe c) hs, snd_op O ha.snd hb.snd⟩
def mOn : MO := fun _ β => some (none, β)
def toI : D → Option Int
  | .int i => some i
  | _ => none
theorem toI_some {d : D} {c : Int} (h : toI d = some c) : d = .int c := by
  cases d with
  | int c' => cases h; rfl
  | none => cases h
  | bool i => cases h
  | str x => cases h
  | list x => cases h
  | tuple x => cases h
  | dict x => cases h
def mOs (m : ME) : MO := fun ρ β => (m ρ β).bind fun p => (toI p.1).map fun i => (some i, p.2)
theorem evo_none : EvO G X none tNoPart mOn := ⟨fun _ => po_none, fun b H0 F H ρ β σ d β' Q w rp hm k => by cases hm; exact k F H w Stp.refl⟩
theorem evo_some (h : Ev G imR X e te m) : EvO G X (some e) (tPart te) (mOs m) := by
  refine ⟨fun c => po_some (h.pe c), fun b H0 F H ρ β σ d β' Q w rp hm k => ?_⟩
  unfold mOs at hm
  obtain ⟨⟨x, β1⟩, h1, hm⟩ := Option.bind_eq_some_iff.mp hm
  obtain ⟨z, h3, hm⟩ := Option.map_eq_some_iff.mp hm
  cases hm
  refine h.snd b H0 F H ρ β σ x _ _ w rp h1 fun u F' H' w' s i => ?_
  have ex : x = .int z := toI_some h3
  subst ex
  cases i
  exact ⟨z, rfl, k F' H' w' s⟩
def mSl (f : D → Option Int → Option Int → Option D) (m : ME) (ml mh : MO) : ME := fun ρ β => (m ρ β).bind fun p => (ml ρ p.2).bind fun q => (mh ρ q.2).bind fun s => (f p.1 q.1 s.1).map fun z => (z, s.2)
def SlS (r : V → Option Int → Option Int → Hp → VK → Prop) (f : D → Option Int → Option Int → Option D) : Prop := ∀ (b : Addr) (β : Bag) (F H : Hp) (x : V) (lo hi : Option Int) (d z : D) (Q : VK), Wd b β F H → pkR b F H x d → f d lo hi = some z →
  (∀ u F' H', Wd b β F' H' → Stp b F H F' H' → Im F' u z → Q u H') → r x lo hi H Q
theorem ev_sl {r : V → Option Int → Option Int → Hp → VK → Prop} {f : D → Option Int → Option Int → Option D} {lo hi : Option Expr} {tl th : TO} {ml mh : MO} (O : SlS r f) (ho : Cond G X → SlR X r) (he : Ev G pkR X e te m) (hl : EvO G X lo tl ml) (hh : EvO G X hi th mh) :
    Ev G imR X (.Subscript e (.Slice lo hi none p2) pos) (tSl r te tl th) (mSl f m ml mh) := by
  refine ⟨fun c => pe_slice (ho c) (he.pe c) (hl.pe c) (hh.pe c), fun b H0 F H ρ β σ d β' Q w rp hm k => ?_⟩
  unfold mSl at hm
  obtain ⟨⟨x, β1⟩, h1, hm⟩ := Option.bind_eq_some_iff.mp hm
  obtain ⟨⟨l, β2⟩, h2, hm⟩ := Option.bind_eq_some_iff.mp hm
  obtain ⟨⟨g, β3⟩, h3, hm⟩ := Option.bind_eq_some_iff.mp hm
  obtain ⟨z, h4, hm⟩ := Option.map_eq_some_iff.mp hm
  cases hm
  refine he.snd b H0 F H ρ β σ x _ _ w rp h1 fun u F1 H1 w1 s1 i1 => ?_
  have rp1 := rp.step s1 w.le
  refine hl.snd b H0 F1 H1 ρ β1 σ l β2 _ w1 rp1 h2 fun F2 H2 w2 s2 => ?_
  refine hh.snd b H0 F2 H2 ρ β2 σ g _ _ w2 (rp1.step s2 w1.le) h3 fun F3 H3 w3 s3 => ?_
  exact O b _ F3 H3 u l g x _ Q w3 ((i1.step s2 w1.le).step s3 w2.le) h4 fun u F' H' w' s i => k u F' H' w' (((s1.trans s2).trans s3).trans s) i
/-! ### calls of built-ins -/
def C1S (r : List V → Hp → VK → Prop) (f : D → Option D) : Prop := ∀ (b : Addr) (β : Bag) (F H : Hp) (x : V) (d z : D) (Q : VK), Wd b β F H → pkR b F H x d → f d = some z →
  (∀ u F' H', Wd b β F' H' → Stp b F H F' H' → Im F' u z → Q u H') → r [x] H Q
def C2S (r : List V → Hp → VK → Prop) (f : D → D → Option D) : Prop := OpS (fun x y H Q => r [x, y] H Q) f
def mF (f : D → Option D) (m : ME) : ME := fun ρ β => (m ρ β).bind fun p => (f p.1).map fun z => (z, p.2)
theorem snd_c1 {mg : Str → Option Value} {r : List V → Hp → VK → Prop} {f : D → Option D} (O : C1S r f) (h : SndE mg pkR te m) : SndE mg imR (tCB r (tCons te tNil)) (mF f m) := fun b H0 F H ρ β σ d β' Q w rp hm k => by
  unfold mF at hm
  obtain ⟨⟨x, β1⟩, h1, hm⟩ := Option.bind_eq_some_iff.mp hm
  obtain ⟨z, h3, hm⟩ := Option.map_eq_some_iff.mp hm
  cases hm
  exact h b H0 F H ρ β σ x _ _ w rp h1 fun u F1 H1 w1 s1 i1 => O b _ F1 H1 u x _ Q w1 i1 h3 fun u F' H' w' s i => k u F' H' w' (s1.trans s) i
theorem snd_c2 {mg : Str → Option Value} {r : List V → Hp → VK → Prop} {f : D → D → Option D} (O : C2S r f) (h : SndE mg pkR t1 m1) (h2 : SndE mg pkR t2 m2) : SndE mg imR (tCB r (tCons t1 (tCons t2 tNil))) (mOp f m1 m2) := snd_op O h h2
variable {x : Str} {id T : String} {r : List V → Hp → VK → Prop} {f : D → Option D} {g : D → D → Option D}
theorem ev_b1 (O : C1S r f) (hc : Cond G X → CallR X (.builtin id) r) (hm : G.mg x = none) (hv : bootBuiltins x = some (.builtin id)) (ha : Ev G pkR X e te m) (hg : Gl X x := by rfl) (hn : x ≠ "__name__" := by decide) (hdb : (x == ("__debug__" : Str)) = false := by decide)
    (he : starEach [e] X.env = (false, eval e X.env) :: starEach [] X.env := by rfl) : Ev G imR X (.Call (.Name x p) [e] [] pos) (tCB r (tCons te tNil)) (mF f m) :=
  ⟨fun c => pe_callB (hc c) hg (by rw [c.mg]; exact hm) hv (pa_cons (ha.pe c) pa_nil he) hn hdb he rfl, snd_c1 O ha.snd⟩
theorem ev_ty1 (O : C1S r f) (hc : Cond G X → CallR X (.type T) r) (hm : G.mg x = none) (hv : bootBuiltins x = some (.type T)) (ha : Ev G pkR X e te m) (hg : Gl X x := by rfl) (hn : x ≠ "__name__" := by decide) (hdb : (x == ("__debug__" : Str)) = false := by decide)
    (he : starEach [e] X.env = (false, eval e X.env) :: starEach [] X.env := by rfl) : Ev G imR X (.Call (.Name x p) [e] [] pos) (tCB r (tCons te tNil)) (mF f m) :=
  ⟨fun c => pe_callTy (hc c) hg (by rw [c.mg]; exact hm) hv (pa_cons (ha.pe c) pa_nil he) hn hdb he rfl, snd_c1 O ha.snd⟩
theorem ev_b2 (O : C2S r g) (hc : Cond G X → CallR X (.builtin id) r) (hm : G.mg x = none) (hv : bootBuiltins x = some (.builtin id)) (ha : Ev G pkR X e1 t1 m1) (hb : Ev G pkR X e2 t2 m2) (hg : Gl X x := by rfl) (hn : x ≠ "__name__" := by decide) (hdb : (x == ("__debug__" : Str)) = false := by decide)
    (he : starEach [e1, e2] X.env = (false, eval e1 X.env) :: starEach [e2] X.env := by rfl) (he2 : starEach [e2] X.env = (false, eval e2 X.env) :: starEach [] X.env := by rfl) (hpl : (backTo pos (starEach [e2] X.env)).any (·.1) = false := by rfl) : Ev G imR X (.Call (.Name x p) [e1, e2] [] pos) (tCB r (tCons t1 (tCons t2 tNil))) (mOp g m1 m2) :=
  ⟨fun c => pe_callB (hc c) hg (by rw [c.mg]; exact hm) hv (pa_cons (ha.pe c) (pa_cons (hb.pe c) pa_nil he2) he) hn hdb he hpl, snd_c2 O ha.snd hb.snd⟩
end
end M
/-! M3: the operators and built-ins on trees. -/
namespace M
open PySem PySem.Spec PyProof.Rows L2
section
variable {G : Gx} {X : Cx} {e e1 e2 e3 : Expr} {te t1 t2 t3 : TE} {m m1 m2 m3 : ME} {pos p p2 : Pos} {K : PySem.W.Frag}
/-! ### numbers -/
def i2 (f : Int → Int → D) : D → D → Option D
  | .int i, .int j => some (f i j)
  | _, _ => none
def i2c (C : Int → Int → Bool) (f : Int → Int → D) : D → D → Option D
  | .int i, .int j => if C i j = true then some (f i j) else none
  | _, _ => none
theorem i2_some {f : Int → Int → D} {d e z : D} (h : i2 f d e = some z) : ∃ i j, d = .int i ∧ e = .int j ∧ z = f i j := by
  cases d <;> cases e <;> first | (cases h; exact ⟨_, _, rfl, rfl, rfl⟩) | cases h
theorem i2c_some {C : Int → Int → Bool} {f : Int → Int → D} {d e z : D} (h : i2c C f d e = some z) : ∃ i j, d = .int i ∧ e = .int j ∧ C i j = true ∧ z = f i j := by
  cases d <;> cases e <;> first
    | (simp only [i2c] at h
       rename_i i j
       by_cases hc : C i j = true
       · rw [if_pos hc] at h
         cases h
         exact ⟨i, j, rfl, rfl, hc, rfl⟩
       · rw [if_neg hc] at h
         cases h)
    | cases h
theorem ops_i0 {g : Int → Int → V} {f : Int → Int → D} (h : ∀ F i j, Im F (g i j) (f i j)) : OpS (rI0 g) (i2 f) := fun b β F H x y d e z Q w rx ry k q => by
  obtain ⟨i, j, rfl, rfl, rfl⟩ := i2_some k
  exact ⟨i, j, rx.int, ry.int, q _ F H w Stp.refl (h F i j)⟩
theorem ops_ic {C : Int → Int → Prop} {c : Int → Int → Bool} {g : Int → Int → V} {f : Int → Int → D} (hc : ∀ i j, c i j = true → C i j) (h : ∀ F i j, Im F (g i j) (f i j)) : OpS (rI C g) (i2c c f) := fun b β F H x y d e z Q w rx ry k q => by
  obtain ⟨i, j, rfl, rfl, hh, rfl⟩ := i2c_some k
  exact ⟨i, j, rx.int, ry.int, hc i j hh, q _ F H w Stp.refl (h F i j)⟩
theorem OpS.or {r r' : R2} {f g : D → D → Option D} (h : OpS r f) (h' : OpS r' g) : OpS (fun x y H Q => r x y H Q ∨ r' x y H Q) (fun d e => match f d e with | some z => some z | none => g d e) := fun b β F H x y d e z Q w rx ry k q => by
  cases hf : f d e with
  | some z' =>
    simp only [hf] at k
    cases k
    exact .inl (h b β F H x y d e z Q w rx ry hf q)
  | none =>
    simp only [hf] at k
    exact .inr (h' b β F H x y d e z Q w rx ry k q)
theorem OpS.ext {r : R2} {f g : D → D → Option D} (h : OpS r f) (e : ∀ x y, g x y = f x y) : OpS r g := by
  have : g = f := by funext x y; exact e x y
  rw [this]
  exact h
def subD : D → D → Option D := i2 fun i j => .int (i - j)
theorem ev_sub (ha : Ev G pkR X e1 t1 m1) (hb : Ev G pkR X e2 t2 m2) : Ev G imR X (.BinOp e1 .Sub e2 pos) (tOp (rI0 fun i j => .int (i - j)) t1 t2) (mOp subD m1 m2) := ev_op (ops_i0 fun F i j => .int _) (fun _ => op_sub) ha hb
def in64 (i : Int) : Bool := decide (-(2 ^ 64) < i ∧ i < 2 ^ 64)
def mulI : D → D → Option D := i2c (fun i j => in64 i || in64 j) fun i j => .int (i * j)
def repD : D → D → Option D
  | .list xs, .int k => if (decide (-(2 ^ 63) ≤ k ∧ k < 2 ^ 63 ∧ xs.length * k.toNat ≤ sizeLine)) = true then some (.list (List.replicate k.toNat xs).flatten) else none
  | _, _ => none
def mulD : D → D → Option D := fun d e => match mulI d e with | some z => some z | none => repD d e
theorem ImA.rep {F : Hp} {xs : List V} {ds : List D} (i : ImA F xs ds) : ∀ n : Nat, ImA F (List.replicate n xs).flatten (List.replicate n ds).flatten
  | 0 => .nil
  | n + 1 => by
    rw [List.replicate_succ, List.replicate_succ, List.flatten_cons, List.flatten_cons]
    exact i.append (ImA.rep i n)
theorem ops_rep : OpS rRep repD := fun b β F H x y d e z Q w rx ry k q => by
  unfold repD at k
  split at k
  · rename_i xs k'
    split at k
    · rename_i hc
      cases k
      obtain ⟨h1, h2, h3⟩ := of_decide_eq_true hc
      obtain ⟨a, ys, rfl, ha, i⟩ := rx.lst w.le
      exact ⟨a, k', ys, rfl, ry.int, ha, h1, h2, by rw [i.length]; exact h3, new_lst w (i.rep _) q⟩
    · cases k
  · cases k
theorem ev_mul (ha : Ev G pkR X e1 t1 m1) (hb : Ev G pkR X e2 t2 m2) : Ev G imR X (.BinOp e1 .Mult e2 pos) (tOp (fun x y H Q => rI CMul (fun i j => .int (i * j)) x y H Q ∨ rRep x y H Q) t1 t2) (mOp mulD m1 m2) :=
  ev_op (OpS.or (ops_ic (fun i j h => by
    rcases Bool.or_eq_true_iff.mp h with h | h
    · exact .inl (of_decide_eq_true h)
    · exact .inr (of_decide_eq_true h)) fun F i j => .int _) ops_rep) (fun _ => op_mul.or op_rep) ha hb
def fdivD : D → D → Option D := i2c (fun i j => decide (j ≠ 0 ∧ j.natAbs < 1073741824)) fun i j => .int (i.fdiv j)
theorem ev_fdiv (ha : Ev G pkR X e1 t1 m1) (hb : Ev G pkR X e2 t2 m2) : Ev G imR X (.BinOp e1 .FloorDiv e2 pos) (tOp (rI CDivN fun i j => .int (i.fdiv j)) t1 t2) (mOp fdivD m1 m2) := ev_op (ops_ic (C := CDivN) (fun i j h => by unfold CDivN; exact of_decide_eq_true h) fun F i j => .int _) (fun _ => op_fdivN) ha hb
def modD : D → D → Option D := i2c (fun i j => decide (j ≠ 0)) fun i j => .int (i.fmod j)
theorem ev_mod (ha : Ev G pkR X e1 t1 m1) (hb : Ev G pkR X e2 t2 m2) : Ev G imR X (.BinOp e1 .Mod e2 pos) (tOp (rI (fun _ j => j ≠ 0) fun i j => .int (i.fmod j)) t1 t2) (mOp modD m1 m2) := ev_op (ops_ic (fun i j h => of_decide_eq_true h) fun F i j => .int _) (fun _ => op_modN) ha hb
def powD : D → D → Option D := i2c (fun i j => decide (0 ≤ j ∧ j ≤ 1000000 ∧ i.natAbs < 2 ^ 64)) fun i j => .int (i ^ j.toNat)
theorem ev_pow (ha : Ev G pkR X e1 t1 m1) (hb : Ev G pkR X e2 t2 m2) : Ev G imR X (.BinOp e1 .Pow e2 pos) (tOp (rI CPow fun i j => .int (i ^ j.toNat)) t1 t2) (mOp powD m1 m2) := ev_op (ops_ic (C := CPow) (fun i j h => by unfold CPow; exact of_decide_eq_true h) fun F i j => .int _) (fun _ => op_pow) ha hb
def ltD : D → D → Option D := i2 fun i j => .bool (decide (i < j))
def leD : D → D → Option D := i2 fun i j => .bool (decide (i ≤ j))
def gtD : D → D → Option D := i2 fun i j => .bool (decide (j < i))
def geD : D → D → Option D := i2 fun i j => .bool (decide (j ≤ i))
theorem ops_lt : OpS (rI0 fun i j => .bl (decide (i < j))) ltD := ops_i0 fun F i j => .bl _
theorem ops_le : OpS (rI0 fun i j => .bl (decide (i ≤ j))) leD := ops_i0 fun F i j => .bl _
theorem ops_gt : OpS (rI0 fun i j => .bl (decide (j < i))) gtD := ops_i0 fun F i j => .bl _
theorem ops_ge : OpS (rI0 fun i j => .bl (decide (j ≤ i))) geD := ops_i0 fun F i j => .bl _
theorem opr_lt : Cond G X → OpR X (compareOp .Lt) (rI0 fun i j => .bl (decide (i < j))) := fun _ => op_lt
theorem opr_le : Cond G X → OpR X (compareOp .LtE) (rI0 fun i j => .bl (decide (i ≤ j))) := fun _ => op_le
theorem opr_gt : Cond G X → OpR X (compareOp .Gt) (rI0 fun i j => .bl (decide (j < i))) := fun _ => op_gt
theorem opr_ge : Cond G X → OpR X (compareOp .GtE) (rI0 fun i j => .bl (decide (j ≤ i))) := fun _ => op_ge
def negD : D → Option D
  | .int i => some (.int (-i))
  | _ => none
theorem ev_neg (h : Ev G pkR X e te m) : Ev G imR X (.UnaryOp .USub e pos) (tUn (rU fun i => .int (-i)) te) (mF negD m) := by
  refine ⟨fun c => pe_un un_neg (h.pe c), fun b H0 F H ρ β σ d β' Q w rp hm k => ?_⟩
  unfold mF at hm
  obtain ⟨⟨x, β1⟩, h1, hm⟩ := Option.bind_eq_some_iff.mp hm
  obtain ⟨z, h3, hm⟩ := Option.map_eq_some_iff.mp hm
  cases hm
  refine h.snd b H0 F H ρ β σ x _ _ w rp h1 fun u F1 H1 w1 s1 i1 => ?_
  cases x <;> first | (cases h3; exact ⟨_, i1.int, k _ F1 H1 w1 s1 (.int _)⟩) | cases h3
/-! ### + -/
def addD : D → D → Option D
  | .int i, .int j => some (.int (i + j))
  | .list xs, .list ys => if xs.length + ys.length ≤ sizeLine then some (.list (xs ++ ys)) else none
  | .tuple xs, .tuple ys => if xs.length + ys.length ≤ sizeLine then some (.tuple (xs ++ ys)) else none
  | .str i, .str j => if i.length + j.length ≤ sizeLine then some (.str (i ++ j)) else none
  | _, _ => none
def rAddA (K : PySem.W.Frag) : R2 := fun x y H Q => rI0 (fun i j => .int (i + j)) x y H Q ∨ rCat x y H Q ∨ rCatA K x y H Q ∨ ∃ i j, x = .str i ∧ y = .str j ∧ i.length + j.length ≤ sizeLine ∧ Q (.str (i ++ j)) H
theorem ops_add : OpS (rAddA K) addD := fun b β F H x y d e z Q w rx ry k q => by
  unfold addD at k
  split at k
  · cases k
    exact .inl ⟨_, _, rx.int, ry.int, q _ F H w Stp.refl (.int _)⟩
  · split at k
    · rename_i hz
      cases k
      obtain ⟨a, xs, rfl, ha, ia⟩ := rx.lst w.le
      obtain ⟨c, ys, rfl, hc, ic⟩ := ry.lst w.le
      exact .inr (.inl ⟨a, c, xs, ys, rfl, rfl, ha, hc, by rw [ia.length, ic.length]; exact hz, new_lst w (ia.append ic) q⟩)
    · cases k
  · split at k
    · rename_i hz
      cases k
      obtain ⟨a, xs, rfl, ha, ia⟩ := rx.tup
      obtain ⟨c, ys, rfl, hc, ic⟩ := ry.tup
      refine .inr (.inr (.inl ⟨a, c, xs, ys, rfl, rfl, SqT.of (w.le _ _ ha), SqT.of (w.le _ _ hc), by rw [ia.length, ic.length]; exact hz, fun e => ?_, fun _ e => ?_, fun _ _ => new_tup w (ia.append ic) q⟩))
      · subst e
        cases ia
        exact q _ F H w Stp.refl (.tup hc ic)
      · subst e
        cases ic
        exact q _ F H w Stp.refl (.tup ha (by rw [List.append_nil]; exact ia))
    · cases k
  · split at k
    · rename_i hz
      cases k
      exact .inr (.inr (.inr ⟨_, _, rx.str, ry.str, hz, q _ F H w Stp.refl (.str _)⟩))
    · cases k
  · cases k
theorem ev_add (ha : Ev G pkR X e1 t1 m1) (hb : Ev G pkR X e2 t2 m2) : Ev G imR X (.BinOp e1 .Add e2 pos) (tOp (rAddA G.K) t1 t2) (mOp addD m1 m2) :=
  ev_op ops_add (fun c => by have h := (op_add (X := X)).or (op_cat.or (op_catA.or op_add_str)); rw [c.K] at h; exact h) ha hb
/-! ### ==, !=, in, is None -/
mutual
theorem dp_of {F H : Hp} (w : Same F H) : ∀ {d : D} {v : V}, Im F v d → d.canLay0 = true → Dp K H v d
  | _, _, .non, _ => .non
  | _, _, .bl b, _ => .bl b
  | _, _, .int i, _ => .int i
  | _, _, .str x, _ => .str x
  | _, _, .tup h r, e => .tup (SqT.of (w _ _ h)) (dpA_of w r (by unfold PyData.canLay0 at e; exact e))
  | _, _, .lst h r, e => .lst (SqL.of (w _ _ h)) (dpA_of w r (by unfold PyData.canLay0 at e; exact e))
  | _, _, .dct h, e => by unfold PyData.canLay0 at e; cases e
theorem dpA_of {F H : Hp} (w : Same F H) : ∀ {ds : List D} {vs : List V}, ImA F vs ds → PyData.canLayAll0 ds = true → DpAll K H vs ds
  | _, _, .nil, _ => .nil
  | _, _, .cons a b, e => by
    unfold PyData.canLayAll0 at e
    obtain ⟨e1, e2⟩ := Bool.and_eq_true_iff.mp e
    exact .cons (dp_of w a e1) (dpA_of w b e2)
end
theorem dp_pk {b : Addr} {F H : Hp} {u : V} {d : D} (w : Same F H) (r : pkR b F H u d) (h : SeqAt.shaped d = true) : Dp K H u d := by
  have e := SeqAt.canLay_of_shaped h
  rcases r with r | ⟨a, xs, ds, rfl, n, h1, i, rfl⟩
  · exact dp_of w r e
  · exact .lst (SqL.of h1) (dpA_of w i (by unfold PyData.canLay0 at e; exact e))
def eqB (d e : D) : Option Bool := if (SeqAt.shaped d && SeqAt.shaped e) = true then some (PyData.eqv d e) else match d, e with
  | .tuple xs, .tuple [] => some xs.isEmpty
  | _, _ => none
def eqD (d e : D) : Option D := (eqB d e).map .bool
def neD (d e : D) : Option D := if (SeqAt.shaped d && SeqAt.shaped e) = true then some (.bool (!PyData.eqv d e)) else none
def rEqT0 (K : PySem.W.Frag) : R2 := fun x y H Q => ∃ a b xs, x = .ref a ∧ y = .ref b ∧ SqT K H a xs ∧ SqT K H b [] ∧ Q (.bl xs.isEmpty) H
theorem op_eqT0 (hu : X.A.units < cLine) : OpR X (compareOp .Eq) (rEqT0 X.K) := by
  intro pins s σ H x y v u Q I rx ry h
  obtain ⟨a, b, xs, rfl, rfl, ha, hb, q⟩ := h
  cases rx
  cases ry
  obtain ⟨its, r, p, hz⟩ := I.tuple ha
  obtain ⟨its2, r2, p2, _⟩ := I.tuple hb
  cases r2
  refine SeqAt.eq_tupleAt (e := fun _ => true) (show s.heap.IsTuple a its.toArray from p) (show s.heap.IsTuple b ([] : List Value).toArray from p2) hu (fun j h1 h2 => absurd h2 (by simp)) ⟨.bl xs.isEmpty, H, I, ?_, q⟩
  have hl := r.length
  cases xs with
  | nil =>
    cases r
    rfl
  | cons x xs =>
    cases r
    show Value.bool _ = Value.bool _
    congr 1
theorem ops_eq : OpS (fun x y H Q => rEqD K x y H Q ∨ rEqT0 K x y H Q) eqD := fun b β F H x y d e z Q w rx ry k q => by
  unfold eqD eqB at k
  obtain ⟨c, hc, hz⟩ := Option.map_eq_some_iff.mp k
  subst hz
  split at hc
  · rename_i hs
    obtain ⟨s1, s2⟩ := Bool.and_eq_true_iff.mp hs
    cases hc
    exact .inl ⟨d, e, dp_pk w.le rx s1, dp_pk w.le ry s2, s1, s2, q _ F H w Stp.refl (.bl _)⟩
  · split at hc
    · cases hc
      obtain ⟨a, xs, rfl, ha, ia⟩ := rx.tup
      obtain ⟨c, ys, rfl, hc, ic⟩ := ry.tup
      cases ic
      refine .inr ⟨a, c, xs, rfl, rfl, SqT.of (w.le _ _ ha), SqT.of (w.le _ _ hc), ?_⟩
      have e := isEmptyA ia
      have e' : xs.isEmpty = _ := (Bool.not_inj e).symm
      rw [e']
      exact q _ F H w Stp.refl (.bl _)
    · cases hc
theorem ops_ne : OpS (rNeD K) neD := fun b β F H x y d e z Q w rx ry k q => by
  unfold neD at k
  split at k
  · rename_i hs
    obtain ⟨s1, s2⟩ := Bool.and_eq_true_iff.mp hs
    cases k
    exact ⟨d, e, dp_pk w.le rx s1, dp_pk w.le ry s2, s1, s2, q _ F H w Stp.refl (.bl _)⟩
  · cases k
theorem units_of {k : Nat} {A : Around} (hr : Room k A) : A.units < cLine := by have := hr.un; omega
theorem opr_eq : Cond G X → OpR X (compareOp .Eq) (fun x y H Q => rEqD G.K x y H Q ∨ rEqT0 G.K x y H Q) := fun c => by
  have h := (op_eqD (X := X) c.room.units).or (op_eqT0 (units_of c.room)); rw [c.K] at h; exact h
theorem opr_ne : Cond G X → OpR X (compareOp .NotEq) (rNeD G.K) := fun c => by
  have h := op_neD (X := X) c.room.units; rw [c.K] at h; exact h
def flatD : D → Bool
  | .none => true
  | .bool _ => true
  | .int _ => true
  | .str _ => true
  | _ => false
def inB (d : D) (xs : List D) : Bool := xs.any fun y => PyData.eqv y d
theorem flat_of {F : Hp} {u : V} {d : D} (i : Im F u d) : flatV u = flatD d := by cases i <;> rfl
theorem flatA_of {F : Hp} : ∀ {us : List V} {ds : List D}, ImA F us ds → us.all flatV = ds.all flatD
  | _, _, .nil => rfl
  | _, _, .cons a t => by rw [List.all_cons, List.all_cons, flat_of a, flatA_of t]
theorem eqV_of {F : Hp} {u v : V} {d e : D} (i : Im F u d) (j : Im F v e) (h : flatD d = true) (h' : flatD e = true) : eqV u v = PyData.eqv d e := by
  cases i <;> first | (cases h; done) | (cases j <;> first | (cases h'; done) | (unfold eqV PyData.eqv; rfl))
theorem inV_of {F : Hp} {u : V} {d : D} (i : Im F u d) (h : flatD d = true) : ∀ {us : List V} {ds : List D}, ImA F us ds → ds.all flatD = true → inV u us = inB d ds
  | _, _, .nil, _ => rfl
  | _, _, .cons a t, hh => by
    rw [List.all_cons] at hh
    obtain ⟨h1, h2⟩ := Bool.and_eq_true_iff.mp hh
    have ih := inV_of i h t h2
    unfold inV inB at ih ⊢
    rw [List.any_cons, List.any_cons, eqV_of a i h1 h, ih]
def inD (neg : Bool) (d e : D) : Option D := (seqD e).bind fun xs => if (flatD d && xs.all flatD) = true then some (.bool (if neg then !inB d xs else inB d xs)) else none
theorem im_flat {b : Addr} {F H : Hp} {u : V} {d : D} (r : pkR b F H u d) (h : flatD d = true) : Im F u d := by
  rcases r with r | ⟨a, xs, ds, rfl, n, h1, i, rfl⟩
  · exact r
  · cases h
theorem ops_in (neg : Bool) : OpS (rIn K neg) (inD neg) := fun b β F H x y d e z Q w rx ry k q => by
  unfold inD at k
  obtain ⟨xs, h1, k⟩ := Option.bind_eq_some_iff.mp k
  split at k
  · rename_i hc
    obtain ⟨f1, f2⟩ := Bool.and_eq_true_iff.mp hc
    cases k
    obtain ⟨a, ys, e', hq, im⟩ := ry.seq (K := K) w.le h1
    have ix := im_flat rx f1
    refine ⟨a, ys, e', hq, (flat_of ix).trans f1, (flatA_of im).trans f2, ?_⟩
    rw [inV_of ix f1 im f2]
    exact q _ F H w Stp.refl (.bl _)
  · cases k
theorem opr_in : Cond G X → OpR X (compareOp .In) (rIn G.K false) := fun c => by have h := op_in_seq (X := X); rw [c.K] at h; exact h
theorem opr_notIn : Cond G X → OpR X (compareOp .NotIn) (rIn G.K true) := fun c => by have h := op_notIn_seq (X := X); rw [c.K] at h; exact h
def isNn : D → Bool
  | .none => true
  | _ => false
def isND (d e : D) : Option D := match e with
  | .none => some (.bool (isNn d))
  | _ => none
def notND (d e : D) : Option D := match e with
  | .none => some (.bool (!isNn d))
  | _ => none
theorem pk_isN {b : Addr} {F H : Hp} {u : V} {d : D} (r : pkR b F H u d) : decide (u = .non) = isNn d := by
  rcases r with r | ⟨a, xs, ds, rfl, n, h1, i, rfl⟩
  · cases r <;> rfl
  · rfl
theorem ops_isN : OpS (fun x y H Q => y = .non ∧ Q (.bl (decide (x = .non))) H) isND := fun b β F H x y d e z Q w rx ry k q => by
  cases e <;> first | (cases k; exact ⟨ry.non, by rw [pk_isN rx]; exact q _ F H w Stp.refl (.bl _)⟩) | cases k
theorem ops_notN : OpS (fun x y H Q => y = .non ∧ Q (.bl (!decide (x = .non))) H) notND := fun b β F H x y d e z Q w rx ry k q => by
  cases e <;> first | (cases k; exact ⟨ry.non, by rw [pk_isN rx]; exact q _ F H w Stp.refl (.bl _)⟩) | cases k
theorem opr_isN : Cond G X → OpR X (compareOp .Is) (fun x y H Q => y = .non ∧ Q (.bl (decide (x = .non))) H) := fun _ => op_isN
theorem opr_notN : Cond G X → OpR X (compareOp .IsNot) (fun x y H Q => y = .non ∧ Q (.bl (!decide (x = .non))) H) := fun _ => op_notN
/-! ### subscripts -/
def ixD (d e : D) : Option D := (seqD d).bind fun xs => (toI e).bind fun i => atI xs i
theorem atI_im {F : Hp} {xs : List V} {ds : List D} {i : Int} {z : D} (im : ImA F xs ds) (h : atI ds i = some z) : ∃ v, atI xs i = some v ∧ Im F v z := by
  unfold atI at h ⊢
  obtain ⟨j, h1, h2⟩ := Option.bind_eq_some_iff.mp h
  obtain ⟨v, h3, h4⟩ := im.getD h2
  exact ⟨v, by rw [im.length, h1]; exact h3, h4⟩
theorem ops_ix : OpS (fun x y H Q => rIxL K x y H Q ∨ rIxT K x y H Q) ixD := fun b β F H x y d e z Q w rx ry k q => by
  unfold ixD at k
  obtain ⟨xs, h1, k⟩ := Option.bind_eq_some_iff.mp k
  obtain ⟨i, h2, k⟩ := Option.bind_eq_some_iff.mp k
  have ei := toI_some h2
  subst ei
  obtain ⟨a, ys, e', hq, im⟩ := rx.seq (K := K) w.le h1
  obtain ⟨v, hv, iv⟩ := atI_im im k
  rcases hq with hq | hq
  · exact .inl ⟨a, ys, i, v, e', ry.int, hq, hv, q v F H w Stp.refl iv⟩
  · exact .inr ⟨a, ys, i, v, e', ry.int, hq, hv, q v F H w Stp.refl iv⟩
theorem ev_at (ha : Ev G pkR X e1 t1 m1) (hb : Ev G pkR X e2 t2 m2) (hs : PlainIx e2 := by exact fun _ _ => rfl) : Ev G imR X (.Subscript e1 e2 pos) (tOp (fun x y H Q => rIxL G.K x y H Q ∨ rIxT G.K x y H Q) t1 t2) (mOp ixD m1 m2) :=
  ev_ix ops_ix (fun c => by have h := (ix_list (X := X)).or ix_tup; rw [c.K] at h; exact h) ha hb hs
def cutD (xs : List D) (lo hi : Option Int) : List D := (xs.drop (HT.sIx xs.length 0 lo)).take (HT.sIx xs.length xs.length hi - HT.sIx xs.length 0 lo)
def slD (d : D) (lo hi : Option Int) : Option D := match d with
  | .list xs => some (.list (cutD xs lo hi))
  | .tuple xs => some (.tuple (cutD xs lo hi))
  | _ => none
theorem cut_im {F : Hp} {xs : List V} {ds : List D} {lo hi : Option Int} (im : ImA F xs ds) : ImA F (cutV xs lo hi) (cutD ds lo hi) := by
  unfold cutV cutD
  rw [im.length]
  exact (im.drop _).take _
theorem sls_sl : SlS (fun x lo hi H Q => rSlL K x lo hi H Q ∨ rSlA K x lo hi H Q) slD := fun b β F H x lo hi d z Q w rx k q => by
  cases d with
  | list ds =>
    cases k
    obtain ⟨a, xs, rfl, ha, ia⟩ := rx.lst w.le
    exact .inl ⟨a, xs, rfl, SqL.of ha, new_lst w (cut_im ia) q⟩
  | tuple ds =>
    cases k
    obtain ⟨a, xs, rfl, ha, ia⟩ := rx.tup
    refine .inr ⟨a, xs, rfl, SqT.of (w.le _ _ ha), fun hw => ?_, fun _ => new_tup w (cut_im ia) q⟩
    have e : cutD ds lo hi = ds := by
      unfold cutD
      rw [← ia.length, hw.1, hw.2, List.drop_zero, Nat.sub_zero, ia.length, List.take_length]
    rw [e] at q
    exact q _ F H w Stp.refl (.tup ha ia)
  | none => cases k
  | bool c => cases k
  | int i => cases k
  | str x => cases k
  | dict x => cases k
theorem ev_slice {lo hi : Option Expr} {tl th : TO} {ml mh : MO} (he : Ev G pkR X e te m) (hl : EvO G X lo tl ml) (hh : EvO G X hi th mh) :
    Ev G imR X (.Subscript e (.Slice lo hi none p2) pos) (tSl (fun x lo hi H Q => rSlL G.K x lo hi H Q ∨ rSlA G.K x lo hi H Q) te tl th) (mSl slD m ml mh) :=
  ev_sl sls_sl (fun c => by have h := (sl_list (X := X)).or sl_tupA; rw [c.K] at h; exact h) he hl hh
def revD : D → Option D
  | .tuple xs => some (.tuple xs.reverse)
  | _ => none
theorem ev_rev {k : Nat} {q1 q2 q3 : Pos} (he : Ev G pkR X e te m) : Ev G imR X (.Subscript e (.Slice none none (some (.UnaryOp .USub (.Constant (.int 1) k q1) q2)) q3) pos) (_root_.G.tRevT G.K te) (mF revD m) := by
  refine ⟨fun c => by have h := _root_.G.pe_revT (k := k) (p1 := q1) (p2 := q2) (p3 := q3) (pos := pos) (he.pe c); rw [c.K] at h; exact h, fun b H0 F H ρ β σ d β' Q w rp hm kk => ?_⟩
  unfold mF at hm
  obtain ⟨⟨x, β1⟩, h1, hm⟩ := Option.bind_eq_some_iff.mp hm
  obtain ⟨z, h3, hm⟩ := Option.map_eq_some_iff.mp hm
  cases hm
  refine he.snd b H0 F H ρ β σ x _ _ w rp h1 fun u F1 H1 w1 s1 i1 => ?_
  cases x <;> first
    | (cases h3
       obtain ⟨a, xs, rfl, ha, ia⟩ := i1.tup
       exact ⟨a, xs, rfl, SqT.of (w1.le _ _ ha), new_tup w1 ia.reverse fun u F2 H2 w2 s2 i2 => kk u F2 H2 w2 (s1.trans s2) i2⟩)
    | cases h3
/-! ### built-ins -/
def lenD (d : D) : Option D := (seqD d).map fun xs => .int xs.length
theorem c1_len : C1S (fun xs H Q => ∃ p ys, xs = [.ref p] ∧ (SqL K H p ys ∨ SqT K H p ys) ∧ Q (.int ys.length) H) lenD := fun b β F H x d z Q w rx k q => by
  unfold lenD at k
  obtain ⟨xs, h1, rfl⟩ := Option.map_eq_some_iff.mp k
  obtain ⟨a, ys, rfl, hq, im⟩ := rx.seq (K := K) w.le h1
  refine ⟨a, ys, rfl, hq, ?_⟩
  rw [im.length]
  exact q _ F H w Stp.refl (.int _)
theorem cr_len : Cond G X → CallR X (.builtin "len") (fun xs H Q => ∃ p ys, xs = [.ref p] ∧ (SqL G.K H p ys ∨ SqT G.K H p ys) ∧ Q (.int ys.length) H) := fun c => by have h := call_len_seq (X := X); rw [c.K] at h; exact h
def intD : D → Option D
  | .int i => some (.int i)
  | .bool c => some (.int (if c then 1 else 0))
  | _ => none
theorem c1_int : C1S (fun xs H Q => (∃ i, xs = [.int i] ∧ Q (.int i) H) ∨ ∃ k, xs = [.bl k] ∧ Q (.int (if k then 1 else 0)) H) intD := fun b β F H x d z Q w rx k q => by
  cases d <;> first
    | (cases k; first | exact .inl ⟨_, by rw [rx.int], q _ F H w Stp.refl (.int _)⟩ | exact .inr ⟨_, by rw [rx.bl], q _ F H w Stp.refl (.int _)⟩)
    | cases k
theorem cr_int : Cond G X → CallR X (.type "int") (fun xs H Q => (∃ i, xs = [.int i] ∧ Q (.int i) H) ∨ ∃ k, xs = [.bl k] ∧ Q (.int (if k then 1 else 0)) H) := fun _ => call_int1
def absD : D → Option D
  | .int i => some (.int (if i < 0 then -i else i))
  | _ => none
theorem c1_abs : C1S (fun xs H Q => ∃ i, xs = [.int i] ∧ Q (.int (if i < 0 then -i else i)) H) absD := fun b β F H x d z Q w rx k q => by
  cases d <;> first | (cases k; exact ⟨_, by rw [rx.int], q _ F H w Stp.refl (.int _)⟩) | cases k
theorem cr_abs : Cond G X → CallR X (.builtin "abs") (fun xs H Q => ∃ i, xs = [.int i] ∧ Q (.int (if i < 0 then -i else i)) H) := fun _ => call_abs
def minD : D → D → Option D := i2 fun i j => .int (if j < i then j else i)
def maxD : D → D → Option D := i2 fun i j => .int (if j > i then j else i)
theorem c2_min : C2S (fun xs H Q => ∃ i j, xs = [.int i, .int j] ∧ Q (.int (if j < i then j else i)) H) minD := fun b β F H x y d e z Q w rx ry k q => by
  obtain ⟨i, j, rfl, rfl, rfl⟩ := i2_some k
  exact ⟨i, j, by rw [rx.int, ry.int], q _ F H w Stp.refl (.int _)⟩
theorem c2_max : C2S (fun xs H Q => ∃ i j, xs = [.int i, .int j] ∧ Q (.int (if j > i then j else i)) H) maxD := fun b β F H x y d e z Q w rx ry k q => by
  obtain ⟨i, j, rfl, rfl, rfl⟩ := i2_some k
  exact ⟨i, j, by rw [rx.int, ry.int], q _ F H w Stp.refl (.int _)⟩
theorem cr_min2 : Cond G X → CallR X (.builtin "min") (fun xs H Q => ∃ i j, xs = [.int i, .int j] ∧ Q (.int (if j < i then j else i)) H) := fun c => call_min2 c.calm
theorem cr_max2 : Cond G X → CallR X (.builtin "max") (fun xs H Q => ∃ i j, xs = [.int i, .int j] ∧ Q (.int (if j > i then j else i)) H) := fun c => call_max2 c.calm
def intsD : List D → Option (List Int)
  | [] => some []
  | .int i :: r => (intsD r).map (i :: ·)
  | _ :: _ => none
def boolsD : List D → Option (List Bool)
  | [] => some []
  | .bool i :: r => (boolsD r).map (i :: ·)
  | _ :: _ => none
theorem intsD_some : ∀ {ds : List D} {ns : List Int}, intsD ds = some ns → ds = ns.map .int
  | [], _, h => by cases h; rfl
  | d :: r, ns, h => by
    cases d <;> first
      | (obtain ⟨ms, h1, rfl⟩ := Option.map_eq_some_iff.mp h
         rw [List.map_cons, intsD_some h1])
      | cases h
theorem boolsD_some : ∀ {ds : List D} {ns : List Bool}, boolsD ds = some ns → ds = ns.map .bool
  | [], _, h => by cases h; rfl
  | d :: r, ns, h => by
    cases d <;> first
      | (obtain ⟨ms, h1, rfl⟩ := Option.map_eq_some_iff.mp h
         rw [List.map_cons, boolsD_some h1])
      | cases h
def maxI : Int → List Int → Int
  | a, [] => a
  | a, b :: r => maxI (if b > a then b else a) r
theorem maxI_mem : ∀ (r : List Int) (a : Int), maxI a r ∈ a :: r
  | [], a => List.mem_cons_self
  | b :: r, a => by
    unfold maxI
    have h := maxI_mem r (if b > a then b else a)
    rcases List.mem_cons.mp h with h | h
    · split at h
      · rw [if_pos (by assumption), h]; simp
      · rw [if_neg (by assumption), h]; simp
    · exact List.mem_cons_of_mem _ (List.mem_cons_of_mem _ h)
theorem maxI_le : ∀ (r : List Int) (a : Int), ∀ y ∈ a :: r, y ≤ maxI a r
  | [], a, y, h => by
    rcases List.mem_cons.mp h with h | h
    · rw [h]; exact Int.le_refl _
    · cases h
  | b :: r, a, y, h => by
    unfold maxI
    have hh := maxI_le r (if b > a then b else a)
    have h0 := hh _ List.mem_cons_self
    rcases List.mem_cons.mp h with h | h
    · subst h
      refine Int.le_trans ?_ h0
      split <;> omega
    · rcases List.mem_cons.mp h with h | h
      · subst h
        refine Int.le_trans ?_ h0
        split <;> omega
      · exact hh y (List.mem_cons_of_mem _ h)
def maxLD (d : D) : Option D := match d with
  | .list xs => (intsD xs).bind fun ns => match ns with | [] => none | a :: r => some (.int (maxI a r))
  | _ => none
theorem c1_maxL : C1S (rMax K) maxLD := fun b β F H x d z Q w rx k q => by
  cases d <;> first
    | (obtain ⟨ns, h1, k⟩ := Option.bind_eq_some_iff.mp k
       cases ns with
       | nil => cases k
       | cons n ns =>
         cases k
         have e := intsD_some h1
         subst e
         obtain ⟨a, xs, rfl, ha, ia⟩ := rx.lst w.le
         have e := ia.of_ints
         subst e
         refine ⟨a, n :: ns, rfl, SqL.of ha, by simp, fun m hm hle => ?_⟩
         have e2 : m = maxI n ns := Int.le_antisymm (maxI_le ns n m hm) (hle _ (maxI_mem ns n))
         subst e2
         exact q _ F H w Stp.refl (.int _))
    | cases k
theorem cr_maxL : Cond G X → CallR X (.builtin "max") (rMax G.K) := fun c => by have h := cr_max (X := X) c.calm; rw [c.K] at h; exact h
def allD (d : D) : Option D := match d with
  | .list xs => (boolsD xs).map fun bs => .bool (bs.all id)
  | _ => none
theorem c1_all : C1S (rAll K) allD := fun b β F H x d z Q w rx k q => by
  cases d <;> first
    | (obtain ⟨ns, h1, rfl⟩ := Option.map_eq_some_iff.mp k
       have e := boolsD_some h1
       subst e
       obtain ⟨a, xs, rfl, ha, ia⟩ := rx.lst w.le
       have e := ia.of_bools
       subst e
       exact ⟨a, ns, rfl, SqL.of ha, q _ F H w Stp.refl (.bl _)⟩)
    | cases k
theorem cr_allL : Cond G X → CallR X (.builtin "all") (rAll G.K) := fun c => by have h := cr_all (X := X) c.calm; rw [c.K] at h; exact h
def tupOfD (d : D) : Option D := match d with
  | .list xs => some (.tuple xs)
  | .tuple xs => some (.tuple xs)
  | _ => none
theorem c1_tup : C1S (fun xs H Q => ∃ p ys, xs = [.ref p] ∧ ((SqL K H p ys ∧ ∀ l, H l = none → Q (.ref l) (upd H l (.tup ys))) ∨ (SqT K H p ys ∧ Q (.ref p) H))) tupOfD := fun b β F H x d z Q w rx k q => by
  cases d with
  | list ds =>
    cases k
    obtain ⟨a, xs, rfl, ha, ia⟩ := rx.lst w.le
    exact ⟨a, xs, rfl, .inl ⟨SqL.of ha, new_tup w ia q⟩⟩
  | tuple ds =>
    cases k
    obtain ⟨a, xs, rfl, ha, ia⟩ := rx.tup
    exact ⟨a, xs, rfl, .inr ⟨SqT.of (w.le _ _ ha), q _ F H w Stp.refl (.tup ha ia)⟩⟩
  | none => cases k
  | bool c => cases k
  | int i => cases k
  | str x => cases k
  | dict x => cases k
theorem cr_tup : Cond G X → CallR X (.type "tuple") (fun xs H Q => ∃ p ys, xs = [.ref p] ∧ ((SqL G.K H p ys ∧ ∀ l, H l = none → Q (.ref l) (upd H l (.tup ys))) ∨ (SqT G.K H p ys ∧ Q (.ref p) H))) := fun c => by have h := call_tuple_of (X := X); rw [c.K] at h; exact h
def lstOfD (d : D) : Option D := (seqD d).map .list
theorem c1_lst : C1S (fun xs H Q => ∃ p ys, xs = [.ref p] ∧ (SqL K H p ys ∨ SqT K H p ys) ∧ ∀ l, H l = none → Q (.ref l) (upd H l (.lst ys))) lstOfD := fun b β F H x d z Q w rx k q => by
  unfold lstOfD at k
  obtain ⟨xs, h1, rfl⟩ := Option.map_eq_some_iff.mp k
  obtain ⟨a, ys, rfl, hq, im⟩ := rx.seq (K := K) w.le h1
  exact ⟨a, ys, rfl, hq, new_lst w im q⟩
theorem cr_lst : Cond G X → CallR X (.type "list") (fun xs H Q => ∃ p ys, xs = [.ref p] ∧ (SqL G.K H p ys ∨ SqT G.K H p ys) ∧ ∀ l, H l = none → Q (.ref l) (upd H l (.lst ys))) := fun c => by have h := call_list_of (X := X); rw [c.K] at h; exact h
/-! ### isinstance -/
def tyN : D → String
  | .none => "NoneType" | .bool _ => "bool" | .int _ => "int" | .str _ => "str" | .list _ => "list" | .tuple _ => "tuple" | .dict _ => "dict"
theorem pk_ty {b : Addr} {F H : Hp} {u : V} {d : D} (w : Same F H) (r : pkR b F H u d) : TyX K H u (.type (tyN d)) := by
  rcases r with r | ⟨a, xs, ds, rfl, n, h1, i, rfl⟩
  · cases r with
    | non => exact .base .non
    | bl b => exact .base (.bl b)
    | int i => exact .base (.int i)
    | str x => exact .base (.str x)
    | tup h _ => exact .base (.tup (w _ _ h))
    | lst h _ => exact .base (.lst (w _ _ h))
    | dct h => exact .base (.dK (w _ _ h))
  · exact .base (.lst h1)
def isI : D → Bool | .int _ => true | .bool _ => true | _ => false
def isB : D → Bool | .bool _ => true | _ => false
def isT : D → Bool | .tuple _ => true | _ => false
def isL : D → Bool | .list _ => true | _ => false
def isS : D → Bool | .str _ => true | _ => false
def isDi : D → Bool | .dict _ => true | _ => false
def tyB (T : String) : Option (D → Bool) := if T = "int" then some isI else if T = "bool" then some isB else if T = "tuple" then some isT else if T = "list" then some isL else if T = "str" then some isS else if T = "dict" then some isDi else none
theorem tyB_ok {T : String} {f : D → Bool} (h : tyB T = some f) (d : D) : kitB (tyN d) T = some (f d) := by
  unfold tyB at h
  split at h
  · rename_i e; subst e; cases h
    cases d <;> first
      | (show kitB "NoneType" "int" = some false; decide +kernel) | (show kitB "bool" "int" = some true; decide +kernel) | (show kitB "int" "int" = some true; decide +kernel) | (show kitB "str" "int" = some false; decide +kernel) | (show kitB "list" "int" = some false; decide +kernel) | (show kitB "tuple" "int" = some false; decide +kernel) | (show kitB "dict" "int" = some false; decide +kernel)
  split at h
  · rename_i e; subst e; cases h
    cases d <;> first
      | (show kitB "NoneType" "bool" = some false; decide +kernel) | (show kitB "bool" "bool" = some true; decide +kernel) | (show kitB "int" "bool" = some false; decide +kernel) | (show kitB "str" "bool" = some false; decide +kernel) | (show kitB "list" "bool" = some false; decide +kernel) | (show kitB "tuple" "bool" = some false; decide +kernel) | (show kitB "dict" "bool" = some false; decide +kernel)
  split at h
  · rename_i e; subst e; cases h
    cases d <;> first
      | (show kitB "NoneType" "tuple" = some false; decide +kernel) | (show kitB "bool" "tuple" = some false; decide +kernel) | (show kitB "int" "tuple" = some false; decide +kernel) | (show kitB "str" "tuple" = some false; decide +kernel) | (show kitB "list" "tuple" = some false; decide +kernel) | (show kitB "tuple" "tuple" = some true; decide +kernel) | (show kitB "dict" "tuple" = some false; decide +kernel)
  split at h
  · rename_i e; subst e; cases h
    cases d <;> first
      | (show kitB "NoneType" "list" = some false; decide +kernel) | (show kitB "bool" "list" = some false; decide +kernel) | (show kitB "int" "list" = some false; decide +kernel) | (show kitB "str" "list" = some false; decide +kernel) | (show kitB "list" "list" = some true; decide +kernel) | (show kitB "tuple" "list" = some false; decide +kernel) | (show kitB "dict" "list" = some false; decide +kernel)
  split at h
  · rename_i e; subst e; cases h
    cases d <;> first
      | (show kitB "NoneType" "str" = some false; decide +kernel) | (show kitB "bool" "str" = some false; decide +kernel) | (show kitB "int" "str" = some false; decide +kernel) | (show kitB "str" "str" = some true; decide +kernel) | (show kitB "list" "str" = some false; decide +kernel) | (show kitB "tuple" "str" = some false; decide +kernel) | (show kitB "dict" "str" = some false; decide +kernel)
  split at h
  · rename_i e; subst e; cases h
    cases d <;> first
      | (show kitB "NoneType" "dict" = some false; decide +kernel) | (show kitB "bool" "dict" = some false; decide +kernel) | (show kitB "int" "dict" = some false; decide +kernel) | (show kitB "str" "dict" = some false; decide +kernel) | (show kitB "list" "dict" = some false; decide +kernel) | (show kitB "tuple" "dict" = some false; decide +kernel) | (show kitB "dict" "dict" = some true; decide +kernel)
  · cases h
def mIs (f : D → Bool) (m : ME) : ME := fun ρ β => (m ρ β).map fun p => (.bool (f p.1), p.2)
theorem ev_is {T : Str} {f : D → Bool} {Tn : String} (ht : tyB Tn = some f) (hm : G.mg "isinstance" = none) (hmT : G.mg T = none) (hvT : bootBuiltins T = some (.type Tn)) (ha : Ev G pkR X e te m) (hg : Gl X "isinstance" := by rfl) (hgT : Gl X T := by rfl) (hn : T ≠ "__name__" := by decide) (hdb : (T == ("__debug__" : Str)) = false := by decide)
    (he : starEach [e, .Name T p2] X.env = (false, eval e X.env) :: starEach [.Name T p2] X.env := by rfl) : Ev G imR X (.Call (.Name "isinstance" p) [e, .Name T p2] [] pos) (tCB (rIsi G.K) (tCons te (tCons (tC (.ty Tn)) tNil))) (mIs f m) := by
  refine ⟨fun c => ?_, fun b H0 F H ρ β σ d β' Q w rp hm k => ?_⟩
  · have h := pe_callB (X := X) (p := p) (pos := pos) call_isi hg (by rw [c.mg]; exact hm) (by decide +kernel) (pa_cons (ha.pe c) (pa_cons (pe_bltn (v := .ty Tn) (pos := p2) hgT (by rw [c.mg]; exact hmT) hvT rfl hn hdb) pa_nil) he) (he := he)
    rw [c.K] at h
    exact h
  · unfold mIs at hm
    obtain ⟨⟨x, β1⟩, h1, hm⟩ := Option.map_eq_some_iff.mp hm
    cases hm
    exact ha.snd b H0 F H ρ β σ x _ _ w rp h1 fun u F1 H1 w1 s1 i1 => ⟨u, .ty Tn, _, _, f x, rfl, .ty Tn, pk_ty w1.le i1, kit_ty (tyB_ok ht x), k _ F1 H1 w1 s1 (.bl _)⟩
/-- isinstance(x, (tuple, list)) -/
theorem ev_isTL {q1 q2 : Pos} {kk : Nat} (hm : G.mg "isinstance" = none) (hmT : G.mg "tuple" = none) (hmL : G.mg "list" = none) (ha : Ev G pkR X e te m) (hg : Gl X "isinstance" := by rfl) (hgT : Gl X "tuple" := by rfl) (hgL : Gl X "list" := by rfl)
    (he : starEach [e, .Tuple [.Name "tuple" q1, .Name "list" q2] kk p2] X.env = (false, eval e X.env) :: starEach [.Tuple [.Name "tuple" q1, .Name "list" q2] kk p2] X.env := by rfl) :
    Ev G imR X (.Call (.Name "isinstance" p) [e, .Tuple [.Name "tuple" q1, .Name "list" q2] kk p2] [] pos) (tCB (rIsiT G.K) (tCons te (tCons (tTup (tCons (tC (.ty "tuple")) (tCons (tC (.ty "list")) tNil))) tNil))) (mIs (fun d => isT d || isL d) m) := by
  refine ⟨fun c => ?_, fun b H0 F H ρ β σ d β' Q w rp hm k => ?_⟩
  · have h := pe_callB (X := X) (p := p) (pos := pos) call_isiT hg (by rw [c.mg]; exact hm) (by decide +kernel) (pa_cons (ha.pe c) (pa_cons (pe_tup (x1 := kk) (pos := p2) (pa_cons (pe_bltn (v := .ty "tuple") (pos := q1) hgT (by rw [c.mg]; exact hmT) (by decide +kernel) rfl) (pa_cons (pe_bltn (v := .ty "list") (pos := q2) hgL (by rw [c.mg]; exact hmL) (by decide +kernel) rfl) pa_nil))) pa_nil) he) (he := he)
    rw [c.K] at h
    exact h
  · unfold mIs at hm
    obtain ⟨⟨x, β1⟩, h1, hm⟩ := Option.map_eq_some_iff.mp hm
    cases hm
    refine ha.snd b H0 F H ρ β σ x _ _ w rp h1 fun u F1 H1 w1 s1 i1 => ⟨by show 2 ≤ sizeLine; decide, fun tp htp => ?_⟩
    have w2 : Wd b _ (upd F1 tp (.tup [.ty "tuple", .ty "list"])) (upd H1 tp (.tup [.ty "tuple", .ty "list"])) := w1.put htp
    have s2 := Stp.put (b := b) (F := F1) (o := .tup [.ty "tuple", .ty "list"]) htp
    refine ⟨u, tp, [.ty "tuple", .ty "list"], _, [.type "tuple", .type "list"], isT x || isL x, rfl, upd_same, .cons (.ty _) (.cons (.ty _) .nil), pk_ty w2.le (i1.step s2 w1.le), ?_, k _ _ _ w2 (s1.trans s2) (.bl _)⟩
    refine kitAny_cons (kit_ty (tyB_ok (f := isT) (by rfl) x)) (fun e1 => kitAny_cons (kit_ty (tyB_ok (f := isL) (by rfl) x)) (fun e2 => ?_) (fun e2 => ?_)) (fun e1 => ?_)
    · rw [e1, e2]; exact kitAny_nil
    · rw [e1, e2]; rfl
    · rw [e1]; rfl
end
end M
/-! M4: targets, what is walked, comprehensions, new lists. -/
namespace M
open PySem PySem.Spec PyProof.Rows L2
/-! ### targets -/
abbrev MG := D → List Slot → Option (List Slot)
abbrev MGs := List D → List Slot → Option (List Slot)
def SndG (mg : Str → Option Value) (g : TG) (m : MG) (is : List Nat) : Prop := ∀ (b : Addr) (β : Bag) (H0 F H : Hp) (ρ : List Slot) (σ : L2.St) (u : V) (d : D) (ρ' : List Slot) (Q : L2.St → Hp → Prop), Wd b β F H → Rep mg b H0 F H ρ σ → Im F u d → m d ρ = some ρ' →
  (∀ σ', Rep mg b H0 F H ρ' σ' → (∀ vs, (∀ i ∈ is, i ∈ vs) → wipe σ' vs = wipe σ vs) → Q σ' H) → g u σ H Q
def SndGs (mg : Str → Option Value) (g : TGs) (m : MGs) (is : List Nat) : Prop := ∀ (b : Addr) (β : Bag) (H0 F H : Hp) (ρ : List Slot) (σ : L2.St) (us : List V) (ds : List D) (ρ' : List Slot) (Q : L2.St → Hp → Prop), Wd b β F H → Rep mg b H0 F H ρ σ → ImA F us ds → m ds ρ = some ρ' →
  (∀ σ', Rep mg b H0 F H ρ' σ' → (∀ vs, (∀ i ∈ is, i ∈ vs) → wipe σ' vs = wipe σ vs) → Q σ' H) → g us σ H Q
structure EvG (G : Gx) (X : Cx) (e : Expr) (g : TG) (m : MG) (is : List Nat) : Prop where
  pe : Cond G X → PG X e g
  snd : SndG G.mg g m is
structure EvGs (G : Gx) (X : Cx) (es : List Expr) (g : TGs) (m : MGs) (is : List Nat) : Prop where
  pe : Cond G X → PGs X es g
  snd : SndGs G.mg g m is
theorem wipe_at (σ : L2.St) (x : Option V) (i : Nat) : ∀ vs : List Nat, i ∈ vs → wipe (σ.set i x) vs = wipe σ vs
  | [], h => by cases h
  | v :: vs, h => by
    have base : ∀ (τ : L2.St) (ws : List Nat), (wipe (τ.set i x) ws).set i none = (wipe τ ws).set i none := by
      intro τ ws
      induction ws with
      | nil => show (τ.set i x).set i none = τ.set i none; rw [List.set_set]
      | cons w ws ih =>
        show ((wipe (τ.set i x) ws).set w none).set i none = ((wipe τ ws).set w none).set i none
        by_cases e : w = i
        · subst e; rw [List.set_set, List.set_set]; exact ih
        · rw [List.set_comm _ _ e, List.set_comm _ _ e, ih]
    show (wipe (σ.set i x) vs).set v none = (wipe σ vs).set v none
    rcases List.mem_cons.mp h with e | h
    · subst e; exact base σ vs
    · rw [wipe_at σ x i vs h]
section
variable {G : Gx} {X : Cx} {e e1 e2 : Expr} {es : List Expr} {g : TG} {gs : TGs} {m : MG} {ms : MGs} {is js : List Nat} {pos : Pos}
def mGn (i : Nat) : MG := fun d ρ => some (ρ.set i (.v d))
theorem evg_nm (i : Nat) {x : Str} (hN : X.N.Nodup) (hi : X.N[i]? = some x := by rfl) (hx : Loc X.env.scope x := by first | exact Or.inl rfl | exact Or.inr rfl) (hf : X.fn x = true ∨ X.env.scope.names.lookup x = some .local := by first | exact .inl rfl | exact .inr rfl) : EvG G X (.Name x pos) (gName i) (mGn i) [i] :=
  ⟨fun _ => pg_name hN hi hx hf, fun b β H0 F H ρ σ u d ρ' Q w r im hm k => by
    cases hm
    exact k _ (r.setV i rfl im) fun vs h => wipe_at σ _ i vs (h i List.mem_cons_self)⟩
def mGnil : MGs := fun ds ρ => match ds with
  | [] => some ρ
  | _ :: _ => none
def mGcons (m : MG) (ms : MGs) : MGs := fun ds ρ => match ds with
  | [] => none
  | d :: r => (m d ρ).bind fun ρ1 => ms r ρ1
theorem evgs_nil : EvGs G X [] gNil mGnil [] := ⟨fun _ => pgs_nil, fun b β H0 F H ρ σ us ds ρ' Q w r im hm k => by
  cases im with
  | nil => cases hm; exact ⟨rfl, k σ r fun _ _ => rfl⟩
  | cons _ _ => cases hm⟩
theorem evgs_cons (h1 : EvG G X e g m is) (h2 : EvGs G X es gs ms js) (hs : (assignEach (e :: es) X.env).map (·.2) = assign e X.env :: (assignEach es X.env).map (·.2) := by rfl) : EvGs G X (e :: es) (gCons g gs) (mGcons m ms) (is ++ js) := by
  refine ⟨fun c => pgs_cons (h1.pe c) (h2.pe c) hs, fun b β H0 F H ρ σ us ds ρ' Q w r im hm k => ?_⟩
  cases im with
  | nil => cases hm
  | cons i1 i2 =>
    obtain ⟨ρ1, hm1, hm2⟩ := Option.bind_eq_some_iff.mp hm
    exact ⟨_, _, rfl, h1.snd b β H0 F H ρ σ _ _ ρ1 _ w r i1 hm1 fun σ1 r1 k1 => h2.snd b β H0 F H ρ1 σ1 _ _ ρ' _ w r1 i2 hm2 fun σ2 r2 k2 => k σ2 r2 fun vs hv => (k2 vs fun i hi => hv i (List.mem_append_right _ hi)).trans (k1 vs fun i hi => hv i (List.mem_append_left _ hi))⟩
def mGt (n : Nat) (ms : MGs) : MG := fun d ρ => match d with
  | .tuple ds => if ds.length = n then ms ds ρ else none
  | _ => none
theorem evg_tup {k n : Nat} (h : EvGs G X es gs ms is) (hn : (assignEach es X.env).length = n := by rfl) (hst : (assignEach es X.env).findIdx? (·.1) = none := by rfl) : EvG G X (.Tuple es k pos) (gTup G.K n gs) (mGt n ms) is := by
  refine ⟨fun c => by have q := pg_tup (k := k) (pos := pos) c.calm (h.pe c) hn hst; rw [c.K] at q; exact q, fun b β H0 F H ρ σ u d ρ' Q w r im hm k => ?_⟩
  unfold mGt at hm
  split at hm
  · split at hm
    · cases im with
      | tup ha ia => exact ⟨_, _, rfl, SqT.of (w.le _ _ ha), by rw [ia.length]; assumption, h.snd b β H0 F H ρ σ _ _ ρ' _ w r ia hm k⟩
    · cases hm
  · cases hm
end
/-! ### what is walked -/
def Stb (pk : Bool) (b : Addr) (F H F2 H2 : Hp) : Prop := Same F F2 ∧ Same F2 H2 ∧ (pk = true → Stp b F H F2 H2)
def SndI (mg : Str → Option Value) (pk : Bool) (wi : TI) (m : ML) : Prop := ∀ (b : Addr) (H0 F H : Hp) (ρ : List Slot) (β : Bag) (σ : L2.St) (ds : List D) (β' : Bag) (R : It → Hp → Prop), Wd b β F H → Rep mg b H0 F H ρ σ → m ρ β = some (ds, β') →
  (∀ (J : It) (F' H' : Hp) (Gd : Hp → Prop) (Y : Nat → Hp → V → Hp → Prop), Wd b β' F' H' → Stp b F H F' H' → Walk J ds.length Gd Y → (∀ F2 H2, Stb pk b F' H' F2 H2 → Gd H2) →
    (∀ i (β2 : Bag) F2 H2 x H3, i < ds.length → Stb pk b F' H' F2 H2 → Wd b β2 F2 H2 → Y i H2 x H3 → ∃ F3 d, Stp b F2 H2 F3 H3 ∧ Wd b β2 F3 H3 ∧ ds[i]? = some d ∧ Im F3 x d) → R J H') → wi σ H R
structure EvI (G : Gx) (pk : Bool) (X : Cx) (tg it : Expr) (wi : TI) (m : ML) : Prop where
  pe : Cond G X → PI X tg it wi
  snd : SndI G.mg pk wi m
/-- a value that may be walked -/
def WkR (K : PySem.W.Frag) (pk : Bool) (b : Addr) (F H : Hp) (u : V) (ds : List D) : Prop := ∃ t a xs, u = .ref a ∧ ImA F xs ds ∧ ∀ F2 H2, Stb pk b F H F2 H2 → _root_.G.Sq t K H2 a xs
section
variable {b : Addr} {F H F' H' : Hp} {u : V} {d : D} {ds : List D} {K : PySem.W.Frag}
theorem wk_im (w : Same F H) (i : Im F u d) (h : seqD d = some ds) (pk : Bool) : WkR K pk b F H u ds := by
  cases i with
  | tup ha ia => cases h; exact ⟨true, _, _, rfl, ia, fun F2 H2 s => SqT.of (s.2.1 _ _ (s.1 _ _ ha))⟩
  | lst ha ia => cases h; exact ⟨false, _, _, rfl, ia, fun F2 H2 s => SqL.of (s.2.1 _ _ (s.1 _ _ ha))⟩
  | non => cases h
  | bl _ => cases h
  | int _ => cases h
  | str _ => cases h
  | dct _ => cases h
theorem wk_pk (w : Same F H) (r : pkR b F H u d) (h : seqD d = some ds) : WkR K true b F H u ds := by
  rcases r with r | ⟨a, xs, ds', rfl, n, h1, i, rfl⟩
  · exact wk_im w r h true
  · cases h
    exact ⟨false, a, xs, rfl, i, fun F2 H2 s => SqL.of ((s.2.2 rfl).kp n h1)⟩
theorem Stb.refl {pk : Bool} (w : Same F H) : Stb pk b F H F H := ⟨Same.refl F, w, fun _ => Stp.refl⟩
theorem WkR.step {pk : Bool} (k : WkR K pk b F H u ds) (s : Stp b F H F' H') (w : Same F H) : WkR K pk b F' H' u ds := by
  obtain ⟨t, a, xs, e, i, h⟩ := k
  exact ⟨t, a, xs, e, i.same (s.same w), fun F2 H2 q => h F2 H2 ⟨(s.same w).trans q.1, q.2.1, fun e => s.trans (q.2.2 e)⟩⟩
end
section
variable {G : Gx} {R : VR} {X : Cx} {e e1 e2 tg : Expr} {te t1 t2 : TE} {m m1 m2 : ME} {pos p tpos : Pos} {pk : Bool} {elts : List Expr} {kk : Nat}
/-- the values of R may be walked -/
def Wkb (K : PySem.W.Frag) (R : VR) (pk : Bool) : Prop := ∀ (b : Addr) (F H : Hp) (u : V) (d : D) (ds : List D), Same F H → R b F H u d → seqD d = some ds → WkR K pk b F H u ds
theorem wkb_im {K : PySem.W.Frag} (pk : Bool) : Wkb K imR pk := fun b F H u d ds w r h => wk_im w r h pk
theorem wkb_pk {K : PySem.W.Frag} : Wkb K pkR true := fun b F H u d ds w r h => wk_pk w r h
def mIt (m : ME) : ML := fun ρ β => (m ρ β).bind fun p => (seqD p.1).map fun ds => (ds, p.2)
theorem evi_seqR (kb : Wkb G.K R pk) (h : Ev G R X e te m) : EvI G pk X tg e (_root_.G.iSeq G.K te) (mIt m) := by
  refine ⟨fun c => by have q := _root_.G.pi_seq (tg := tg) (h.pe c); rw [c.K] at q; exact q, fun b H0 F H ρ β σ ds β' R' w r hm k => ?_⟩
  unfold mIt at hm
  obtain ⟨⟨x, β1⟩, h1, hm⟩ := Option.bind_eq_some_iff.mp hm
  obtain ⟨z, h3, hm⟩ := Option.map_eq_some_iff.mp hm
  cases hm
  refine h.snd b H0 F H ρ β σ x _ _ w r h1 fun u F1 H1 w1 s1 i1 => ?_
  obtain ⟨t, a, xs, e, ia, hq⟩ := kb b F1 H1 u x ds w1.le i1 h3
  refine ⟨t, a, xs, e, hq F1 H1 (Stb.refl w1.le), ?_⟩
  refine k _ F1 H1 _ _ w1 s1 (by rw [← ia.length]; exact _root_.G.walk_sq (xs := xs)) hq fun i β2 F2 H2 x' H3 hi st w2 y => ?_
  obtain ⟨rfl, hx⟩ := y
  obtain ⟨d, hd, im⟩ := ia.get hx
  exact ⟨F2, d, Stp.refl, w2, hd, im.same st.1⟩
theorem evi_seq (h : Ev G imR X e te m) : EvI G pk X tg e (_root_.G.iSeq G.K te) (mIt m) := evi_seqR (wkb_im pk) h
theorem evi_peek (h : Ev G pkR X e te m) : EvI G true X tg e (_root_.G.iSeq G.K te) (mIt m) := evi_seqR wkb_pk h
def pairD (a b : D) : D := .tuple [a, b]
def mZip (m1 m2 : ME) : ML := fun ρ β => (m1 ρ β).bind fun p => (m2 ρ p.2).bind fun q => (seqD p.1).bind fun ds => (seqD q.1).map fun es => (List.zipWith pairD ds es, q.2)
theorem R_step_im {b : Addr} {F H F' H' : Hp} {u : V} {d : D} (r : imR b F H u d) (s : Stp b F H F' H') (w : Same F H) : imR b F' H' u d := Im.same (s.same w) r
theorem evi_zipR (kb : Wkb G.K R pk) (h1 : Ev G R X e1 t1 m1) (h2 : Ev G R X e2 t2 m2) (hm : G.mg "zip" = none) (hg : Gl X "zip" := by rfl)
    (hs : starEach [e1, e2] X.env = (false, eval e1 X.env) :: starEach [e2] X.env := by rfl) (hs2 : starEach [e2] X.env = (false, eval e2 X.env) :: starEach [] X.env := by rfl) (hpl : (backTo pos (starEach [e2] X.env)).any (·.1) = false := by rfl) :
    EvI G pk X (.Tuple elts kk tpos) (.Call (.Name "zip" p) [e1, e2] [] pos) (_root_.G.iZipA G.K (tCons t1 (tCons t2 tNil))) (mZip m1 m2) := by
  refine ⟨fun c => by have q := _root_.G.pi_zipA (elts := elts) (kk := kk) (tpos := tpos) (p := p) (pos := pos) hg (by rw [c.mg]; exact hm) (pa_cons (h1.pe c) (pa_cons (h2.pe c) pa_nil hs2) hs) hs hpl; rw [c.K] at q; exact q, fun b H0 F H ρ β σ ds β' R' w r hm k => ?_⟩
  unfold mZip at hm
  obtain ⟨⟨x, β1⟩, q1, hm⟩ := Option.bind_eq_some_iff.mp hm
  obtain ⟨⟨y, β2⟩, q2, hm⟩ := Option.bind_eq_some_iff.mp hm
  obtain ⟨d1, q3, hm⟩ := Option.bind_eq_some_iff.mp hm
  obtain ⟨d2, q4, hm⟩ := Option.map_eq_some_iff.mp hm
  cases hm
  refine h1.snd b H0 F H ρ β σ x _ _ w r q1 fun u1 F1 H1 w1 s1 i1 => ?_
  refine h2.snd b H0 F1 H1 ρ β1 σ y _ _ w1 (r.step s1 w.le) q2 fun u2 F2 H2 w2 s2 i2 => ?_
  obtain ⟨ta, a, xs, e1', ia, hq1⟩ := (kb b F1 H1 u1 x d1 w1.le i1 q3).step s2 w1.le
  obtain ⟨tb, c, ys, e2', ib, hq2⟩ := kb b F2 H2 u2 y d2 w2.le i2 q4
  subst e1' e2'
  refine ⟨ta, tb, a, c, xs, ys, rfl, hq1 F2 H2 (Stb.refl w2.le), hq2 F2 H2 (Stb.refl w2.le), ?_⟩
  refine k _ F2 H2 _ _ w2 (s1.trans s2) (_root_.G.walk_zipM (by rw [List.length_zipWith, ia.length, ib.length])) (fun F3 H3 st => ⟨hq1 F3 H3 st, hq2 F3 H3 st⟩) fun i β2 F3 H3 x' H4 hi st w3 yy => ?_
  obtain ⟨T, v1, v2, rfl, hT, rfl, hx, hy⟩ := yy
  obtain ⟨e1', f1, g1⟩ := ia.get hx
  obtain ⟨e2', f2, g2⟩ := ib.get hy
  have m3 : Same F3 (upd F3 T (.tup [v1, v2])) := same_put (w3.fnone hT)
  exact ⟨_, pairD e1' e2', Stp.put hT, w3.put hT, by rw [List.getElem?_zipWith, f1, f2], .tup upd_same (.cons ((g1.same st.1).same m3) (.cons ((g2.same st.1).same m3) .nil))⟩
theorem evi_zip (h1 : Ev G imR X e1 t1 m1) (h2 : Ev G imR X e2 t2 m2) (hm : G.mg "zip" = none) (hg : Gl X "zip" := by rfl)
    (hs : starEach [e1, e2] X.env = (false, eval e1 X.env) :: starEach [e2] X.env := by rfl) (hs2 : starEach [e2] X.env = (false, eval e2 X.env) :: starEach [] X.env := by rfl) (hpl : (backTo pos (starEach [e2] X.env)).any (·.1) = false := by rfl) :
    EvI G pk X (.Tuple elts kk tpos) (.Call (.Name "zip" p) [e1, e2] [] pos) (_root_.G.iZipA G.K (tCons t1 (tCons t2 tNil))) (mZip m1 m2) := evi_zipR (wkb_im pk) h1 h2 hm hg hs hs2 hpl
def enumD (ds : List D) : List D := ds.mapIdx fun i d => pairD (.int (i : Nat)) d
def mEnum (m : ME) : ML := fun ρ β => (m ρ β).bind fun p => (seqD p.1).map fun ds => (enumD ds, p.2)
theorem evi_enumR (kb : Wkb G.K R pk) (h1 : Ev G R X e te m) (hm : G.mg "enumerate" = none) (hg : Gl X "enumerate" := by rfl) (hs : starEach [e] X.env = [(false, eval e X.env)] := by rfl) :
    EvI G pk X (.Tuple elts kk tpos) (.Call (.Name "enumerate" p) [e] [] pos) (_root_.G.iEnumA G.K (tCons te tNil)) (mEnum m) := by
  refine ⟨fun c => by have q := _root_.G.pi_enumA (elts := elts) (kk := kk) (tpos := tpos) (p := p) (pos := pos) hg (by rw [c.mg]; exact hm) (pa_cons (h1.pe c) pa_nil hs) hs; rw [c.K] at q; exact q, fun b H0 F H ρ β σ ds β' R' w r hm k => ?_⟩
  unfold mEnum at hm
  obtain ⟨⟨x, β1⟩, q1, hm⟩ := Option.bind_eq_some_iff.mp hm
  obtain ⟨d1, q3, hm⟩ := Option.map_eq_some_iff.mp hm
  cases hm
  refine h1.snd b H0 F H ρ β σ x _ _ w r q1 fun u1 F1 H1 w1 s1 i1 => ?_
  obtain ⟨ta, a, xs, e1', ia, hq1⟩ := kb b F1 H1 u1 x d1 w1.le i1 q3
  subst e1'
  have hl : (enumD d1).length = xs.length := by unfold enumD; rw [List.length_mapIdx, ia.length]
  refine ⟨ta, a, xs, rfl, hq1 F1 H1 (Stb.refl w1.le), ?_⟩
  refine k _ F1 H1 _ _ w1 s1 (by rw [hl]; exact _root_.G.walk_enumq (xs := xs)) hq1 fun i β2 F3 H3 x' H4 hi st w3 yy => ?_
  obtain ⟨T, v1, v2, rfl, hT, rfl, hx, hy⟩ := yy
  cases hx
  obtain ⟨e2', f2, g2⟩ := ia.get hy
  have m3 : Same F3 (upd F3 T (.tup [.int (i : Nat), v2])) := same_put (w3.fnone hT)
  exact ⟨_, pairD (.int (i : Nat)) e2', Stp.put hT, w3.put hT, by unfold enumD; rw [List.getElem?_mapIdx, f2]; rfl, .tup upd_same (.cons (.int _) (.cons ((g2.same st.1).same m3) .nil))⟩
theorem evi_enum (h1 : Ev G imR X e te m) (hm : G.mg "enumerate" = none) (hg : Gl X "enumerate" := by rfl) (hs : starEach [e] X.env = [(false, eval e X.env)] := by rfl) :
    EvI G pk X (.Tuple elts kk tpos) (.Call (.Name "enumerate" p) [e] [] pos) (_root_.G.iEnumA G.K (tCons te tNil)) (mEnum m) := evi_enumR (wkb_im pk) h1 hm hg hs
def rangeD (lo hi : Int) : List D := (List.range (hi - lo).toNat).map fun i => .int (lo + (i : Nat))
def in62 (i : Int) : Bool := decide (-(2 ^ 62) ≤ i ∧ i < 2 ^ 62)
def mRg1 (m : ME) : ML := fun ρ β => (m ρ β).bind fun p => (toI p.1).bind fun i => if in62 i = true then some (rangeD 0 i, p.2) else none
theorem walk_rg {b : Addr} {pk : Bool} {F' H' : Hp} {lo hi : Int} : ∀ i (β2 : Bag) F2 H2 x H3, i < (rangeD lo hi).length → Stb pk b F' H' F2 H2 → Wd b β2 F2 H2 → YFn (fun i => .int (lo + (i : Nat))) i H2 x H3 → ∃ F3 d, Stp b F2 H2 F3 H3 ∧ Wd b β2 F3 H3 ∧ (rangeD lo hi)[i]? = some d ∧ Im F3 x d := by
  rintro i β2 F2 H2 x H3 hi st w ⟨rfl, rfl⟩
  refine ⟨F2, .int (lo + (i : Nat)), Stp.refl, w, ?_, .int _⟩
  unfold rangeD at hi ⊢
  rw [List.length_map, List.length_range] at hi
  rw [List.getElem?_map, List.getElem?_range hi]
  rfl
theorem rangeD_length {lo hi : Int} : (rangeD lo hi).length = (hi - lo).toNat := by unfold rangeD; rw [List.length_map, List.length_range]
theorem evi_range1 (h1 : Ev G imR X e te m) (hm : G.mg "range" = none) (hg : Gl X "range" := by rfl) (hs : starEach [e] X.env = [(false, eval e X.env)] := by rfl) :
    EvI G pk X tg (.Call (.Name "range" p) [e] [] pos) (iRng1 (tCons te tNil)) (mRg1 m) := by
  refine ⟨fun c => pi_range1 hg (by rw [c.mg]; exact hm) (pa_cons (h1.pe c) pa_nil hs) hs, fun b H0 F H ρ β σ ds β' R' w r hm k => ?_⟩
  unfold mRg1 at hm
  obtain ⟨⟨x, β1⟩, q1, hm⟩ := Option.bind_eq_some_iff.mp hm
  obtain ⟨i, q3, hm⟩ := Option.bind_eq_some_iff.mp hm
  split at hm
  · rename_i hc
    cases hm
    obtain ⟨c1, c2⟩ := of_decide_eq_true hc
    refine h1.snd b H0 F H ρ β σ x _ _ w r q1 fun u1 F1 H1 w1 s1 i1 => ?_
    have ex : x = .int i := toI_some q3
    subst ex
    cases i1
    refine ⟨i, rfl, c1, c2, ?_⟩
    refine k _ F1 H1 (fun _ => True) _ w1 s1 ?_ (fun _ _ _ => trivial) walk_rg
    rw [rangeD_length, Int.sub_zero]
    exact walk_range
  · cases hm
def mRg2 (m1 m2 : ME) : ML := fun ρ β => (m1 ρ β).bind fun p => (m2 ρ p.2).bind fun q => (toI p.1).bind fun i => (toI q.1).bind fun j => if (in62 i && in62 j) = true then some (rangeD i j, q.2) else none
theorem evi_range2 (h1 : Ev G imR X e1 t1 m1) (h2 : Ev G imR X e2 t2 m2) (hm : G.mg "range" = none) (hg : Gl X "range" := by rfl) (hs : starEach [e1, e2] X.env = [(false, eval e1 X.env), (false, eval e2 X.env)] := by rfl) (hs2 : starEach [e2] X.env = [(false, eval e2 X.env)] := by rfl) :
    EvI G pk X tg (.Call (.Name "range" p) [e1, e2] [] pos) (iRng2 (tCons t1 (tCons t2 tNil))) (mRg2 m1 m2) := by
  refine ⟨fun c => pi_range2 hg (by rw [c.mg]; exact hm) (pa_cons (h1.pe c) (pa_cons (h2.pe c) pa_nil hs2) (by rw [hs, hs2])) hs hs2, fun b H0 F H ρ β σ ds β' R' w r hm k => ?_⟩
  unfold mRg2 at hm
  obtain ⟨⟨x, β1⟩, q1, hm⟩ := Option.bind_eq_some_iff.mp hm
  obtain ⟨⟨y, β2⟩, q2, hm⟩ := Option.bind_eq_some_iff.mp hm
  obtain ⟨i, q3, hm⟩ := Option.bind_eq_some_iff.mp hm
  obtain ⟨j, q4, hm⟩ := Option.bind_eq_some_iff.mp hm
  split at hm
  · rename_i hc
    cases hm
    obtain ⟨hc1, hc2⟩ := Bool.and_eq_true_iff.mp hc
    obtain ⟨c1, c2⟩ := of_decide_eq_true hc1
    obtain ⟨c3, c4⟩ := of_decide_eq_true hc2
    refine h1.snd b H0 F H ρ β σ x _ _ w r q1 fun u1 F1 H1 w1 s1 i1 => ?_
    refine h2.snd b H0 F1 H1 ρ β1 σ y _ _ w1 (r.step s1 w.le) q2 fun u2 F2 H2 w2 s2 i2 => ?_
    have ex : x = .int i := toI_some q3
    subst ex
    have ey : y = .int j := toI_some q4
    subst ey
    cases i1
    cases i2
    refine ⟨i, j, rfl, ⟨c1, c2, c3, c4⟩, ?_⟩
    refine k _ F2 H2 (fun _ => True) _ w2 (s1.trans s2) ?_ (fun _ _ _ => trivial) walk_rg
    rw [rangeD_length]
    exact walk_range
  · cases hm
end
/-! ### new lists -/
def SndN (mg : Str → Option Value) (te : TE) (m : ML) : Prop := ∀ (b : Addr) (H0 F H : Hp) (ρ : List Slot) (β : Bag) (σ : L2.St) (ds : List D) (β' : Bag) (Q : VK), Wd b β F H → Rep mg b H0 F H ρ σ → m ρ β = some (ds, β') →
  (∀ a xs F' H', Wd b β' F' H' → Stp b F H F' H' → H a = none → F' a = none → a ≠ b → H' a = some (.lst xs) → ImA F' xs ds → Q (.ref a) H') → te σ H Q
structure EvN (G : Gx) (X : Cx) (e : Expr) (te : TE) (m : ML) : Prop where
  pe : Cond G X → PE X e te
  snd : SndN G.mg te m
def mFz (m : ML) : ME := fun ρ β => (m ρ β).map fun p => (.list p.1, p.2)
section
variable {G : Gx} {X : Cx} {e e1 e2 tg it elt : Expr} {es ifs : List Expr} {te t1 t2 : TE} {ta : TA} {tt : TT} {ml mi : ML} {m m1 m2 : ME} {mt : MT} {pos p p2 : Pos} {g : TG} {mg : MG} {is : List Nat} {wi : TI} {scope : Scope} {own : List (Str × Nat)}
theorem EvN.ev (h : EvN G X e te ml) : Ev G imR X e te (mFz ml) := by
  refine ⟨h.pe, fun b H0 F H ρ β σ d β' Q w r hm k => ?_⟩
  unfold mFz at hm
  obtain ⟨⟨ds, β1⟩, h1, hm⟩ := Option.map_eq_some_iff.mp hm
  cases hm
  refine h.snd b H0 F H ρ β σ ds _ _ w r h1 fun a xs F' H' w' s ha hf hb hH im => ?_
  exact k _ _ H' (w'.frz hH hf hb) (s.frz ha) (.lst upd_same (im.same (same_put hf)))
def lstG (ds : List D) : Option (List D) := if ds.length ≤ sizeLine then some ds else none
def mLd (ml : ML) : ML := fun ρ β => (ml ρ β).bind fun p => (lstG p.1).map fun d => (d, p.2)
theorem lstG_some {xs ds : List D} (h : lstG xs = some ds) : xs.length ≤ sizeLine ∧ ds = xs := by
  unfold lstG at h
  split at h
  · cases h; exact ⟨by assumption, rfl⟩
  · cases h
theorem newN {b : Addr} {β : Bag} {F H : Hp} {xs : List V} {ds : List D} {Q : VK} (w : Wd b β F H) (i : ImA F xs ds) (k : ∀ a xs F' H', Wd b β F' H' → Stp b F H F' H' → H a = none → F' a = none → a ≠ b → H' a = some (.lst xs) → ImA F' xs ds → Q (.ref a) H') : ∀ p, H p = none → Q (.ref p) (upd H p (.lst xs)) := fun p hp =>
  k p xs F _ (w.own (w.fnone hp) (w.ne hp)) (Stp.own hp) hp (w.fnone hp) (w.ne hp) upd_same i
theorem evn_lst (h : EvL G X es ta ml) : EvN G X (.List es pos) (tLst ta) (mLd ml) := by
  refine ⟨fun c => pe_lst (h.pe c), fun b H0 F H ρ β σ d β' Q w rp hm k => ?_⟩
  unfold mLd at hm
  obtain ⟨⟨x, β1⟩, h1, hm⟩ := Option.bind_eq_some_iff.mp hm
  obtain ⟨z, h3, hm⟩ := Option.map_eq_some_iff.mp hm
  cases hm
  obtain ⟨hz, rfl⟩ := lstG_some h3
  exact h.snd b H0 F H ρ β σ _ _ _ w rp h1 fun us F' H' w' s i => ⟨by rw [i.length]; exact hz, newN w' i fun a xs F2 H2 w2 s2 ha hf hb hH im => k a xs F2 H2 w2 (s.trans s2) (s.free ha) hf hb hH im⟩
def mNl (m : ME) : ML := fun ρ β => (m ρ β).bind fun p => (seqD p.1).map fun ds => (ds, p.2)
/-- list(x) -/
theorem evn_list (hm : G.mg "list" = none) (ha : Ev G pkR X e te m) (hg : Gl X "list" := by rfl)
    (he : starEach [e] X.env = (false, eval e X.env) :: starEach [] X.env := by rfl) : EvN G X (.Call (.Name "list" p) [e] [] pos) (tCB (fun xs H Q => ∃ p ys, xs = [.ref p] ∧ (SqL G.K H p ys ∨ SqT G.K H p ys) ∧ ∀ l, H l = none → Q (.ref l) (upd H l (.lst ys))) (tCons te tNil)) (mNl m) := by
  refine ⟨fun c => pe_callTy (cr_lst c) hg (by rw [c.mg]; exact hm) (by decide +kernel) (pa_cons (ha.pe c) pa_nil he) (by decide) (by decide) he rfl, fun b H0 F H ρ β σ d β' Q w rp hm k => ?_⟩
  unfold mNl at hm
  obtain ⟨⟨x, β1⟩, h1, hm⟩ := Option.bind_eq_some_iff.mp hm
  obtain ⟨z, h3, hm⟩ := Option.map_eq_some_iff.mp hm
  cases hm
  refine ha.snd b H0 F H ρ β σ x _ _ w rp h1 fun u F1 H1 w1 s1 i1 => ?_
  obtain ⟨a, ys, rfl, hq, im⟩ := i1.seq (K := G.K) w1.le h3
  exact ⟨a, ys, rfl, hq, newN w1 im fun a xs F2 H2 w2 s2 ha hf hb hH im => k a xs F2 H2 w2 (s1.trans s2) (s1.free ha) hf hb hH im⟩
/-! ### comprehensions -/
structure EvF (G : Gx) (X : Cx) (ifs : List Expr) (tt : TT) (m : MT) : Prop where
  pe : Cond G X → PTs X ifs tt
  snd : SndT G.mg tt m
def mYes : MT := fun _ β => some (true, β)
theorem evf_nil : EvF G X [] tYes mYes := ⟨fun _ => pts_nil, fun b H0 F H ρ β σ d β' Q w rp hm k => by cases hm; exact k F H w Stp.refl⟩
theorem evf_one (h : EvT G X e tt mt) : EvF G X [e] tt mt := ⟨fun c => pts_one (h.pe c), h.snd⟩
def wipeR (ρ : List Slot) : List Nat → List Slot
  | [] => ρ
  | v :: vs => (wipeR ρ vs).set v .no
theorem Rep.wipe {mg : Str → Option Value} {b : Addr} {H0 F H : Hp} {ρ : List Slot} {σ : L2.St} (r : Rep mg b H0 F H ρ σ) : ∀ vs, Rep mg b H0 F H (wipeR ρ vs) (L2.wipe σ vs)
  | [] => r
  | v :: vs => by
    have ih := Rep.wipe r vs
    show Rep mg b H0 F H ((wipeR ρ vs).set v .no) ((L2.wipe σ vs).set v none)
    refine ⟨by rw [List.length_set, List.length_set]; exact ih.len, fun i s e => ?_, fun i j s t a e1 e2 o1 o2 h1 h2 => ?_⟩
    · rw [List.getElem?_set] at e
      by_cases z : v = i
      · rw [if_pos z] at e
        split at e
        · cases e; exact .inl rfl
        · cases e
      · rw [if_neg z] at e
        rcases ih.atS i s e with q | ⟨u, h, q⟩
        · exact .inl q
        · exact .inr ⟨u, by rw [List.getElem?_set, if_neg z]; exact h, q⟩
    · have nz : ∀ {j : Nat} {t : Slot}, ((wipeR ρ vs).set v .no)[j]? = some t → t.isOwn = true → v ≠ j ∧ (wipeR ρ vs)[j]? = some t := fun {j t} e o => by
        rw [List.getElem?_set] at e
        by_cases z : v = j
        · rw [if_pos z] at e
          split at e
          · cases e; cases o
          · cases e
        · rw [if_neg z] at e
          exact ⟨z, e⟩
      obtain ⟨z1, e1'⟩ := nz e1 o1
      obtain ⟨z2, e2'⟩ := nz e2 o2
      rw [List.getElem?_set, if_neg z1] at h1
      rw [List.getElem?_set, if_neg z2] at h2
      exact ih.inj i j s t a e1' e2' o1 o2 h1 h2
def lcGo (ρ : List Slot) (mg : MG) (mt : MT) (me : ME) : List D → Bag → Option (List D × Bag)
  | [], β => some ([], β)
  | d :: r, β => (mg d ρ).bind fun ρ2 => (mt ρ2 β).bind fun p => if p.1 = true then (me ρ2 p.2).bind fun q => (lcGo ρ mg mt me r q.2).map fun s => (q.1 :: s.1, s.2) else lcGo ρ mg mt me r p.2
def mLc (vs : List Nat) (mi : ML) (mg : MG) (mt : MT) (me : ME) : ML := fun ρ β => (mi ρ β).bind fun p => (lcGo (wipeR ρ vs) mg mt me p.1 p.2).bind fun q => (lstG q.1).map fun d => (d, q.2)
theorem drop_get {α : Type} {l : List α} {i : Nat} {d : α} (h : l[i]? = some d) : l.drop i = d :: l.drop (i + 1) := by
  obtain ⟨hi, e⟩ := List.getElem?_eq_some_iff.mp h
  rw [List.drop_eq_getElem_cons hi, e]
theorem snd_lc {mgl : Str → Option Value} (hi : SndI mgl true wi mi) (hg : SndG mgl g mg is) (ht : SndT mgl tt mt) (he : SndE mgl imR te m) (his : ∀ i ∈ is, i ∈ own.map (·.2)) : SndN mgl (tLc wi g tt te (own.map (·.2))) (mLc (own.map (·.2)) mi mg mt m) := fun b H0 F H ρ β σ ds β' Q w rp hm k => by
  unfold mLc at hm
  obtain ⟨⟨xs, β1⟩, h1, hm⟩ := Option.bind_eq_some_iff.mp hm
  obtain ⟨⟨ys, β2⟩, h2, hm⟩ := Option.bind_eq_some_iff.mp hm
  obtain ⟨z, h3, hm⟩ := Option.map_eq_some_iff.mp hm
  cases hm
  obtain ⟨hz, ez⟩ := lstG_some h3
  subst ez
  refine hi b H0 F H ρ β σ xs β1 _ w rp h1 fun J F1 H1 Gd Y w1 s1 wk hG hY lo hD => ?_
  have hb := w1.ne hD
  have hfD := w1.fnone hD
  have rp1 := rp.step s1 w.le
  let Pv : Nat → Hp → Prop := fun i Hc => ∃ (Fc : Hp) (βc : Bag) (acc : List V) (dn rs : List D), Wd b βc Fc Hc ∧ Stp b F1 H1 Fc Hc ∧ Fc lo = none ∧ Hc lo = some (.lst acc) ∧ ImA Fc acc dn ∧ lcGo (wipeR ρ (own.map (·.2))) mg mt m (xs.drop i) βc = some (rs, β2) ∧ dn ++ rs = ds
  refine lc_it wk Pv ?_ (fun i Hc _ p => ?_) (fun i x Hc Hx hlt p y => ?_) fun Hc p => ?_
  · exact ⟨F1, β1, [], [], ds, w1.own hfD hb, Stp.own hD, hfD, upd_same, .nil, by rw [List.drop_zero]; exact h2, rfl⟩
  · obtain ⟨Fc, βc, acc, dn, rs, wc, sc, _⟩ := p
    exact hG Fc Hc ⟨sc.same w1.le, wc.le, fun _ => sc⟩
  · obtain ⟨Fc, βc, acc, dn, rs, wc, sc, fD, hDc, im, hgo, hz2⟩ := p
    obtain ⟨F3, d, s3, w3, hd, ix⟩ := hY i βc Fc Hc x Hx hlt ⟨sc.same w1.le, wc.le, fun _ => sc⟩ wc y
    have sx := sc.trans s3
    rw [drop_get hd] at hgo
    unfold lcGo at hgo
    obtain ⟨ρ2, g1, hgo⟩ := Option.bind_eq_some_iff.mp hgo
    obtain ⟨⟨c, β3⟩, g2, hgo⟩ := Option.bind_eq_some_iff.mp hgo
    refine hg b βc H0 F3 Hx _ _ x d ρ2 _ w3 ((rp1.step sx w1.le).wipe _) ix g1 fun σ2 r2 hw => ?_
    refine ⟨(hw _ his).trans (wipe_wipe σ _), ?_⟩
    refine ht b H0 F3 Hx ρ2 βc σ2 c β3 _ w3 r2 g2 fun F4 H4 w4 s4 => ?_
    have hD3 := s3.kp hb hDc
    have fD3 : F3 lo = none := by rw [s3.fz lo _ hDc]; exact fD
    have hD4 := s4.kp hb hD3
    have fD4 : F4 lo = none := by rw [s4.fz lo _ hD3]; exact fD3
    rcases iteB hgo with ⟨hc, hgo'⟩ | ⟨hc, hgo'⟩
    · have hc' : c = true := hc
      subst hc'
      obtain ⟨⟨y1, β4⟩, g3, hgo'⟩ := Option.bind_eq_some_iff.mp hgo'
      obtain ⟨⟨rs', β5⟩, g4, hgo'⟩ := Option.map_eq_some_iff.mp hgo'
      cases hgo'
      refine iteT (he b H0 F4 H4 ρ2 β3 σ2 y1 β4 _ w4 (r2.step s4 w3.le) g3 fun u F5 H5 w5 s5 i5 => ?_)
      have hD5 := s5.kp hb hD4
      have fD5 : F5 lo = none := by rw [s5.fz lo _ hD4]; exact fD4
      refine ⟨acc, hD5, ?_, F5, β4, acc ++ [u], dn ++ [y1], rs', w5.own fD5 hb, (((sx.trans s4).trans s5).mut hD), fD5, upd_same, ?_, g4, by rw [List.append_assoc]; exact hz2⟩
      · have e1 := im.length
        have hz : ds.length ≤ sizeLine := hz
        have e2 : ds.length = dn.length + (rs'.length + 1) := by rw [← hz2, List.length_append, List.length_cons]
        omega
      · exact (im.same (((s3.trans s4).trans s5).same wc.le)).snoc i5
    · have hc' : c = false := hc
      subst hc'
      exact iteF ⟨F4, β3, acc, dn, rs, w4, sx.trans s4, fD4, hD4, im.same ((s3.trans s4).same wc.le), hgo', hz2⟩
  · obtain ⟨Fc, βc, acc, dn, rs, wc, sc, fD, hDc, im, hgo, hz2⟩ := p
    rw [List.drop_length] at hgo
    cases hgo
    rw [List.append_nil] at hz2
    subst hz2
    exact k lo acc Fc Hc wc (s1.trans sc) (s1.free hD) fD hb hDc im
where
  wipe_wipe (σ : L2.St) (vs : List Nat) : L2.wipe (L2.wipe σ vs) vs = L2.wipe σ vs := by
    have key : ∀ (ws vs : List Nat), (∀ i ∈ ws, i ∈ vs) → L2.wipe (L2.wipe σ vs) ws = L2.wipe σ vs := by
      intro ws vs
      induction ws with
      | nil => intro _; rfl
      | cons v ws ih =>
        intro h
        show (L2.wipe (L2.wipe σ vs) ws).set v none = L2.wipe σ vs
        rw [ih fun i hi => h i (List.mem_cons_of_mem _ hi)]
        have hv := h v List.mem_cons_self
        apply List.ext_getElem?
        intro j
        rw [List.getElem?_set]
        by_cases z : v = j
        · subst z
          rw [if_pos rfl]
          split
          · rename_i hl
            cases q : (L2.wipe σ vs)[v]? with
            | none =>
              rw [List.getElem?_eq_none_iff] at q
              omega
            | some o =>
              cases o with
              | none => rfl
              | some u => exact absurd hv (wipe_some q).2
          · rename_i hl
            rw [List.getElem?_eq_none_iff.mpr (by omega)]
        · rw [if_neg z]
    exact key vs vs fun _ h => h
theorem evn_lc (hN : X.N.Nodup) (hi : EvI G true X tg it wi mi) (ok : BlkOk X.N X.env.scope scope own)
    (hg : ∀ (s : Shared) (H : Hp) (C : Addr) (cl : List (Str × Addr)) (fp : List Addr), EvG G (X.blk s H scope (compEnvC scope cl C X.env) fp) tg g mg is)
    (ht : ∀ (s : Shared) (H : Hp) (C : Addr) (cl : List (Str × Addr)) (fp : List Addr), EvF G (X.blk s H scope (compEnvC scope cl C X.env) fp) ifs tt mt)
    (he : ∀ (s : Shared) (H : Hp) (C : Addr) (cl : List (Str × Addr)) (fp : List Addr), Ev G imR (X.blk s H scope (compEnvC scope cl C X.env) fp) elt te m)
    (his : ∀ i ∈ is, i ∈ own.map (·.2) := by decide) (hs : ∀ x, foldedSetIterable it X.env x = pure x := by intro _; rfl) :
    EvN G X (.ListComp elt [⟨tg, it, ifs, 0⟩] scope pos) (tLc wi g tt te (own.map (·.2))) (mLc (own.map (·.2)) mi mg mt m) :=
  ⟨fun c => pe_lc c.calm hN (hi.pe c) ok (fun s H C cl fp => (hg s H C cl fp).pe (c.blk ..)) (fun s H C cl fp => (ht s H C cl fp).pe (c.blk ..)) (fun s H C cl fp => (he s H C cl fp).pe (c.blk ..)) hs,
    snd_lc hi.snd (hg X.s_0 X.H_0 0 [] []).snd (ht X.s_0 X.H_0 0 [] []).snd (he X.s_0 X.H_0 0 [] []).snd his⟩
end
end M
/-! M5: comprehensions of two clauses, dicts, calls of defs. -/
namespace M
open PySem PySem.Spec PyProof.Rows L2
/-! ### a walk by its invariant -/
theorem walk_by {J : It} {n : Nat} {Gd : Hp → Prop} {Y : Nat → Hp → V → Hp → Prop} (w : Walk J n Gd Y) {H1 : Hp} {Qd : Hp → Prop} {B : V → Hp → (Hp → Prop) → Prop} (Pv : Nat → Hp → Prop) (h0 : Pv 0 H1) (hG : ∀ i H, i ≤ n → Pv i H → Gd H)
    (hs : ∀ i x H H', i < n → Pv i H → Y i H x H' → B x H' (Pv (i + 1))) (hd : ∀ H, Pv n H → Qd H) :
    ∃ W : Nat → Nat → Hp → Prop, (∃ m, W 0 m H1) ∧ ∀ i m H, W i m H → (J.stop i H ∧ Qd H) ∨ (J.go i H ∧ ∃ Nx : Hp → Prop, (∀ H', Nx H' → ∃ m', m' < m ∧ W (i + 1) m' H') ∧ ∀ x H', J.yld i H x H' → B x H' Nx) := by
  refine ⟨fun i m H => m = n - i ∧ i ≤ n ∧ Pv i H, ⟨n, by simp, Nat.zero_le _, h0⟩, ?_⟩
  rintro i m H ⟨rfl, hi, p⟩
  have q := hG i H hi p
  by_cases hlt : i < n
  · exact .inr ⟨w.goes i H hlt q, Pv (i + 1), fun H' p' => ⟨n - (i + 1), by omega, rfl, hlt, p'⟩, fun x H' y => hs i x H H' hlt p (w.yields i H x H' hlt q y)⟩
  · have e : i = n := by omega
    subst e
    exact .inl ⟨w.stops H q, hd H p⟩
theorem Rep.mark {mg : Str → Option Value} {b lo : Addr} {H0 F H : Hp} {o : HO} {ρ : List Slot} {σ : L2.St} (r : Rep mg b H0 F H ρ σ) (h : H lo = none) : Rep mg b (upd H0 lo o) F H ρ σ := by
  refine ⟨r.len, fun i s e => ?_, r.inj⟩
  rcases r.atS i s e with z | ⟨u, hu, q⟩
  · exact .inl z
  · refine .inr ⟨u, hu, ?_⟩
    have ow : ∀ {a : Addr} {x : HO}, Ow b H0 F a → H a = some x → Ow b (upd H0 lo o) F a := fun {a x} w hx => ⟨w.nb, w.nf, by rw [upd_ne (fun z => by rw [z, h] at hx; cases hx)]; exact w.n0⟩
    cases s with
    | no => trivial
    | v d => exact q
    | own ds => obtain ⟨a, xs, e, w, h1, im⟩ := q; exact ⟨a, xs, e, ow w h1, h1, im⟩
    | dk ds => obtain ⟨a, xs, e, w, h1, im⟩ := q; exact ⟨a, xs, e, ow w h1, h1, im⟩
    | dt ds => obtain ⟨a, xs, e, w, h1, im⟩ := q; exact ⟨a, xs, e, ow w h1, h1, im⟩
    | bag => exact q
    | fn x => exact q
/-- a step but for the object at lo, which no slot owns -/
theorem Rep.stepX {mg : Str → Option Value} {b lo : Addr} {H0 F H F' H' : Hp} {ρ : List Slot} {σ : L2.St} (r : Rep mg b H0 F H ρ σ) (hlo : H0 lo ≠ none) (k : ∀ a o, a ≠ lo → H a = some o → ∃ o', H' a = some o' ∧ (a ≠ b → o' = o)) (f : ∀ a o, a ≠ lo → H a = some o → F' a = F a) (m : Same F F') : Rep mg b H0 F' H' ρ σ := by
  refine ⟨r.len, fun i s e => ?_, r.inj⟩
  rcases r.atS i s e with z | ⟨u, hu, q⟩
  · exact .inl z
  · refine .inr ⟨u, hu, ?_⟩
    have ow : ∀ {a : Addr} {x : HO}, Ow b H0 F a → H a = some x → Ow b H0 F' a ∧ H' a = some x := fun {a x} w hx => by
      have nl : a ≠ lo := fun z => hlo (by rw [← z]; exact w.n0)
      obtain ⟨o', h1, h2⟩ := k a x nl hx
      exact ⟨⟨w.nb, by rw [f a x nl hx]; exact w.nf, w.n0⟩, by rw [h1, h2 w.nb]⟩
    cases s with
    | no => trivial
    | v d => exact Im.same m q
    | own ds => obtain ⟨a, xs, e, w, h1, im⟩ := q; exact ⟨a, xs, e, (ow w h1).1, (ow w h1).2, im.same m⟩
    | dk ds => obtain ⟨a, xs, e, w, h1, im⟩ := q; exact ⟨a, xs, e, (ow w h1).1, (ow w h1).2, im.same m⟩
    | dt ds => obtain ⟨a, xs, e, w, h1, im⟩ := q; exact ⟨a, xs, e, (ow w h1).1, (ow w h1).2, im.same m⟩
    | bag => exact q
    | fn x => exact q
section
variable {G : Gx} {X : Cx} {e e1 e2 tg it tg1 it1 elt kx vx : Expr} {es ifs ifs1 : List Expr} {te t1 t2 tk tv : TE} {ta : TA} {tt tt1 : TT} {ml mi mi1 : ML} {m m1 m2 mk mv : ME} {mt mt1 : MT} {pos p p2 apos cpos : Pos} {g g1 : TG} {mg mg1 : MG} {is is1 vs1 : List Nat} {wi wi1 : TI} {scope : Scope} {own : List (Str × Nat)}
theorem wipe_set2 {vs ws : List Nat} (σ : L2.St) (h : ∀ i ∈ ws, i ∈ vs) : L2.wipe (L2.wipe σ ws) vs = L2.wipe σ vs := by
  induction ws with
  | nil => rfl
  | cons v ws ih =>
    show L2.wipe ((L2.wipe σ ws).set v none) vs = L2.wipe σ vs
    rw [wipe_at _ _ _ _ (h v List.mem_cons_self), ih fun i hi => h i (List.mem_cons_of_mem _ hi)]
def lc2Go (ρ : List Slot) (mg : MG) (mt : MT) (mi1 : ML) (vs1 : List Nat) (mg1 : MG) (mt1 : MT) (me : ME) : List D → Bag → Option (List D × Bag)
  | [], β => some ([], β)
  | d :: r, β => (mg d ρ).bind fun ρ2 => (mt ρ2 β).bind fun p => if p.1 = true then (mi1 ρ2 p.2).bind fun q => (lcGo (wipeR ρ2 vs1) mg1 mt1 me q.1 q.2).bind fun s => (lc2Go ρ mg mt mi1 vs1 mg1 mt1 me r s.2).map fun t => (s.1 ++ t.1, t.2)
      else lc2Go ρ mg mt mi1 vs1 mg1 mt1 me r p.2
def mLc2 (vs : List Nat) (mi : ML) (mg : MG) (mt : MT) (mi1 : ML) (vs1 : List Nat) (mg1 : MG) (mt1 : MT) (me : ME) : ML := fun ρ β => (mi ρ β).bind fun p => (lc2Go (wipeR ρ vs) mg mt mi1 vs1 mg1 mt1 me p.1 p.2).bind fun q => (lstG q.1).map fun d => (d, q.2)
theorem snd_lc2 {mgl : Str → Option Value} (hi : SndI mgl true wi mi) (hg : SndG mgl g mg is) (ht : SndT mgl tt mt) (hi1 : SndI mgl false wi1 mi1) (hg1 : SndG mgl g1 mg1 is1) (ht1 : SndT mgl tt1 mt1) (he : SndE mgl imR te m) (his : ∀ i ∈ is, i ∈ own.map (·.2)) (his1 : ∀ i ∈ is1, i ∈ vs1) :
    SndN mgl (tLc2 wi g tt wi1 g1 tt1 te (own.map (·.2)) vs1) (mLc2 (own.map (·.2)) mi mg mt mi1 vs1 mg1 mt1 m) := fun b H0 F H ρ β σ ds β' Q w rp hm k => by
  unfold mLc2 at hm
  obtain ⟨⟨xs, β1⟩, h1, hm⟩ := Option.bind_eq_some_iff.mp hm
  obtain ⟨⟨ys, β2⟩, h2, hm⟩ := Option.bind_eq_some_iff.mp hm
  obtain ⟨z, h3, hm⟩ := Option.map_eq_some_iff.mp hm
  cases hm
  obtain ⟨hz, ez⟩ := lstG_some h3
  have hz : ys.length ≤ sizeLine := hz
  subst ez
  refine hi b H0 F H ρ β σ xs β1 _ w rp h1 fun J F1 H1 Gd Y w1 s1 wk hG hY lo hD => ?_
  have hb := w1.ne hD
  have hfD := w1.fnone hD
  have rp1 := (rp.step s1 w.le).mark (lo := lo) (o := .lst []) hD
  have h0lo : upd H0 lo (.lst []) lo ≠ none := by rw [upd_same]; exact fun z => nomatch z
  let Pv : Nat → Hp → Prop := fun i Hc => ∃ (Fc : Hp) (βc : Bag) (acc : List V) (dn rs : List D), Wd b βc Fc Hc ∧ Stp b F1 H1 Fc Hc ∧ Fc lo = none ∧ Hc lo = some (.lst acc) ∧ ImA Fc acc dn ∧ lc2Go (wipeR ρ (own.map (·.2))) mg mt mi1 vs1 mg1 mt1 m (xs.drop i) βc = some (rs, β2) ∧ dn ++ rs = ds
  refine walk_by wk Pv ?_ (fun i Hc _ p => ?_) (fun i x Hc Hx hlt p y => ?_) fun Hc p => ?_
  · exact ⟨F1, β1, [], [], ds, w1.own hfD hb, Stp.own hD, hfD, upd_same, .nil, by rw [List.drop_zero]; exact h2, rfl⟩
  · obtain ⟨Fc, βc, acc, dn, rs, wc, sc, _⟩ := p
    exact hG Fc Hc ⟨sc.same w1.le, wc.le, fun _ => sc⟩
  · obtain ⟨Fc, βc, acc, dn, rs, wc, sc, fD, hDc, im, hgo, hz2⟩ := p
    obtain ⟨F3, d, s3, w3, hd, ix⟩ := hY i βc Fc Hc x Hx hlt ⟨sc.same w1.le, wc.le, fun _ => sc⟩ wc y
    have sx := sc.trans s3
    rw [drop_get hd] at hgo
    unfold lc2Go at hgo
    obtain ⟨ρ2, g1', hgo⟩ := Option.bind_eq_some_iff.mp hgo
    obtain ⟨⟨c, β3⟩, g2, hgo⟩ := Option.bind_eq_some_iff.mp hgo
    refine hg b βc _ F3 Hx _ _ x d ρ2 _ w3 ((rp1.step sx w1.le).wipe _) ix g1' fun σ2 r2 hw => ?_
    refine ⟨(hw _ his).trans (snd_lc.wipe_wipe σ _), ?_⟩
    refine ht b _ F3 Hx ρ2 βc σ2 c β3 _ w3 r2 g2 fun F4 H4 w4 s4 => ?_
    have hD3 := s3.kp hb hDc
    have fD3 : F3 lo = none := by rw [s3.fz lo _ hDc]; exact fD
    have hD4 := s4.kp hb hD3
    have fD4 : F4 lo = none := by rw [s4.fz lo _ hD3]; exact fD3
    rcases iteB hgo with ⟨hc, hgo'⟩ | ⟨hc, hgo'⟩
    · have hc' : c = true := hc
      subst hc'
      obtain ⟨⟨xs1, β4⟩, g3, hgo'⟩ := Option.bind_eq_some_iff.mp hgo'
      obtain ⟨⟨ys1, β5⟩, g4, hgo'⟩ := Option.bind_eq_some_iff.mp hgo'
      obtain ⟨⟨rs', β6⟩, g5, hgo'⟩ := Option.map_eq_some_iff.mp hgo'
      cases hgo'
      have r4 := r2.step s4 w3.le
      refine iteT (hi1 b _ F4 H4 ρ2 β3 σ2 xs1 β4 _ w4 r4 g3 fun J1 F5 H5 Gd1 Y1 w5 s5 wk1 hG1 hY1 => ?_)
      have hD5 := s5.kp hb hD4
      have fD5 : F5 lo = none := by rw [s5.fz lo _ hD4]; exact fD4
      have r5 := r4.step s5 w4.le
      have im5 := im.same (((s3.trans s4).trans s5).same wc.le)
      let Pw : Nat → Hp → Prop := fun j Hc => ∃ (Fc : Hp) (βc : Bag) (acc : List V) (dn1 rs1 : List D), Wd b βc Fc Hc ∧ Stp b F1 H1 Fc Hc ∧ Same F5 Fc ∧ (∀ a o, a ≠ lo → H5 a = some o → ∃ o', Hc a = some o' ∧ (a ≠ b → o' = o)) ∧ (∀ a o, a ≠ lo → H5 a = some o → Fc a = F5 a) ∧ Fc lo = none ∧ Hc lo = some (.lst acc) ∧ ImA Fc acc (dn ++ dn1) ∧
        lcGo (wipeR ρ2 vs1) mg1 mt1 m (xs1.drop j) βc = some (rs1, β5) ∧ dn1 ++ rs1 = ys1
      refine walk_by wk1 Pw ?_ (fun j Hc _ p => ?_) (fun j x1 Hc Hx1 hlt1 p y1 => ?_) fun Hc p => ?_
      · exact ⟨F5, β4, acc, [], ys1, w5, (sx.trans s4).trans s5, Same.refl _, fun a o _ h => ⟨o, h, fun _ => rfl⟩, fun _ _ _ _ => rfl, fD5, hD5, by rw [List.append_nil]; exact im5, by rw [List.drop_zero]; exact g4, rfl⟩
      · obtain ⟨Fc, βc, acc, dn1, rs1, wc, sc, sm, _⟩ := p
        exact hG1 Fc Hc ⟨sm, wc.le, fun z => nomatch z⟩
      · obtain ⟨Fc, βc', acc', dn1, rs1, wc', sc', sm, kp, kf, fD', hDc', imc, hgo1, hz3⟩ := p
        obtain ⟨F6, d1, s6, w6, hd1, ix1⟩ := hY1 j βc' Fc Hc x1 Hx1 hlt1 ⟨sm, wc'.le, fun z => nomatch z⟩ wc' y1
        rw [drop_get hd1] at hgo1
        unfold lcGo at hgo1
        obtain ⟨ρ3, q1, hgo1⟩ := Option.bind_eq_some_iff.mp hgo1
        obtain ⟨⟨c1, β7⟩, q2, hgo1⟩ := Option.bind_eq_some_iff.mp hgo1
        have r6 := ((r5.stepX h0lo kp kf sm).step s6 wc'.le).wipe vs1
        refine hg1 b βc' _ F6 Hx1 _ _ x1 d1 ρ3 _ w6 r6 ix1 q1 fun σ3 r7 hw1 => ?_
        refine ⟨(hw1 _ his1).trans (snd_lc.wipe_wipe σ2 _), ?_⟩
        have hD6 := s6.kp hb hDc'
        have fD6 : F6 lo = none := by rw [s6.fz lo _ hDc']; exact fD'
        refine ht1 b _ F6 Hx1 ρ3 βc' σ3 c1 β7 _ w6 r7 q2 fun F7 H7 w7 s7 => ?_
        have hD7 := s7.kp hb hD6
        have fD7 : F7 lo = none := by rw [s7.fz lo _ hD6]; exact fD6
        have kp2 : ∀ {F8 H8 : Hp}, Stp b Fc Hc F8 H8 → (∀ a o, a ≠ lo → H5 a = some o → ∃ o', H8 a = some o' ∧ (a ≠ b → o' = o)) ∧ ∀ a o, a ≠ lo → H5 a = some o → F8 a = F5 a := fun {F8 H8} st => by
          refine ⟨fun a o na h => ?_, fun a o na h => ?_⟩
          · obtain ⟨o1, h1, e1⟩ := kp a o na h
            obtain ⟨o2, h2, e2⟩ := st.keep a o1 h1
            exact ⟨o2, h2, fun z => (e2 z).trans (e1 z)⟩
          · obtain ⟨o1, h1, e1⟩ := kp a o na h
            rw [st.fz a o1 h1, kf a o na h]
        rcases iteB hgo1 with ⟨hc1, hgo2⟩ | ⟨hc1, hgo2⟩
        · have hc1' : c1 = true := hc1
          subst hc1'
          obtain ⟨⟨y2, β8⟩, q3, hgo2⟩ := Option.bind_eq_some_iff.mp hgo2
          obtain ⟨⟨rs2, β9⟩, q4, hgo2⟩ := Option.map_eq_some_iff.mp hgo2
          cases hgo2
          refine iteT (he b _ F7 H7 ρ3 β7 σ3 y2 β8 _ w7 (r7.step s7 w6.le) q3 fun u F8 H8 w8 s8 i8 => ?_)
          have hD8 := s8.kp hb hD7
          have fD8 : F8 lo = none := by rw [s8.fz lo _ hD7]; exact fD7
          have st := (s6.trans s7).trans s8
          refine ⟨acc', hD8, ?_, F8, β8, acc' ++ [u], dn1 ++ [y2], rs2, w8.own fD8 hb, (sc'.trans st).mut hD, sm.trans (st.same wc'.le), fun a o na h => ?_, (kp2 st).2, fD8, upd_same, ?_, q4, by rw [List.append_assoc]; exact hz3⟩
          · have e1 := imc.length
            have e2 : ds.length = dn.length + (ys1.length + rs'.length) := by rw [← hz2, List.length_append, List.length_append]
            have e3 : ys1.length = dn1.length + (rs2.length + 1) := by rw [← hz3, List.length_append, List.length_cons]
            have e4 : (dn ++ dn1).length = dn.length + dn1.length := List.length_append
            have hz : ds.length ≤ sizeLine := hz
            omega
          · rw [upd_ne na]
            exact (kp2 st).1 a o na h
          · have := (imc.same (st.same wc'.le)).snoc i8
            rw [List.append_assoc] at this
            exact this
        · have hc1' : c1 = false := hc1
          subst hc1'
          have st := s6.trans s7
          exact iteF ⟨F7, β7, acc', dn1, rs1, w7, sc'.trans st, sm.trans (st.same wc'.le), (kp2 st).1, (kp2 st).2, fD7, hD7, imc.same (st.same wc'.le), hgo2, hz3⟩
      · obtain ⟨Fc, βc', acc', dn1, rs1, wc', sc', sm, kp, kf, fD', hDc', imc, hgo1, hz3⟩ := p
        rw [List.drop_length] at hgo1
        cases hgo1
        rw [List.append_nil] at hz3
        subst hz3
        exact ⟨Fc, _, acc', dn ++ dn1, rs', wc', sc', fD', hDc', imc, g5, by rw [List.append_assoc]; exact hz2⟩
    · have hc' : c = false := hc
      subst hc'
      exact iteF ⟨F4, β3, acc, dn, rs, w4, sx.trans s4, fD4, hD4, im.same ((s3.trans s4).same wc.le), hgo', hz2⟩
  · obtain ⟨Fc, βc, acc, dn, rs, wc, sc, fD, hDc, im, hgo, hz2⟩ := p
    rw [List.drop_length] at hgo
    cases hgo
    rw [List.append_nil] at hz2
    subst hz2
    exact k lo acc Fc Hc wc (s1.trans sc) (s1.free hD) fD hb hDc im
theorem evn_lc2 (hN : X.N.Nodup) (hi : EvI G true X tg it wi mi) (ok : BlkOk X.N X.env.scope scope own) (hv : ∀ i ∈ vs1, i ∈ own.map (·.2))
    (hg : ∀ (s : Shared) (H : Hp) (C : Addr) (cl : List (Str × Addr)) (fp : List Addr), EvG G (X.blk s H scope (compEnvC scope cl C X.env) fp) tg g mg is)
    (ht : ∀ (s : Shared) (H : Hp) (C : Addr) (cl : List (Str × Addr)) (fp : List Addr), EvF G (X.blk s H scope (compEnvC scope cl C X.env) fp) ifs tt mt)
    (hi1 : ∀ (s : Shared) (H : Hp) (C : Addr) (cl : List (Str × Addr)) (fp : List Addr), EvI G false (X.blk s H scope (compEnvC scope cl C X.env) fp) tg1 it1 wi1 mi1)
    (hg1 : ∀ (s : Shared) (H : Hp) (C : Addr) (cl : List (Str × Addr)) (fp : List Addr), EvG G (X.blk s H scope (compEnvC scope cl C X.env) fp) tg1 g1 mg1 is1)
    (ht1 : ∀ (s : Shared) (H : Hp) (C : Addr) (cl : List (Str × Addr)) (fp : List Addr), EvF G (X.blk s H scope (compEnvC scope cl C X.env) fp) ifs1 tt1 mt1)
    (he : ∀ (s : Shared) (H : Hp) (C : Addr) (cl : List (Str × Addr)) (fp : List Addr), Ev G imR (X.blk s H scope (compEnvC scope cl C X.env) fp) elt te m)
    (his : ∀ i ∈ is, i ∈ own.map (·.2) := by decide) (his1 : ∀ i ∈ is1, i ∈ vs1 := by decide) (hs : ∀ x, foldedSetIterable it X.env x = pure x := by intro _; rfl) (hs1 : ∀ env x, foldedSetIterable it1 env x = pure x := by intro _ _; rfl) :
    EvN G X (.ListComp elt [⟨tg, it, ifs, 0⟩, ⟨tg1, it1, ifs1, 0⟩] scope pos) (tLc2 wi g tt wi1 g1 tt1 te (own.map (·.2)) vs1) (mLc2 (own.map (·.2)) mi mg mt mi1 vs1 mg1 mt1 m) :=
  ⟨fun c => pe_lc2 c.calm hN (hi.pe c) ok hv (fun s H C cl fp => (hg s H C cl fp).pe (c.blk ..)) (fun s H C cl fp => (ht s H C cl fp).pe (c.blk ..)) (fun s H C cl fp => (hi1 s H C cl fp).pe (c.blk ..)) (fun s H C cl fp => (hg1 s H C cl fp).pe (c.blk ..)) (fun s H C cl fp => (ht1 s H C cl fp).pe (c.blk ..)) (fun s H C cl fp => (he s H C cl fp).pe (c.blk ..)) hs hs1,
    snd_lc2 hi.snd (hg X.s_0 X.H_0 0 [] []).snd (ht X.s_0 X.H_0 0 [] []).snd (hi1 X.s_0 X.H_0 0 [] []).snd (hg1 X.s_0 X.H_0 0 [] []).snd (ht1 X.s_0 X.H_0 0 [] []).snd (he X.s_0 X.H_0 0 [] []).snd his his1⟩
end
end M
/-! M6: dicts, calls of defs, list(zip), index. -/
namespace M
open PySem PySem.Spec PyProof.Rows L2
/-! ### what a dict holds -/
section
variable {κ : Type} [DecidableEq κ]
def getA {α : Type} (kvs : List (κ × α)) (k : κ) : Option α := (kvs.find? fun kv => decide (kv.1 = k)).map (·.2)
def putA {α : Type} (kvs : List (κ × α)) (k : κ) (v : α) : List (κ × α) :=
  if (kvs.any fun kv => decide (kv.1 = k)) = true then kvs.map (fun kv => if kv.1 = k then (kv.1, v) else kv) else kvs ++ [(k, v)]
variable {F : Hp} {k : κ} {v : V} {d : D}
theorem ImK.length : ∀ {r : List (κ × V)} {s : List (κ × D)}, ImK F r s → r.length = s.length
  | _, _, .nil => rfl
  | _, _, .cons _ t => by rw [List.length_cons, List.length_cons, ImK.length t]
theorem ImK.any : ∀ {r : List (κ × V)} {s : List (κ × D)}, ImK F r s → (r.any fun kv => decide (kv.1 = k)) = s.any fun kv => decide (kv.1 = k)
  | _, _, .nil => rfl
  | _, _, .cons _ t => by rw [List.any_cons, List.any_cons, ImK.any t]
theorem ImK.get : ∀ {r : List (κ × V)} {s : List (κ × D)}, ImK F r s → getA s k = some d → ∃ v, valV r k = some v ∧ Im F v d
  | _, _, .nil, h => by cases h
  | _, _, @ImK.cons _ _ k' v' d' r s i t, h => by
    by_cases e : k' = k
    · subst e
      have : getA ((k', d') :: s) k' = some d' := by simp [getA]
      rw [this] at h
      cases h
      exact ⟨v', valV_pos rfl, i⟩
    · have : getA ((k', d') :: s) k = getA s k := by simp [getA, List.find?_cons, e]
      rw [this] at h
      obtain ⟨v2, h1, h2⟩ := ImK.get t h
      exact ⟨v2, by rw [valV_neg e]; exact h1, h2⟩
theorem ImK.isSome : ∀ {r : List (κ × V)} {s : List (κ × D)}, ImK F r s → (valV r k).isSome = (getA s k).isSome
  | _, _, .nil => rfl
  | _, _, @ImK.cons _ _ k' v' d' r s i t => by
    by_cases e : k' = k
    · subst e
      rw [valV_pos rfl]
      simp [getA]
    · have : getA ((k', d') :: s) k = getA s k := by simp [getA, List.find?_cons, e]
      rw [this, valV_neg e]
      exact ImK.isSome t
theorem ImK.app : ∀ {r r' : List (κ × V)} {s s' : List (κ × D)}, ImK F r s → ImK F r' s' → ImK F (r ++ r') (s ++ s')
  | _, _, _, _, .nil, q => q
  | _, _, _, _, .cons i t, q => .cons i (ImK.app t q)
theorem ImK.put (i : Im F v d) {r : List (κ × V)} {s : List (κ × D)} (h : ImK F r s) : ImK F (putK r k v) (putA s k d) := by
  unfold putK putA
  rw [h.any (k := k)]
  split
  · induction h with
    | nil => exact .nil
    | @cons k' v' d' r s j t ih =>
      by_cases e : k' = k
      · subst e
        simp only [List.map_cons, if_true]
        exact .cons i (map_ok i t)
      · simp only [List.map_cons, if_neg e]
        exact .cons j (map_ok i t)
  · exact h.app (.cons i .nil)
where
  map_ok {F : Hp} {k : κ} {v : V} {d : D} (i : Im F v d) : ∀ {r : List (κ × V)} {s : List (κ × D)}, ImK F r s → ImK F (r.map fun kv => if kv.1 = k then (kv.1, v) else kv) (s.map fun kv => if kv.1 = k then (kv.1, d) else kv)
    | _, _, .nil => .nil
    | _, _, @ImK.cons _ _ k' v' d' r s j t => by
      by_cases e : k' = k
      · simp only [List.map_cons, if_pos e]
        exact .cons i (map_ok i t)
      · simp only [List.map_cons, if_neg e]
        exact .cons j (map_ok i t)
end
theorem ImK.vals {κ : Type} {F : Hp} : ∀ {r : List (κ × V)} {s : List (κ × D)}, ImK F r s → ImA F (r.map fun kv => kv.2) (s.map fun kv => kv.2)
  | _, _, .nil => .nil
  | _, _, .cons i t => .cons i (ImK.vals t)
def keyD : D → Option Key
  | .int i => some (.inl i)
  | .str x => some (.inr x)
  | _ => none
def ofKey : Key → D
  | .inl i => .int i
  | .inr x => .str x
theorem im_key {F : Hp} (k : Key) : Im F (kV k) (ofKey k) := by cases k with | inl i => exact .int i | inr x => exact .str x
theorem keyD_im {b : Addr} {F H : Hp} {u : V} {d : D} {k : Key} (r : pkR b F H u d) (h : keyD d = some k) : u = kV k := by
  cases d <;> first
    | (cases h; first | exact r.int | exact r.str)
    | cases h
theorem keyD_of {d : D} {k : Key} (h : keyD d = some k) : d = ofKey k := by
  cases d <;> first
    | (cases h; rfl)
    | cases h
theorem ImK.keys {F : Hp} : ∀ {r : List (Key × V)} {s : List (Key × D)}, ImK F r s → ImA F (r.map fun kv => kV kv.1) (s.map fun kv => ofKey kv.1)
  | _, _, .nil => .nil
  | _, _, .cons i t => .cons (im_key _) (ImK.keys t)
abbrev MK := List Slot → Bag → Option (List (Key × D) × Bag)
def SndK (mg : Str → Option Value) (te : TE) (m : MK) : Prop := ∀ (b : Addr) (H0 F H : Hp) (ρ : List Slot) (β : Bag) (σ : L2.St) (ds : List (Key × D)) (β' : Bag) (Q : VK), Wd b β F H → Rep mg b H0 F H ρ σ → m ρ β = some (ds, β') →
  (∀ a ks F' H', Wd b β' F' H' → Stp b F H F' H' → H a = none → F' a = none → a ≠ b → H' a = some (.dK ks) → ImK F' ks ds → Q (.ref a) H') → te σ H Q
structure EvK (G : Gx) (X : Cx) (e : Expr) (te : TE) (m : MK) : Prop where
  pe : Cond G X → PE X e te
  snd : SndK G.mg te m
section
variable {G : Gx} {X : Cx} {e e1 e2 tg it elt kx vx : Expr} {es ifs : List Expr} {te t1 t2 tk tv : TE} {ta : TA} {tt : TT} {ml mi : ML} {ma : MA} {m m1 m2 mk mv : ME} {mt : MT} {pos p p2 apos cpos : Pos} {g : TG} {mg : MG} {is : List Nat} {wi : TI} {scope : Scope} {own : List (Str × Nat)}
/-! ### dict comprehensions -/
def dcGo (ρ : List Slot) (mg : MG) (mt : MT) (mk mv : ME) : List D → List (Key × D) → Bag → Option (List (Key × D) × Bag)
  | [], kvs, β => some (kvs, β)
  | d :: r, kvs, β => (mg d ρ).bind fun ρ2 => (mt ρ2 β).bind fun p => if p.1 = true then (mk ρ2 p.2).bind fun q => (mv ρ2 q.2).bind fun s => (keyD q.1).bind fun k => if kvs.length < sizeLine then dcGo ρ mg mt mk mv r (putA kvs k s.1) s.2 else none
      else dcGo ρ mg mt mk mv r kvs p.2
def mDc (vs : List Nat) (mi : ML) (mg : MG) (mt : MT) (mk mv : ME) : MK := fun ρ β => (mi ρ β).bind fun p => dcGo (wipeR ρ vs) mg mt mk mv p.1 [] p.2
theorem snd_dc {mgl : Str → Option Value} (hi : SndI mgl true wi mi) (hg : SndG mgl g mg is) (ht : SndT mgl tt mt) (hk : SndE mgl imR tk mk) (hv : SndE mgl imR tv mv) (his : ∀ i ∈ is, i ∈ own.map (·.2)) : SndK mgl (tDc wi g tt tk tv (own.map (·.2))) (mDc (own.map (·.2)) mi mg mt mk mv) := fun b H0 F H ρ β σ ds β' Q w rp hm k => by
  unfold mDc at hm
  obtain ⟨⟨xs, β1⟩, h1, h2⟩ := Option.bind_eq_some_iff.mp hm
  refine hi b H0 F H ρ β σ xs β1 _ w rp h1 fun J F1 H1 Gd Y w1 s1 wk hG hY lo hD => ?_
  have hb := w1.ne hD
  have hfD := w1.fnone hD
  have rp1 := rp.step s1 w.le
  let Pv : Nat → Hp → Prop := fun i Hc => ∃ (Fc : Hp) (βc : Bag) (acc : List (Key × V)) (dn : List (Key × D)), Wd b βc Fc Hc ∧ Stp b F1 H1 Fc Hc ∧ Fc lo = none ∧ Hc lo = some (.dK acc) ∧ ImK Fc acc dn ∧ dcGo (wipeR ρ (own.map (·.2))) mg mt mk mv (xs.drop i) dn βc = some (ds, β')
  refine walk_by wk Pv ?_ (fun i Hc _ p => ?_) (fun i x Hc Hx hlt p y => ?_) fun Hc p => ?_
  · exact ⟨F1, β1, [], [], w1.own hfD hb, Stp.own hD, hfD, upd_same, .nil, by rw [List.drop_zero]; exact h2⟩
  · obtain ⟨Fc, βc, acc, dn, wc, sc, _⟩ := p
    exact hG Fc Hc ⟨sc.same w1.le, wc.le, fun _ => sc⟩
  · obtain ⟨Fc, βc, acc, dn, wc, sc, fD, hDc, im, hgo⟩ := p
    obtain ⟨F3, d, s3, w3, hd, ix⟩ := hY i βc Fc Hc x Hx hlt ⟨sc.same w1.le, wc.le, fun _ => sc⟩ wc y
    have sx := sc.trans s3
    rw [drop_get hd] at hgo
    unfold dcGo at hgo
    obtain ⟨ρ2, g1, hgo⟩ := Option.bind_eq_some_iff.mp hgo
    obtain ⟨⟨c, β3⟩, g2, hgo⟩ := Option.bind_eq_some_iff.mp hgo
    refine hg b βc H0 F3 Hx _ _ x d ρ2 _ w3 ((rp1.step sx w1.le).wipe _) ix g1 fun σ2 r2 hw => ?_
    refine ⟨(hw _ his).trans (snd_lc.wipe_wipe σ _), ?_⟩
    refine ht b H0 F3 Hx ρ2 βc σ2 c β3 _ w3 r2 g2 fun F4 H4 w4 s4 => ?_
    have hD3 := s3.kp hb hDc
    have fD3 : F3 lo = none := by rw [s3.fz lo _ hDc]; exact fD
    have hD4 := s4.kp hb hD3
    have fD4 : F4 lo = none := by rw [s4.fz lo _ hD3]; exact fD3
    rcases iteB hgo with ⟨hc, hgo'⟩ | ⟨hc, hgo'⟩
    · have hc' : c = true := hc
      subst hc'
      obtain ⟨⟨y1, β4⟩, g3, hgo'⟩ := Option.bind_eq_some_iff.mp hgo'
      obtain ⟨⟨z1, β5⟩, g4, hgo'⟩ := Option.bind_eq_some_iff.mp hgo'
      obtain ⟨kk, g5, hgo'⟩ := Option.bind_eq_some_iff.mp hgo'
      have r4 := r2.step s4 w3.le
      refine iteT (hk b H0 F4 H4 ρ2 β3 σ2 y1 β4 _ w4 r4 g3 fun u F5 H5 w5 s5 i5 => ?_)
      refine hv b H0 F5 H5 ρ2 β4 σ2 z1 β5 _ w5 (r4.step s5 w4.le) g4 fun u2 F6 H6 w6 s6 i6 => ?_
      have hD6 := s6.kp hb (s5.kp hb hD4)
      have fD6 : F6 lo = none := by rw [s6.fz lo _ (s5.kp hb hD4), s5.fz lo _ hD4]; exact fD4
      by_cases hz : dn.length < sizeLine
      · rw [if_pos hz] at hgo'
        have st := ((s3.trans s4).trans s5).trans s6
        have im6 := im.same (st.same wc.le)
        exact ⟨acc, kk, keyD_im (b := b) (H := H5) (.inl i5) g5, hD6, by rw [im.length]; exact hz, F6, β5, putK acc kk u2, putA dn kk z1, w6.own fD6 hb, (sc.trans st).mut hD, fD6, upd_same, im6.put i6, hgo'⟩
      · rw [if_neg hz] at hgo'
        cases hgo'
    · have hc' : c = false := hc
      subst hc'
      exact iteF ⟨F4, β3, acc, dn, w4, sx.trans s4, fD4, hD4, im.same ((s3.trans s4).same wc.le), hgo'⟩
  · obtain ⟨Fc, βc, acc, dn, wc, sc, fD, hDc, im, hgo⟩ := p
    rw [List.drop_length] at hgo
    cases hgo
    exact k lo acc Fc Hc wc (s1.trans sc) (s1.free hD) fD hb hDc im
theorem evk_dc (hN : X.N.Nodup) (hi : EvI G true X tg it wi mi) (ok : BlkOk X.N X.env.scope scope own)
    (hg : ∀ (s : Shared) (H : Hp) (C : Addr) (cl : List (Str × Addr)) (fp : List Addr), EvG G (X.blk s H scope (compEnvC scope cl C X.env) fp) tg g mg is)
    (ht : ∀ (s : Shared) (H : Hp) (C : Addr) (cl : List (Str × Addr)) (fp : List Addr), EvF G (X.blk s H scope (compEnvC scope cl C X.env) fp) ifs tt mt)
    (hk : ∀ (s : Shared) (H : Hp) (C : Addr) (cl : List (Str × Addr)) (fp : List Addr), Ev G imR (X.blk s H scope (compEnvC scope cl C X.env) fp) kx tk mk)
    (hv : ∀ (s : Shared) (H : Hp) (C : Addr) (cl : List (Str × Addr)) (fp : List Addr), Ev G imR (X.blk s H scope (compEnvC scope cl C X.env) fp) vx tv mv)
    (his : ∀ i ∈ is, i ∈ own.map (·.2) := by decide) (hs : ∀ x, foldedSetIterable it X.env x = pure x := by intro _; rfl) :
    EvK G X (.DictComp kx vx [⟨tg, it, ifs, 0⟩] scope pos) (tDc wi g tt tk tv (own.map (·.2))) (mDc (own.map (·.2)) mi mg mt mk mv) :=
  ⟨fun c => pe_dc c.calm hN (hi.pe c) ok (fun s H C cl fp => (hg s H C cl fp).pe (c.blk ..)) (fun s H C cl fp => (ht s H C cl fp).pe (c.blk ..)) (fun s H C cl fp => (hk s H C cl fp).pe (c.blk ..)) (fun s H C cl fp => (hv s H C cl fp).pe (c.blk ..)) hs,
    snd_dc hi.snd (hg X.s_0 X.H_0 0 [] []).snd (ht X.s_0 X.H_0 0 [] []).snd (hk X.s_0 X.H_0 0 [] []).snd (hv X.s_0 X.H_0 0 [] []).snd his⟩
/-- tuple(a new dict) -/
def mTk (mk : MK) : ME := fun ρ β => (mk ρ β).map fun p => (.tuple (p.1.map fun kv => ofKey kv.1), p.2)
theorem ev_tupK {mk : MK} (hm : G.mg "tuple" = none) (ha : EvK G X e te mk) (hg : Gl X "tuple" := by rfl) (he : starEach [e] X.env = (false, eval e X.env) :: starEach [] X.env := by rfl) : Ev G imR X (.Call (.Name "tuple" p) [e] [] pos) (tCB _root_.G.rTupD (tCons te tNil)) (mTk mk) := by
  refine ⟨fun c => pe_callTy (_root_.G.call_tupD c.calm) hg (by rw [c.mg]; exact hm) (by decide +kernel) (pa_cons (ha.pe c) pa_nil he) (by decide) (by decide) he rfl, fun b H0 F H ρ β σ d β' Q w rp hm k => ?_⟩
  unfold mTk at hm
  obtain ⟨⟨x, β1⟩, h1, hm⟩ := Option.map_eq_some_iff.mp hm
  cases hm
  refine ha.snd b H0 F H ρ β σ x _ _ w rp h1 fun a ks F1 H1 w1 s1 ha hf hb hH im => ?_
  exact ⟨a, ks, rfl, hH, new_tup w1 im.keys fun u F2 H2 w2 s2 i2 => k u F2 H2 w2 (s1.trans s2) i2⟩
/-! ### dict([(k, v), ..]) -/
def pairK : D → Option (Key × D)
  | .tuple [a, b] => (keyD a).map fun k => (k, b)
  | _ => none
def pairsK : List D → Option (List (Key × D))
  | [] => some []
  | d :: r => (pairK d).bind fun p => (pairsK r).map fun q => p :: q
def mergeA (kvs more : List (Key × D)) : List (Key × D) := more.foldl (fun acc kv => putA acc kv.1 kv.2) kvs
theorem ImK.merge {F : Hp} {more : List (Key × V)} {ms : List (Key × D)} (h : ImK F more ms) : ∀ {r : List (Key × V)} {s : List (Key × D)}, ImK F r s → ImK F (mergeK r more) (mergeA s ms) := by
  induction h with
  | nil => intro r s q; exact q
  | @cons k v d more ms i t ih =>
    intro r s q
    show ImK F (mergeK (putK r k v) more) (mergeA (putA s k d) ms)
    exact ih (q.put i)
theorem pairsK_im {K : PySem.W.Frag} {F H : Hp} (w : Same F H) : ∀ {ds : List D} {xs : List V} {kds : List (Key × D)}, ImA F xs ds → pairsK ds = some kds → ∃ ps kvs, xs = ps.map V.ref ∧ Paired (fun (p : Addr) (kv : Key × V) => SqT K H p [kV kv.1, kv.2]) ps kvs ∧ ImK F kvs kds
  | [], _, _, .nil, h => by cases h; exact ⟨[], [], rfl, .nil, .nil⟩
  | d :: r, _, kds, .cons i t, h => by
    obtain ⟨p, h1, h⟩ := Option.bind_eq_some_iff.mp h
    obtain ⟨q, h2, rfl⟩ := Option.map_eq_some_iff.mp h
    unfold pairK at h1
    split at h1
    · rename_i a c
      obtain ⟨k, h3, rfl⟩ := Option.map_eq_some_iff.mp h1
      obtain ⟨ps, kvs, rfl, e2, e3⟩ := pairsK_im w t h2
      cases i with
      | tup ha ia =>
        cases ia with
        | cons i1 i2 =>
          cases i2 with
          | cons i2 i3 =>
            cases i3
            have ek := keyD_im (b := 0) (H := F) (.inl i1) h3
            subst ek
            exact ⟨_ :: ps, (k, _) :: kvs, rfl, .cons (SqT.of (w _ _ ha)) e2, .cons i2 e3⟩
    · cases h1
def mDp (m : ME) : MK := fun ρ β => (m ρ β).bind fun p => match p.1 with
  | .list ds => (pairsK ds).map fun q => (mergeA [] q, p.2)
  | _ => none
theorem evk_dictP (hm : G.mg "dict" = none) (ha : Ev G pkR X e te m) (hg : Gl X "dict" := by rfl) (he : starEach [e] X.env = (false, eval e X.env) :: starEach [] X.env := by rfl) :
    EvK G X (.Call (.Name "dict" p) [e] [] pos) (tCB (fun xs H Q => ∃ (a : Addr) (ps : List Addr) (kvs : List (Key × V)), xs = [.ref a] ∧ SqL G.K H a (ps.map V.ref) ∧ Paired (fun p kv => SqT G.K H p [kV kv.1, kv.2]) ps kvs ∧ ∀ p, H p = none → Q (.ref p) (upd H p (.dK (mergeK [] kvs)))) (tCons te tNil)) (mDp m) := by
  refine ⟨fun c => by have h := pe_callTy (X := X) (p := p) (pos := pos) (call_dictP c.calm) hg (by rw [c.mg]; exact hm) (by decide +kernel) (pa_cons (ha.pe c) pa_nil he) (by decide) (by decide) he rfl; rw [c.K] at h; exact h, fun b H0 F H ρ β σ d β' Q w rp hm k => ?_⟩
  unfold mDp at hm
  obtain ⟨⟨x, β1⟩, h1, hm⟩ := Option.bind_eq_some_iff.mp hm
  split at hm
  · rename_i ds hx
    have hx : x = .list ds := hx
    subst hx
    obtain ⟨q, h2, hm⟩ := Option.map_eq_some_iff.mp hm
    cases hm
    refine ha.snd b H0 F H ρ β σ _ _ _ w rp h1 fun u F1 H1 w1 s1 i1 => ?_
    obtain ⟨a, xs, rfl, hl, ia⟩ := i1.lst w1.le
    obtain ⟨ps, kvs, rfl, e2, e3⟩ := pairsK_im (K := G.K) w1.le ia h2
    exact ⟨a, ps, kvs, rfl, SqL.of hl, e2, fun p hp => k p _ F1 _ (w1.own (w1.fnone hp) (w1.ne hp)) (s1.trans (Stp.own hp)) (s1.free hp) (w1.fnone hp) (w1.ne hp) upd_same (e3.merge .nil)⟩
  · cases hm
/-! ### dicts in slots -/
def slotK (s : Option Slot) : Option (List (Key × D)) := match s with
  | some (.dk kvs) => some kvs
  | _ => none
def slotT (s : Option Slot) : Option (List (List Key × D)) := match s with
  | some (.dt kvs) => some kvs
  | _ => none
theorem slotK_some {s : Option Slot} {kvs : List (Key × D)} (h : slotK s = some kvs) : s = some (.dk kvs) := by
  unfold slotK at h
  split at h
  · cases h; rfl
  · cases h
theorem slotT_some {s : Option Slot} {kvs : List (List Key × D)} (h : slotT s = some kvs) : s = some (.dt kvs) := by
  unfold slotT at h
  split at h
  · cases h; rfl
  · cases h
def mDg (i : Nat) (m : ME) : ME := fun ρ β => (m ρ β).bind fun p => (slotK ρ[i]?).bind fun kvs => (keyD p.1).bind fun k => (getA kvs k).map fun d => (d, p.2)
theorem ev_dget (i : Nat) {x : Str} (hi : Ev G imR X e te m) (hN : X.N[i]? = some x := by rfl) (hv : Vis X.env.scope x := by first | exact Or.inl rfl | exact Or.inr (Or.inl rfl) | exact Or.inr (Or.inr rfl)) (hd : (x == ("__debug__" : Str)) = false := by decide)
    (hcd : (x == ("__classdict__" : Str)) = false := by decide) (hs : NoSl e := by exact fun _ _ => rfl) : Ev G imR X (.Subscript (.Name x p) e pos) (tDGet (tVar i) te) (mDg i m) := by
  refine ⟨fun c => pe_dget (hu_of c.room) (pe_var hN hv hd hcd) (hi.pe c) hs, fun b H0 F H ρ β σ d β' Q w rp hm k => ?_⟩
  unfold mDg at hm
  obtain ⟨⟨y, β1⟩, h1, hm⟩ := Option.bind_eq_some_iff.mp hm
  obtain ⟨kvs, h2, hm⟩ := Option.bind_eq_some_iff.mp hm
  obtain ⟨kk, h3, hm⟩ := Option.bind_eq_some_iff.mp hm
  obtain ⟨z, h4, hm⟩ := Option.map_eq_some_iff.mp hm
  cases hm
  have e := slotK_some h2
  rcases rp.atS i _ e with q | ⟨u, hu, a, ks, rfl, ow, hH, im⟩
  · cases q
  refine ⟨.ref a, hu, hi.snd b H0 F H ρ β σ y _ _ w rp h1 fun u F1 H1 w1 s1 i1 => ?_⟩
  have hH1 := s1.kp ow.nb hH
  obtain ⟨v, hv, iv⟩ := (im.same (s1.same w.le)).get h4
  have ek := keyD_im (b := b) (H := H1) (.inl i1) h3
  subst ek
  refine ⟨a, v, rfl, ?_, k v F1 H1 w1 s1 iv⟩
  rw [← hv]
  exact DGet.k hH1
def mVals (i : Nat) : ME := fun ρ β => (slotK ρ[i]?).map fun kvs => (.tuple (kvs.map fun kv => kv.2), β)
theorem ev_tupVals (i : Nat) {x : Str} (hm : G.mg "tuple" = none) (hg : Gl X "tuple" := by rfl) (hN : X.N[i]? = some x := by rfl) (hv : Vis X.env.scope x := by first | exact Or.inl rfl | exact Or.inr (Or.inl rfl) | exact Or.inr (Or.inr rfl)) (hd : (x == ("__debug__" : Str)) = false := by decide)
    (hcd : (x == ("__classdict__" : Str)) = false := by decide) (hline : (apos.endLine == cpos.line) = true := by rfl) : Ev G imR X (.Call (.Name "tuple" p) [.Call (.Attribute (.Name x p2) "values" apos) [] [] cpos] [] pos) (_root_.G.tTupVals (tVar i)) (mVals i) := by
  refine ⟨fun c => _root_.G.pe_tupVals c.calm (pe_var hN hv hd hcd) hg (by rw [c.mg]; exact hm) (by decide +kernel) (hline := hline), fun b H0 F H ρ β σ d β' Q w rp hm k => ?_⟩
  unfold mVals at hm
  obtain ⟨kvs, h2, hm⟩ := Option.map_eq_some_iff.mp hm
  cases hm
  have e := slotK_some h2
  rcases rp.atS i _ e with q | ⟨u, hu, a, ks, rfl, ow, hH, im⟩
  · cases q
  exact ⟨.ref a, hu, a, ks, rfl, hH, new_tup w im.vals k⟩
def keysD (d : D) : Option (List Key) := match d with
  | .tuple ds => go ds
  | _ => none
where
  go : List D → Option (List Key)
    | [] => some []
    | d :: r => (keyD d).bind fun k => (go r).map fun ks => k :: ks
theorem keysD_go {F : Hp} : ∀ {ds : List D} {xs : List V} {ks : List Key}, ImA F xs ds → keysD.go ds = some ks → xs = ks.map kV
  | _, _, _, .nil, h => by cases h; rfl
  | _, _, _, .cons i t, h => by
    obtain ⟨k, h1, h⟩ := Option.bind_eq_some_iff.mp h
    obtain ⟨r, h2, rfl⟩ := Option.map_eq_some_iff.mp h
    rw [keyD_im (b := 0) (H := F) (.inl i) h1, keysD_go t h2]
    rfl
theorem keysD_im {F : Hp} {u : V} {d : D} {ks : List Key} (i : Im F u d) (h : keysD d = some ks) : ∃ a, u = .ref a ∧ F a = some (.tup (ks.map kV)) := by
  unfold keysD at h
  split at h
  · cases i with
    | tup ha ia => rw [keysD_go ia h] at ha; exact ⟨_, rfl, ha⟩
  · cases h
def mTin (neg : Bool) (i : Nat) (m : ME) : ME := fun ρ β => (m ρ β).bind fun p => (slotT ρ[i]?).bind fun kvs => (keysD p.1).map fun k => (.bool (if neg then !(getA kvs k).isSome else (getA kvs k).isSome), p.2)
theorem snd_tin {mgl : Str → Option Value} (neg : Bool) (i : Nat) (hi : SndE mgl imR te m) : SndE mgl imR (if neg then tDNotIn te (tVar i) else tDIn te (tVar i)) (mTin neg i m) := fun b H0 F H ρ β σ d β' Q w rp hm k => by
  unfold mTin at hm
  obtain ⟨⟨y, β1⟩, h1, hm⟩ := Option.bind_eq_some_iff.mp hm
  obtain ⟨kvs, h2, hm⟩ := Option.bind_eq_some_iff.mp hm
  obtain ⟨kk, h3, hm⟩ := Option.map_eq_some_iff.mp hm
  cases hm
  have e := slotT_some h2
  rcases rp.atS i _ e with q | ⟨u, hu, a, ks, rfl, ow, hH, im⟩
  · cases q
  have go : ∀ u F1 H1, Wd b β1 F1 H1 → Stp b F H F1 H1 → imR b F1 H1 u y → ∃ o, DGet H1 a u o ∧ o.isSome = (getA kvs kk).isSome := fun u F1 H1 w1 s1 i1 => by
    have hH1 := s1.kp ow.nb hH
    obtain ⟨c, rfl, hc⟩ := keysD_im i1 h3
    exact ⟨_, DGet.t hH1 (w1.le _ _ hc), (im.same (s1.same w.le)).isSome⟩
  cases neg with
  | true =>
    refine hi b H0 F H ρ β σ y _ _ w rp h1 fun u F1 H1 w1 s1 i1 => ?_
    obtain ⟨o, g, eo⟩ := go u F1 H1 w1 s1 i1
    refine ⟨.ref a, hu, a, o, rfl, g, ?_⟩
    rw [eo]
    exact k _ F1 H1 w1 s1 (.bl _)
  | false =>
    refine hi b H0 F H ρ β σ y _ _ w rp h1 fun u F1 H1 w1 s1 i1 => ?_
    obtain ⟨o, g, eo⟩ := go u F1 H1 w1 s1 i1
    refine ⟨.ref a, hu, a, o, rfl, g, ?_⟩
    rw [eo]
    exact k _ F1 H1 w1 s1 (.bl _)
theorem evt_tnotin (i : Nat) {x : Str} (hi : Ev G imR X e te m) (hN : X.N[i]? = some x := by rfl) (hv : Vis X.env.scope x := by first | exact Or.inl rfl | exact Or.inr (Or.inl rfl) | exact Or.inr (Or.inr rfl)) (hd : (x == ("__debug__" : Str)) = false := by decide)
    (hcd : (x == ("__classdict__" : Str)) = false := by decide) (hb : behindInMarks .NotIn (.Name x p) = false := by rfl) : EvT G X (.Compare e [.NotIn] [.Name x p] pos) (tB (tDNotIn te (tVar i))) (mTest (mTin true i m)) :=
  ⟨fun c => pt_cmp (pc_dnotin (hu_of c.room) (hi.pe c) (pe_var hN hv hd hcd)) hb, snd_test (te := tDNotIn te (tVar i)) (snd_tin true i hi.snd)⟩
def mTlen (i : Nat) : ME := fun ρ β => (slotT ρ[i]?).map fun kvs => (.int kvs.length, β)
theorem ev_lenT (i : Nat) {x : Str} (hm : G.mg "len" = none) (hg : Gl X "len" := by rfl) (hN : X.N[i]? = some x := by rfl) (hv : Vis X.env.scope x := by first | exact Or.inl rfl | exact Or.inr (Or.inl rfl) | exact Or.inr (Or.inr rfl)) (hd : (x == ("__debug__" : Str)) = false := by decide)
    (hcd : (x == ("__classdict__" : Str)) = false := by decide) : Ev G imR X (.Call (.Name "len" p) [.Name x p2] [] pos) (tCB rLenT (tCons (tVar i) tNil)) (mTlen i) := by
  refine ⟨fun c => pe_callB call_len_dT hg (by rw [c.mg]; exact hm) (by decide +kernel) (pa_cons (pe_var hN hv hd hcd) pa_nil), fun b H0 F H ρ β σ d β' Q w rp hm k => ?_⟩
  unfold mTlen at hm
  obtain ⟨kvs, h2, hm⟩ := Option.map_eq_some_iff.mp hm
  cases hm
  have e := slotT_some h2
  rcases rp.atS i _ e with q | ⟨u, hu, a, ks, rfl, ow, hH, im⟩
  · cases q
  refine ⟨.ref a, hu, a, ks, rfl, hH, ?_⟩
  rw [im.length]
  exact k _ F H w Stp.refl (.int _)
/-! ### list(zip(a, b)) -/
def mLz (m1 m2 : ME) : ML := mZip m1 m2
theorem paired_im {F H' : Hp} {H : Hp} {b : Addr} {β : Bag} {p : Addr} : ∀ {ts : List Addr} {xs ys : List V} {ds es : List D}, ImA F xs ds → ImA F ys es → Paired (fun (t : Addr) (q : V × V) => H t = none ∧ H' t = some (.tup [q.1, q.2])) ts (xs.zip ys) → ∀ F', Same F F' → (∀ t ∈ ts, ∀ o, H' t = some o → F' t = some o) → ImA F' (ts.map V.ref) (List.zipWith pairD ds es)
  | _, _, _, _, _, .nil, _, h, F', _, _ => by rw [List.zip_nil_left] at h; cases h; exact .nil
  | _, _, _, _, _, .cons _ _, .nil, h, F', _, _ => by rw [List.zip_nil_right] at h; cases h; exact .nil
  | _, _, _, _, _, .cons i1 t1, .cons i2 t2, h, F', sm, hf => by
    rw [List.zip_cons_cons] at h
    cases h with
    | cons r t =>
      exact .cons (.tup (hf _ List.mem_cons_self _ r.2) (.cons (i1.same sm) (.cons (i2.same sm) .nil))) (paired_im (b := b) (β := β) (p := p) t1 t2 t F' sm fun t ht o => hf t (List.mem_cons_of_mem _ ht) o)
/-- all that is new becomes frozen -/
def frzN (F H H' : Hp) : Hp := fun a => match H a with
  | none => H' a
  | some _ => F a
theorem frzN_new {F H H' : Hp} {a : Addr} (h : H a = none) : frzN F H H' a = H' a := by unfold frzN; rw [h]
theorem frzN_old {F H H' : Hp} {a : Addr} {o : HO} (h : H a = some o) : frzN F H H' a = F a := by unfold frzN; rw [h]
theorem Wd.frzN {b : Addr} {β : Bag} {F H H' : Hp} (w : Wd b β F H) (s : Same H H') : Wd b β (frzN F H H') H' := by
  obtain ⟨c, h1, h2, h3⟩ := w.bag
  refine ⟨fun a o e => ?_, c, s _ _ h1, ?_, ?_⟩
  · cases q : H a with
    | none => rw [frzN_new q] at e; exact e
    | some o' =>
      rw [frzN_old q] at e
      exact s _ _ (w.le _ _ e)
  · rw [frzN_old h1]; exact h2
  · rw [frzN_old (w.le _ _ h3)]; exact h3
theorem Stp.frzN {b : Addr} {F H H' : Hp} (s : Same H H') : Stp b F H (frzN F H H') H' :=
  ⟨fun a o h => ⟨o, s _ _ h, fun _ => rfl⟩, fun a o h => frzN_old h⟩
theorem same_frzN {F H H' : Hp} (w : Same F H) : Same F (frzN F H H') := fun a o h => by rw [frzN_old (w _ _ h)]; exact h
def mLzV (m1 m2 : ME) : ME := fun ρ β => (mZip m1 m2 ρ β).map fun p => (.list p.1, p.2)
theorem ev_listZip (hm : G.mg "list" = none) (hm2 : G.mg "zip" = none) (ha : Ev G pkR X e1 t1 m1) (hb : Ev G pkR X e2 t2 m2) (hg : Gl X "list" := by rfl) (hg2 : Gl X "zip" := by rfl)
    (hs2 : starEach [e1, e2] X.env = (false, eval e1 X.env) :: starEach [e2] X.env := by rfl) (hs3 : starEach [e2] X.env = (false, eval e2 X.env) :: starEach [] X.env := by rfl) (hpl : (backTo cpos (starEach [e2] X.env)).any (·.1) = false := by rfl)
    (hs : starEach [.Call (.Name "zip" p2) [e1, e2] [] cpos] X.env = (false, eval (.Call (.Name "zip" p2) [e1, e2] [] cpos) X.env) :: starEach [] X.env := by rfl) :
    Ev G imR X (.Call (.Name "list" p) [.Call (.Name "zip" p2) [e1, e2] [] cpos] [] pos) (tCB (_root_.G.rListZip G.K) (tCons t1 (tCons t2 tNil))) (mLzV m1 m2) := by
  refine ⟨fun c => by have h := _root_.G.pe_listZip (X := X) (p := p) (p2 := p2) (cpos := cpos) (pos := pos) c.calm (pa_cons (ha.pe c) (pa_cons (hb.pe c) pa_nil hs3) hs2) hg (by rw [c.mg]; exact hm) hg2 (by rw [c.mg]; exact hm2) (by decide +kernel) hs2 hpl hs; rw [c.K] at h; exact h, fun b H0 F H ρ β σ d β' Q w rp hm k => ?_⟩
  unfold mLzV mZip at hm
  obtain ⟨⟨z, β3⟩, hn, hm'⟩ := Option.map_eq_some_iff.mp hm
  cases hm'
  obtain ⟨⟨x, β1⟩, q1, hn⟩ := Option.bind_eq_some_iff.mp hn
  obtain ⟨⟨y, β2⟩, q2, hn⟩ := Option.bind_eq_some_iff.mp hn
  obtain ⟨d1, q3, hn⟩ := Option.bind_eq_some_iff.mp hn
  obtain ⟨d2, q4, hn⟩ := Option.map_eq_some_iff.mp hn
  cases hn
  refine ha.snd b H0 F H ρ β σ x _ _ w rp q1 fun u1 F1 H1 w1 s1 i1 => ?_
  refine hb.snd b H0 F1 H1 ρ β1 σ y _ _ w1 (rp.step s1 w.le) q2 fun u2 F2 H2 w2 s2 i2 => ?_
  obtain ⟨a, xs, rfl, hqa, ia⟩ := (i1.step s2 w1.le).seq (K := G.K) w2.le q3
  obtain ⟨c, ys, rfl, hqc, ic⟩ := i2.seq (K := G.K) w2.le q4
  have sq : ∀ {a : Addr} {xs : List V}, (SqL G.K H2 a xs ∨ SqT G.K H2 a xs) → ∃ t, _root_.G.Sq t G.K H2 a xs := fun h => h.elim (fun h => ⟨false, h⟩) fun h => ⟨true, h⟩
  obtain ⟨ta, sa⟩ := sq hqa
  obtain ⟨tb, sb⟩ := sq hqc
  refine ⟨ta, tb, a, c, xs, ys, rfl, sa, sb, fun H' p ts sm hp hl pr => ?_⟩
  have hnew : ∀ {ts : List Addr} {qs : List (V × V)}, Paired (fun (t : Addr) (q : V × V) => H2 t = none ∧ H' t = some (.tup [q.1, q.2])) ts qs → ∀ t ∈ ts, H2 t = none := by
    intro ts qs h
    induction h with
    | nil => intro t ht; cases ht
    | cons r _ ih =>
      intro t ht
      rcases List.mem_cons.mp ht with e | ht
      · rw [e]; exact r.1
      · exact ih t ht
  refine k _ _ H' (w2.frzN sm) ((s1.trans s2).trans (Stp.frzN sm)) (.lst (xs := ts.map V.ref) (by rw [frzN_new hp]; exact hl) ?_)
  exact paired_im (b := b) (β := β) (p := p) ia ic pr _ (same_frzN w2.le) fun t ht o ho => by rw [frzN_new (hnew pr t ht)]; exact ho
/-! ### index -/
def idxB (d : D) : List D → Option Nat
  | [] => none
  | x :: r => if PyData.eqv x d = true then some 0 else (idxB d r).map (· + 1)
theorem idxB_some {d : D} : ∀ {xs : List D} {j : Nat}, idxB d xs = some j → (∃ z, xs[j]? = some z ∧ PyData.eqv z d = true) ∧ ∀ m z, m < j → xs[m]? = some z → PyData.eqv z d = false
  | [], _, h => by cases h
  | x :: r, j, h => by
    unfold idxB at h
    split at h
    · cases h
      exact ⟨⟨x, rfl, by assumption⟩, fun m z hm => absurd hm (Nat.not_lt_zero _)⟩
    · rename_i hx
      obtain ⟨i, h1, rfl⟩ := Option.map_eq_some_iff.mp h
      obtain ⟨⟨z, h2, h3⟩, h4⟩ := idxB_some h1
      refine ⟨⟨z, by simpa using h2, h3⟩, fun m z hm hz => ?_⟩
      cases m with
      | zero =>
        simp at hz
        subst hz
        simpa using hx
      | succ m => exact h4 m z (by omega) (by simpa using hz)
def strsD : List D → Option (List Str)
  | [] => some []
  | .str x :: r => (strsD r).map (x :: ·)
  | _ :: _ => none
theorem strsD_some : ∀ {ds : List D} {ns : List Str}, strsD ds = some ns → ds = ns.map .str
  | [], _, h => by cases h; rfl
  | d :: r, ns, h => by
    cases d <;> first
      | (obtain ⟨ms, h1, rfl⟩ := Option.map_eq_some_iff.mp h
         rw [List.map_cons, strsD_some h1])
      | cases h
theorem ImA.of_strs {H : Hp} : ∀ {ns : List Str} {vs : List V}, ImA H vs (ns.map PyData.str) → vs = ns.map V.str
  | [], _, .nil => rfl
  | _ :: r, _, .cons h t => by
    cases h
    rw [ImA.of_strs (ns := r) t]
    rfl
def idxLD (d e : D) : Option D := match d with
  | .list xs => if (flatD e && xs.all flatD) = true then (idxB e xs).map fun j => .int (j : Nat) else none
  | _ => none
def idxTD (d e : D) : Option D := match d, e with
  | .tuple xs, .str z => (strsD xs).bind fun _ => (idxB e xs).map fun j => .int (j : Nat)
  | _, _ => none
def mIx2 (f : D → D → Option D) (m1 m2 : ME) : ME := mOp f m1 m2
theorem ev_indexL (ha : Ev G pkR X e1 t1 m1) (hb : Ev G pkR X e2 t2 m2) (hbase : attributeBase e1 "index" X.env (eval e1 X.env) = eval e1 X.env := by rfl)
    (hfew : ((backTo cpos (starEach [e2] X.env)).all (fun x => !x.1) && (backToKw cpos (keywordEach [] X.env)).all (fun x => x.1.isSome)
      && decide (([e2] : List Expr).length + ([] : List Keyword).length + (if ([] : List Keyword).isEmpty then 0 else 1) < 30)) = true := by rfl)
    (hline : (apos.endLine == cpos.line) = true := by rfl) (hs : starEach [e2] X.env = (false, eval e2 X.env) :: starEach [] X.env := by rfl) :
    Ev G imR X (.Call (.Attribute e1 "index" apos) [e2] [] cpos) (tBM G.K "list" (rIndex G.K) t1 (tCons t2 tNil)) (mOp idxLD m1 m2) := by
  refine ⟨fun c => by have h := pe_bm (X := X) PySem.F.plainAttrs_list PySem.F.slot_list_index PySem.F.type_list_index mt_index (ha.pe c) (pa_cons (hb.pe c) pa_nil hs) hbase hfew hline hs; rw [c.K] at h; exact h, fun b H0 F H ρ β σ d β' Q w rp hm k => ?_⟩
  unfold mOp at hm
  obtain ⟨⟨x, β1⟩, h1, hm⟩ := Option.bind_eq_some_iff.mp hm
  obtain ⟨⟨y, β2⟩, h2, hm⟩ := Option.bind_eq_some_iff.mp hm
  obtain ⟨z, h3, hm⟩ := Option.map_eq_some_iff.mp hm
  cases hm
  unfold idxLD at h3
  split at h3
  · rename_i xs hx
    have hx : x = .list xs := hx
    subst hx
    split at h3
    · rename_i hf
      obtain ⟨f1, f2⟩ := Bool.and_eq_true_iff.mp hf
      obtain ⟨j, h4, rfl⟩ := Option.map_eq_some_iff.mp h3
      obtain ⟨⟨z, g1, g2⟩, g3⟩ := idxB_some h4
      refine ha.snd b H0 F H ρ β σ _ _ _ w rp h1 fun u1 F1 H1 w1 s1 i1 => ?_
      obtain ⟨a, us, rfl, hl, ia⟩ := i1.lst w1.le
      refine ⟨.inl ⟨rfl, _, SqL.of hl⟩, ?_⟩
      refine hb.snd b H0 F1 H1 ρ β1 σ y _ _ w1 (rp.step s1 w.le) h2 fun u2 F2 H2 w2 s2 i2 => ?_
      obtain ⟨a', us', ea, hl', ia'⟩ := (i1.step s2 w1.le).lst w2.le
      cases ea
      have iy := im_flat i2 f1
      obtain ⟨v, hv, iv⟩ := ia'.getD g1
      have fz : flatD z = true := List.all_eq_true.mp f2 z (List.mem_of_getElem? g1)
      refine ⟨a, us', u2, j, v, rfl, rfl, SqL.of hl', (flat_of iy).trans f1, (flatA_of ia').trans f2, hv, (eqV_of iv iy fz f1).trans g2, fun m z' hm hz' => ?_, k _ F2 H2 w2 (s1.trans s2) (.int _)⟩
      obtain ⟨z2, e1', e2'⟩ := ia'.get hz'
      exact (eqV_of e2' iy (List.all_eq_true.mp f2 z2 (List.mem_of_getElem? e1')) f1).trans (g3 m z2 hm e1')
    · cases h3
  · cases h3
theorem str_eqv {a b : Str} : PyData.eqv (.str a) (.str b) = decide (a = b) := by
  unfold PyData.eqv
  by_cases e : a = b
  · rw [decide_eq_true e, e]; simp
  · rw [decide_eq_false e]; exact beq_eq_false_iff_ne.mpr e
/-- a tuple known with its object -/
def tfR : VR := fun b F H u d => ∃ a o xs ds, u = .ref a ∧ H a = some (.frz o (.tup xs)) ∧ o.dict = none ∧ a ≠ b ∧ ImA F xs ds ∧ d = .tuple ds
theorem ev_indexT (ha : Ev G tfR X e1 t1 m1) (hb : Ev G pkR X e2 t2 m2) (hbase : attributeBase e1 "index" X.env (eval e1 X.env) = eval e1 X.env := by rfl)
    (hfew : ((backTo cpos (starEach [e2] X.env)).all (fun x => !x.1) && (backToKw cpos (keywordEach [] X.env)).all (fun x => x.1.isSome)
      && decide (([e2] : List Expr).length + ([] : List Keyword).length + (if ([] : List Keyword).isEmpty then 0 else 1) < 30)) = true := by rfl)
    (hline : (apos.endLine == cpos.line) = true := by rfl) (hs : starEach [e2] X.env = (false, eval e2 X.env) :: starEach [] X.env := by rfl) :
    Ev G imR X (.Call (.Attribute e1 "index" apos) [e2] [] cpos) (_root_.G.tBMF (fun x xs H Q => ∃ p, ∃ ys : List Str, ∃ z j, x = .ref p ∧ xs = [.str z] ∧ SqT G.K H p (ys.map V.str) ∧ ys[j]? = some z ∧ (∀ m, m < j → ys[m]? ≠ some z) ∧ Q (.int (j : Nat)) H) t1 (tCons t2 tNil)) (mOp idxTD m1 m2) := by
  refine ⟨fun c => by have h := _root_.G.pe_bmF (X := X) PySem.F.plainAttrs_tuple PySem.F.slot_tuple_index PySem.F.type_tuple_index mt_tup_index (ha.pe c) (pa_cons (hb.pe c) pa_nil hs) hbase hfew hline hs; rw [c.K] at h; exact h, fun b H0 F H ρ β σ d β' Q w rp hm k => ?_⟩
  unfold mOp at hm
  obtain ⟨⟨x, β1⟩, h1, hm⟩ := Option.bind_eq_some_iff.mp hm
  obtain ⟨⟨y, β2⟩, h2, hm⟩ := Option.bind_eq_some_iff.mp hm
  obtain ⟨z, h3, hm⟩ := Option.map_eq_some_iff.mp hm
  cases hm
  unfold idxTD at h3
  split at h3
  · rename_i xs zz hx hy
    have hx : x = .tuple xs := hx
    have hy : y = .str zz := hy
    subst hx hy
    obtain ⟨ys, h5, h3⟩ := Option.bind_eq_some_iff.mp h3
    obtain ⟨j, h4, rfl⟩ := Option.map_eq_some_iff.mp h3
    have ex := strsD_some h5
    subst ex
    obtain ⟨⟨z, g1, g2⟩, g3⟩ := idxB_some h4
    refine ha.snd b H0 F H ρ β σ _ _ _ w rp h1 fun u1 F1 H1 w1 s1 i1 => ?_
    obtain ⟨a, o, us, ds', rfl, hl, hd, hab, ia, ed⟩ := i1
    cases ed
    refine ⟨⟨a, o, us, rfl, hl, hd⟩, ?_⟩
    refine hb.snd b H0 F1 H1 ρ β1 σ _ _ _ w1 (rp.step s1 w.le) h2 fun u2 F2 H2 w2 s2 i2 => ?_
    have eu := i2.str
    subst eu
    have hl2 := s2.kp hab hl
    rw [ia.of_strs] at hl2
    rw [List.getElem?_map] at g1
    obtain ⟨zs, g4, rfl⟩ := Option.map_eq_some_iff.mp g1
    rw [str_eqv] at g2
    have ez := of_decide_eq_true g2
    subst ez
    refine ⟨a, ys, zs, j, rfl, rfl, (.inl (.inr ⟨o, hl2⟩)), g4, fun m hm hz => ?_, k _ F2 H2 w2 (s1.trans s2) (.int _)⟩
    have := g3 m (.str zs) hm (by rw [List.getElem?_map, hz]; rfl)
    rw [str_eqv, decide_eq_true rfl] at this
    cases this
  · cases h3
theorem ev_tupKF {mk : MK} (hm : G.mg "tuple" = none) (ha : EvK G X e te mk) (hg : Gl X "tuple" := by rfl) (he : starEach [e] X.env = (false, eval e X.env) :: starEach [] X.env := by rfl) : Ev G tfR X (.Call (.Name "tuple" p) [e] [] pos) (tCB _root_.G.rTupDF (tCons te tNil)) (mTk mk) := by
  refine ⟨fun c => pe_callTy (_root_.G.call_tupDF c.calm) hg (by rw [c.mg]; exact hm) (by decide +kernel) (pa_cons (ha.pe c) pa_nil he) (by decide) (by decide) he rfl, fun b H0 F H ρ β σ d β' Q w rp hm k => ?_⟩
  unfold mTk at hm
  obtain ⟨⟨x, β1⟩, h1, hm⟩ := Option.map_eq_some_iff.mp hm
  cases hm
  refine ha.snd b H0 F H ρ β σ x _ _ w rp h1 fun a ks F1 H1 w1 s1 ha hf hb hH im => ?_
  refine ⟨a, ks, rfl, hH, fun q o hq ho => ?_⟩
  exact k _ F1 _ (w1.own (w1.fnone hq) (w1.ne hq)) (s1.trans (Stp.own hq)) ⟨q, o, _, _, rfl, upd_same, ho, w1.ne hq, im.keys, rfl⟩
/-! ### calls of defs -/
abbrev Fn := List Slot → Bag → Option (D × Bag)
def spM (mg : Str → Option Value) (R : VR) (n : Nat) (f : Fn) : Sp := fun vs H Q _ => ∃ (b : Addr) (F : Hp) (β : Bag) (ss : List Slot) (d : D) (β' : Bag), vs.length = n ∧ Wd b β F H ∧ ArgsR mg b F ss vs ∧ f ss β = some (d, β') ∧ ∀ u F' H', Wd b β' F' H' → Stp b F H F' H' → R b F' H' u d → Q u H'
abbrev HasR (G : Gx) (R : VR) (k : Nat) (x : Str) (ps : List Str) (f : Fn) : Prop := _root_.G.Has G.P G.w G.K G.mg G.base k x ps (spM G.mg R ps.length f)
abbrev HasM (G : Gx) (k : Nat) (x : Str) (ps : List Str) (f : Fn) : Prop := HasR G imR k x ps f
def mAn : MA := fun _ β => some ([], β)
def mAv (m : ME) (ma : MA) : MA := fun ρ β => (m ρ β).bind fun p => (ma ρ p.2).map fun q => (.v p.1 :: q.1, q.2)
def mAb (i : Nat) (ma : MA) : MA := fun ρ β => match ρ[i]? with
  | some .bag => (ma ρ β).map fun q => (.bag :: q.1, q.2)
  | _ => none
def mAf (x : Str) (ma : MA) : MA := fun ρ β => (ma ρ β).map fun q => (.fn x :: q.1, q.2)
def mAs (i : Nat) (x : Str) (ma : MA) : MA := fun ρ β => match ρ[i]? with
  | some (.fn y) => if y = x then (ma ρ β).map fun q => (.fn x :: q.1, q.2) else none
  | _ => none
theorem ArgsR.same {mg : Str → Option Value} {b : Addr} {F F' : Hp} (m : Same F F') : ∀ {ss : List Slot} {us : List V}, ArgsR mg b F ss us → ArgsR mg b F' ss us
  | _, _, .nil => .nil
  | _, _, .v i t => .v (i.same m) (ArgsR.same m t)
  | _, _, .bag t => .bag (ArgsR.same m t)
  | _, _, .fn h t => .fn h (ArgsR.same m t)
theorem eva_nil : EvA G X [] tNil mAn := ⟨fun _ => pa_nil, fun b H0 F H ρ β σ d β' Q w rp hm k => by cases hm; exact k [] F H w Stp.refl .nil⟩
theorem eva_v (ha : Ev G imR X e te m) (hr : EvA G X es ta ma) (hs : starEach (e :: es) X.env = (false, eval e X.env) :: starEach es X.env := by rfl) : EvA G X (e :: es) (tCons te ta) (mAv m ma) := by
  refine ⟨fun c => pa_cons (ha.pe c) (hr.pe c) hs, fun b H0 F H ρ β σ d β' Q w rp hm k => ?_⟩
  unfold mAv at hm
  obtain ⟨⟨x, β1⟩, h1, hm⟩ := Option.bind_eq_some_iff.mp hm
  obtain ⟨⟨y, β2⟩, h2, hm⟩ := Option.map_eq_some_iff.mp hm
  cases hm
  refine ha.snd b H0 F H ρ β σ x _ _ w rp h1 fun u F1 H1 w1 s1 i => ?_
  refine hr.snd b H0 F1 H1 ρ β1 σ y _ _ w1 (rp.step s1 w.le) h2 fun us F2 H2 w2 s2 is => ?_
  exact k _ F2 H2 w2 (s1.trans s2) (.v (Im.same (s2.same w1.le) i) is)
theorem eva_bag (i : Nat) {x : Str} (hr : EvA G X es ta ma) (hN : X.N[i]? = some x := by rfl) (hv : Vis X.env.scope x := by first | exact Or.inl rfl | exact Or.inr (Or.inl rfl) | exact Or.inr (Or.inr rfl)) (hd : (x == ("__debug__" : Str)) = false := by decide)
    (hcd : (x == ("__classdict__" : Str)) = false := by decide) (hs : starEach (.Name x p :: es) X.env = (false, eval (.Name x p) X.env) :: starEach es X.env := by rfl) : EvA G X (.Name x p :: es) (tCons (tVar i) ta) (mAb i ma) := by
  refine ⟨fun c => pa_cons (pe_var hN hv hd hcd) (hr.pe c) hs, fun b H0 F H ρ β σ d β' Q w rp hm k => ?_⟩
  unfold mAb at hm
  split at hm
  · rename_i e
    obtain ⟨⟨y, β2⟩, h2, hm⟩ := Option.map_eq_some_iff.mp hm
    cases hm
    rcases rp.atS i _ e with q | ⟨u, hu, q⟩
    · cases q
    have q : u = .ref b := q
    subst q
    exact ⟨.ref b, hu, hr.snd b H0 F H ρ β σ y _ _ w rp h2 fun us F2 H2 w2 s2 is => k _ F2 H2 w2 s2 (.bag is)⟩
  · cases hm
theorem eva_fn {x : Str} {n : Nat} {ps : List Str} {f : Fn} (c0 : HasM G n x ps f) (hr : EvA G X es ta ma) (hg : Gl X x := by rfl) (hd : (x == ("__debug__" : Str)) = false := by decide) (hs : starEach (.Name x p :: es) X.env = (false, eval (.Name x p) X.env) :: starEach es X.env := by rfl) :
    EvA G X (.Name x p :: es) (tCons (tC (.ref (Classical.choose c0.ex))) ta) (mAf x ma) := by
  have h0 := Classical.choose_spec c0.ex
  obtain ⟨fd, hm0, _⟩ := h0
  refine ⟨fun c => pa_cons (pe_glob hg (by rw [c.mg]; exact hm0) rfl hd) (hr.pe c) hs, fun b H0 F H ρ β σ d β' Q w rp hm k => ?_⟩
  unfold mAf at hm
  obtain ⟨⟨y, β2⟩, h2, hm⟩ := Option.map_eq_some_iff.mp hm
  cases hm
  exact hr.snd b H0 F H ρ β σ y _ _ w rp h2 fun us F2 H2 w2 s2 is => k _ F2 H2 w2 s2 (.fn hm0 is)
def mCall (f : Fn) (ma : MA) : ME := fun ρ β => (ma ρ β).bind fun p => f p.1 p.2
theorem ArgsR.length {mg : Str → Option Value} {b : Addr} {F : Hp} : ∀ {ss : List Slot} {us : List V}, ArgsR mg b F ss us → us.length = ss.length
  | _, _, .nil => rfl
  | _, _, .v _ t => by rw [List.length_cons, List.length_cons, ArgsR.length t]
  | _, _, .bag t => by rw [List.length_cons, List.length_cons, ArgsR.length t]
  | _, _, .fn _ t => by rw [List.length_cons, List.length_cons, ArgsR.length t]
theorem ev_callR {R : VR} {x : Str} {k0 : Nat} {ps : List Str} {f : Fn} (c0 : HasR G R k0 x ps f) (hn : ∀ ss β d β', f ss β = some (d, β') → ss.length = ps.length) (ha : EvA G X (e :: es) ta ma) (hk : k0 ≤ G.lv := by omega) (hg : Gl X x := by rfl) (hdb : (x == ("__debug__" : Str)) = false := by decide)
    (he : starEach (e :: es) X.env = (false, eval e X.env) :: starEach es X.env := by rfl) (hpl : (backTo pos (starEach es X.env)).any (·.1) = false := by rfl) :
    Ev G R X (.Call (.Name x p) (e :: es) [] pos) (_root_.G.tFn (spM G.mg R ps.length f) ta) (mCall f ma) := by
  refine ⟨fun c => ?_, fun b H0 F H ρ β σ d β' Q w rp hm k => ?_⟩
  · obtain ⟨P, w, K, mg, base, lv⟩ := G
    obtain ⟨c1, c2, c3, c4, c5, c6, c7⟩ := c
    simp only at c1 c2 c3 c4 c5 c7
    subst c1 c2 c3 c4 c5
    exact _root_.G.pe_fn c0 c7 hg (ha.pe ⟨rfl, rfl, rfl, rfl, rfl, c6, c7⟩) hk hdb he hpl
  · unfold mCall at hm
    obtain ⟨⟨y, β1⟩, h1, hm⟩ := Option.bind_eq_some_iff.mp hm
    refine ha.snd b H0 F H ρ β σ y _ _ w rp h1 fun us F1 H1 w1 s1 as => ?_
    exact ⟨b, F1, β1, y, d, β', by rw [as.length]; exact hn _ _ _ _ hm, w1, as, hm, fun u F' H' w' s' i => k u F' H' w' (s1.trans s') i⟩
theorem ev_call {x : Str} {k0 : Nat} {ps : List Str} {f : Fn} (c0 : HasM G k0 x ps f) (hn : ∀ ss β d β', f ss β = some (d, β') → ss.length = ps.length) (ha : EvA G X (e :: es) ta ma) (hk : k0 ≤ G.lv := by omega) (hg : Gl X x := by rfl) (hdb : (x == ("__debug__" : Str)) = false := by decide)
    (he : starEach (e :: es) X.env = (false, eval e X.env) :: starEach es X.env := by rfl) (hpl : (backTo pos (starEach es X.env)).any (·.1) = false := by rfl) :
    Ev G imR X (.Call (.Name x p) (e :: es) [] pos) (_root_.G.tFn (spM G.mg imR ps.length f) ta) (mCall f ma) := ev_callR c0 hn ha hk hg hdb he hpl
/-- a call of a slot that holds the def x -/
def mCallS (i : Nat) (x : Str) (f : Fn) (ma : MA) : ME := fun ρ β => match ρ[i]? with
  | some (.fn y) => if y = x then mCall f ma ρ β else none
  | _ => none
theorem ev_callS (i : Nat) {x y : Str} {k0 : Nat} {ps : List Str} {f : Fn} (c0 : HasM G k0 x ps f) (hn : ∀ ss β d β', f ss β = some (d, β') → ss.length = ps.length) (ha : EvA G X (e :: es) ta ma) (hk : k0 ≤ G.lv := by omega) (hN : X.N[i]? = some y := by rfl) (hv : Vis X.env.scope y := by first | exact Or.inl rfl | exact Or.inr (Or.inl rfl) | exact Or.inr (Or.inr rfl)) (hdb : (y == ("__debug__" : Str)) = false := by decide) (hcd : (y == ("__classdict__" : Str)) = false := by decide)
    (he : starEach (e :: es) X.env = (false, eval e X.env) :: starEach es X.env := by rfl) (hpl : (backTo pos (starEach es X.env)).any (·.1) = false := by rfl) :
    Ev G imR X (.Call (.Name y p) (e :: es) [] pos) (tCallL i (Classical.choose c0.ex) (spM G.mg imR ps.length f) [] E0 ta) (mCallS i x f ma) := by
  obtain ⟨fd, hm0, kp, bd, F0⟩ := Classical.choose_spec c0.ex
  refine ⟨fun c => ?_, fun b H0 F H ρ β σ d β' Q w rp hm k => ?_⟩
  · obtain ⟨P, w, K, mg, base, lv⟩ := G
    obtain ⟨c1, c2, c3, c4, c5, c6, c7⟩ := c
    simp only at c1 c2 c3 c4 c5 c7
    subst c1 c2 c3 c4 c5
    exact pe_callL F0 (c7.mono hk) hN hv kp bd .nil pass0 (ha.pe ⟨rfl, rfl, rfl, rfl, rfl, c6, c7⟩) hdb hcd he hpl
  · unfold mCallS at hm
    split at hm
    · rename_i z e
      split at hm
      · rename_i ez
        subst ez
        unfold mCall at hm
        obtain ⟨⟨y, β1⟩, h1, hm⟩ := Option.bind_eq_some_iff.mp hm
        rcases rp.atS i _ e with q | ⟨u, hu, f', q1, q2⟩
        · cases q
        rw [hm0] at q1
        cases q1
        subst q2
        refine ⟨hu, ?_⟩
        refine ha.snd b H0 F H ρ β σ y _ _ w rp h1 fun us F1 H1 w1 s1 as => ?_
        refine ⟨b, F1, β1, y, d, β', by rw [List.append_nil, as.length]; exact hn _ _ _ _ hm, w1, by rw [List.append_nil]; exact as, hm, fun u F' H' w' s' i => k u F' H' w' (s1.trans s') i⟩
      · cases hm
    · cases hm
end
end M
/-! M7: statements and defs. -/
namespace M
open PySem PySem.Spec PyProof.Rows L2
inductive Out
  | nx
  | rt (d : D)
  | bk
  | ct
abbrev MS := List Slot → Bag → Option (Out × List Slot × Bag)
def PostO (D : Ends) : Out → Hp → L2.St → Hp → Prop
  | .nx, _, σ, H => D.nx σ H
  | .bk, _, σ, H => D.bk σ H
  | .ct, _, σ, H => D.ct σ H
  | .rt d, F, _, H => ∀ u, Im F u d → D.rt u H
def SndS (mg : Str → Option Value) (ts : TS) (m : MS) : Prop := ∀ (b : Addr) (F0 H0 F H : Hp) (ρ : List Slot) (β : Bag) (σ : L2.St) (o : Out) (ρ' : List Slot) (β' : Bag) (D : Ends), Wd b β F H → Same F0 H0 → Stp b F0 H0 F H → Rep mg b H0 F H ρ σ → m ρ β = some (o, ρ', β') →
  (∀ F' H' σ', Wd b β' F' H' → Stp b F0 H0 F' H' → Same F F' → Rep mg b H0 F' H' ρ' σ' → PostO D o F' σ' H') → ts D σ H
structure EvS (G : Gx) (X : Cx) (st : Stmt) (ts : TS) (m : MS) : Prop where
  pe : Cond G X → PS X st ts
  snd : SndS G.mg ts m
structure EvB (G : Gx) (X : Cx) (st : List Stmt) (ts : TS) (m : MS) : Prop where
  pe : Cond G X → PSs X st ts
  snd : SndS G.mg ts m
/-! ### what is stored: values, new lists, new dicts -/
abbrev MX := List Slot → Bag → Option (Slot × Bag)
def SndX (mg : Str → Option Value) (te : TE) (m : MX) : Prop := ∀ (b : Addr) (H0 F H : Hp) (ρ : List Slot) (β : Bag) (σ : L2.St) (s : Slot) (β' : Bag) (Q : VK), Wd b β F H → Rep mg b H0 F H ρ σ → m ρ β = some (s, β') →
  (∀ u F' H', Wd b β' F' H' → Stp b F H F' H' → SlotR mg b H F' H' s u → Q u H') → te σ H Q
structure EvX (G : Gx) (X : Cx) (e : Expr) (te : TE) (m : MX) : Prop where
  pe : Cond G X → PE X e te
  snd : SndX G.mg te m
def mXv (m : ME) : MX := fun ρ β => (m ρ β).map fun p => (.v p.1, p.2)
def mXn (m : ML) : MX := fun ρ β => (m ρ β).map fun p => (.own p.1, p.2)
def mXk (m : MK) : MX := fun ρ β => (m ρ β).map fun p => (.dk p.1, p.2)
section
variable {G : Gx} {X : Cx} {e e1 e2 e3 tg it elt c : Expr} {es ifs : List Expr} {te t1 t2 t3 : TE} {ta : TA} {tt : TT} {ml mi : ML} {mk : MK} {m m1 m2 m3 : ME} {x1 x2 x3 : MX} {mt : MT} {pos p p2 apos cpos px py pz pt pt2 : Pos} {g : TG} {mg : MG} {is : List Nat} {wi : TI} {scope : Scope} {own : List (Str × Nat)} {st : Stmt} {rest body a1 a2 : List Stmt} {ts tu : TS} {ms mu : MS}
theorem SndE.x {mgl : Str → Option Value} (h : SndE mgl imR te m) : SndX mgl te (mXv m) := fun b H0 F H ρ β σ s β' Q w r hm k => by
  unfold mXv at hm
  obtain ⟨⟨x, β1⟩, h1, hm⟩ := Option.map_eq_some_iff.mp hm
  cases hm
  exact h b H0 F H ρ β σ x _ _ w r h1 fun u F' H' w' s' i => k u F' H' w' s' i
theorem SndN.x {mgl : Str → Option Value} (h : SndN mgl te ml) : SndX mgl te (mXn ml) := fun b H0 F H ρ β σ s β' Q w r hm k => by
  unfold mXn at hm
  obtain ⟨⟨x, β1⟩, h1, hm⟩ := Option.map_eq_some_iff.mp hm
  cases hm
  exact h b H0 F H ρ β σ x _ _ w r h1 fun a xs F' H' w' s' hn hf hb hH im => k (.ref a) F' H' w' s' ⟨a, xs, rfl, ⟨hb, hf, hn⟩, hH, im⟩
theorem SndK.x {mgl : Str → Option Value} (h : SndK mgl te mk) : SndX mgl te (mXk mk) := fun b H0 F H ρ β σ s β' Q w r hm k => by
  unfold mXk at hm
  obtain ⟨⟨x, β1⟩, h1, hm⟩ := Option.map_eq_some_iff.mp hm
  cases hm
  exact h b H0 F H ρ β σ x _ _ w r h1 fun a xs F' H' w' s' hn hf hb hH im => k (.ref a) F' H' w' s' ⟨a, xs, rfl, ⟨hb, hf, hn⟩, hH, im⟩
theorem Ev.x (h : Ev G imR X e te m) : EvX G X e te (mXv m) := ⟨h.pe, h.snd.x⟩
theorem EvN.x (h : EvN G X e te ml) : EvX G X e te (mXn ml) := ⟨h.pe, h.snd.x⟩
theorem EvK.x (h : EvK G X e te mk) : EvX G X e te (mXk mk) := ⟨h.pe, h.snd.x⟩
/-- {t: True} -/
def mXt (mk mv : ME) : MX := fun ρ β => (mk ρ β).bind fun p => (mv ρ p.2).bind fun q => (keysD p.1).map fun k => (.dt [(k, q.1)], q.2)
theorem evx_dt (hk : Ev G imR X e1 t1 m1) (hv : Ev G imR X e2 t2 m2) : EvX G X (.Dict [some e1] [e2] pos) (_root_.G.tDisp1T t1 t2) (mXt m1 m2) := by
  refine ⟨fun c => _root_.G.pe_disp1T (hu_of c.room) (hk.pe c) (hv.pe c), fun b H0 F H ρ β σ s β' Q w rp hm k => ?_⟩
  unfold mXt at hm
  obtain ⟨⟨x, β1⟩, h1, hm⟩ := Option.bind_eq_some_iff.mp hm
  obtain ⟨⟨y, β2⟩, h2, hm⟩ := Option.bind_eq_some_iff.mp hm
  obtain ⟨kk, h3, hm⟩ := Option.map_eq_some_iff.mp hm
  cases hm
  intro lo hlo
  have hb := w.ne hlo
  have hf := w.fnone hlo
  have w0 : Wd b β F (upd H lo (.dT [])) := w.own hf hb
  have s0 : Stp b F H F (upd H lo (.dT [])) := Stp.own hlo
  have r0 := (rp.step s0 w.le)
  refine hk.snd b H0 F _ ρ β σ x _ _ w0 r0 h1 fun u F1 H1 w1 s1 i1 => ?_
  refine hv.snd b H0 F1 H1 ρ β1 σ y _ _ w1 (r0.step s1 w0.le) h2 fun v F2 H2 w2 s2 i2 => ?_
  have hl1 := s1.kp hb upd_same
  have hl2 := s2.kp hb hl1
  have f2 : F2 lo = none := by rw [s2.fz lo _ hl1, s1.fz lo _ upd_same]; exact hf
  obtain ⟨a, rfl, ha⟩ := keysD_im (Im.same (s2.same w1.le) i1) h3
  refine ⟨hl2, a, kk, rfl, w2.le _ _ ha, ?_⟩
  exact k _ F2 _ (w2.own f2 hb) (((s0.trans s1).trans s2).mut hlo) ⟨lo, _, rfl, ⟨hb, f2, hlo⟩, upd_same, .cons i2 .nil⟩
/-- a slot set to what was just made -/
theorem Rep.setX {mgl : Str → Option Value} {b : Addr} {H0 F H F' H' : Hp} {ρ : List Slot} {σ : L2.St} {s : Slot} {u : V} (i : Nat) (r : Rep mgl b H0 F H ρ σ) (h0 : ∀ a, H a = none → H0 a = none) (t : Stp b F H F' H') (w : Same F H) (q : SlotR mgl b H F' H' s u) : Rep mgl b H0 F' H' (ρ.set i s) (σ.set i (some u)) := by
  have r' := r.step t w
  have ow : ∀ {a : Addr}, Ow b H F' a → Ow b H0 F' a := fun {a} o => ⟨o.nb, o.nf, h0 a o.n0⟩
  have old : ∀ {a : Addr} {j : Nat} {t' : Slot}, H a = none → ρ[j]? = some t' → t'.isOwn = true → σ[j]? ≠ some (some (.ref a)) := fun {a j t'} ha e o hσ => by
    rcases r.atS j t' e with z | ⟨u', hu, q'⟩
    · rw [z] at o; cases o
    · rw [hσ] at hu
      cases hu
      cases t' with
      | own ds => obtain ⟨c, xs, e', _, h1, _⟩ := q'; cases e'; rw [ha] at h1; cases h1
      | dk ds => obtain ⟨c, xs, e', _, h1, _⟩ := q'; cases e'; rw [ha] at h1; cases h1
      | dt ds => obtain ⟨c, xs, e', _, h1, _⟩ := q'; cases e'; rw [ha] at h1; cases h1
      | no => cases o
      | v d => cases o
      | bag => cases o
      | fn x => cases o
  cases s with
  | no => exact r'.setV i rfl trivial
  | v d => exact r'.setV i rfl q
  | bag => exact r'.setV i rfl q
  | fn x => exact r'.setV i rfl q
  | own ds =>
    obtain ⟨a, xs, rfl, o, h1, im⟩ := q
    exact r'.setO i ⟨a, xs, rfl, ow o, h1, im⟩ fun j t' _ e oo => old o.n0 e oo
  | dk ds =>
    obtain ⟨a, xs, rfl, o, h1, im⟩ := q
    exact r'.setO i ⟨a, xs, rfl, ow o, h1, im⟩ fun j t' _ e oo => old o.n0 e oo
  | dt ds =>
    obtain ⟨a, xs, rfl, o, h1, im⟩ := q
    exact r'.setO i ⟨a, xs, rfl, ow o, h1, im⟩ fun j t' _ e oo => old o.n0 e oo
/-! ### blocks -/
def mSeq (m1 m2 : MS) : MS := fun ρ β => (m1 ρ β).bind fun p => match p.1 with
  | .nx => m2 p.2.1 p.2.2
  | o => some (o, p.2.1, p.2.2)
theorem evb_nil : EvB G X [] tNext (fun ρ β => some (.nx, ρ, β)) := ⟨fun _ => pss_nil, fun b F0 H0 F H ρ β σ o ρ' β' D w w0 s r hm k => by cases hm; exact k F H σ w s (Same.refl F) r⟩
theorem evb_cons (h1 : EvS G X st ts ms) (h2 : EvB G X rest tu mu) : EvB G X (st :: rest) (tSeq ts tu) (mSeq ms mu) := by
  refine ⟨fun c => pss_cons (h1.pe c) (h2.pe c), fun b F0 H0 F H ρ β σ o ρ' β' D w w0 s r hm k => ?_⟩
  unfold mSeq at hm
  obtain ⟨⟨o1, ρ1, β1⟩, e1, hm⟩ := Option.bind_eq_some_iff.mp hm
  refine h1.snd b F0 H0 F H ρ β σ o1 ρ1 β1 _ w w0 s r e1 fun F1 H1 σ1 w1 s1 f1 r1 => ?_
  cases o1 with
  | nx => exact h2.snd b F0 H0 F1 H1 ρ1 β1 σ1 o ρ' β' D w1 w0 s1 r1 hm fun F2 H2 σ2 w2 s2 f2 r2 => k F2 H2 σ2 w2 s2 (f1.trans f2) r2
  | rt d => cases hm; exact k F1 H1 σ1 w1 s1 f1 r1
  | bk => cases hm; exact k F1 H1 σ1 w1 s1 f1 r1
  | ct => cases hm; exact k F1 H1 σ1 w1 s1 f1 r1
theorem evb_one (h1 : EvS G X st ts ms) : EvB G X [st] ts ms := ⟨fun c => pss_one (h1.pe c), h1.snd⟩
/-! ### return, if, expressions -/
def mRet (m : ME) : MS := fun ρ β => (m ρ β).map fun p => (.rt p.1, ρ, p.2)
theorem evs_ret (h : Ev G imR X e te m) : EvS G X (.Return (some e) pos) (tRet te) (mRet m) := by
  refine ⟨fun c => ps_ret (h.pe c), fun b F0 H0 F H ρ β σ o ρ' β' D w w0 s r hm k => ?_⟩
  unfold mRet at hm
  obtain ⟨⟨x, β1⟩, h1, hm⟩ := Option.map_eq_some_iff.mp hm
  cases hm
  exact h.snd b H0 F H ρ β σ x _ _ w r h1 fun u F' H' w' s' i => k F' H' σ w' (s.trans s') (s'.same w.le) (r.step s' w.le) u i
/-- return of an owned list -/
def mRetO (i : Nat) : MS := fun ρ β => match ρ[i]? with
  | some (.own ds) => some (.rt (.list ds), ρ.set i (.v (.list ds)), β)
  | some (.v d) => some (.rt d, ρ, β)
  | _ => none
theorem evs_retO (i : Nat) {x : Str} (hN : X.N[i]? = some x := by rfl) (hv : Vis X.env.scope x := by first | exact Or.inl rfl | exact Or.inr (Or.inl rfl) | exact Or.inr (Or.inr rfl)) (hd : (x == ("__debug__" : Str)) = false := by decide)
    (hcd : (x == ("__classdict__" : Str)) = false := by decide) : EvS G X (.Return (some (.Name x p)) pos) (tRet (tVar i)) (mRetO i) := by
  refine ⟨fun c => ps_ret (pe_var hN hv hd hcd), fun b F0 H0 F H ρ β σ o ρ' β' D w w0 s r hm k => ?_⟩
  unfold mRetO at hm
  split at hm
  · rename_i ds e
    cases hm
    rcases r.atS i _ e with z | ⟨u, hu, a, xs, rfl, ow, hH, im⟩
    · cases z
    refine ⟨.ref a, hu, k _ H σ (w.frz hH ow.nf ow.nb) (s.frz ow.n0) (same_put ow.nf) (r.frz e rfl hu ow (.lst upd_same (im.same (same_put ow.nf))) rfl) (.ref a) (.lst upd_same (im.same (same_put ow.nf)))⟩
  · rename_i d e
    cases hm
    rcases r.atS i _ e with z | ⟨u, hu, q⟩
    · cases z
    exact ⟨u, hu, k F H σ w s (Same.refl F) r u q⟩
  · cases hm
def mDrop (m : ME) : MS := fun ρ β => (m ρ β).map fun p => (.nx, ρ, p.2)
theorem evs_expr (h : Ev G imR X e te m) (hs : swapsWith e none pos.line X.env = pure false := by rfl) : EvS G X (.Expr e pos) (tDrop te) (mDrop m) := by
  refine ⟨fun c => ps_expr (h.pe c) hs, fun b F0 H0 F H ρ β σ o ρ' β' D w w0 s r hm k => ?_⟩
  unfold mDrop at hm
  obtain ⟨⟨x, β1⟩, h1, hm⟩ := Option.map_eq_some_iff.mp hm
  cases hm
  exact h.snd b H0 F H ρ β σ x _ _ w r h1 fun u F' H' w' s' i => k F' H' σ w' (s.trans s') (s'.same w.le) (r.step s' w.le)
def mIfS (mt : MT) (m1 m2 : MS) : MS := fun ρ β => (mt ρ β).bind fun p => if p.1 = true then m1 ρ p.2 else m2 ρ p.2
theorem evs_if (ht : EvT G X c tt mt) (h1 : EvB G X a1 ts ms) (h2 : EvB G X a2 tu mu) : EvS G X (.If c a1 a2 pos) (tIfS tt ts tu) (mIfS mt ms mu) := by
  refine ⟨fun cc => ps_if (ht.pe cc) (h1.pe cc) (h2.pe cc), fun b F0 H0 F H ρ β σ o ρ' β' D w w0 s r hm k => ?_⟩
  unfold mIfS at hm
  obtain ⟨⟨x, β1⟩, e1, hm⟩ := Option.bind_eq_some_iff.mp hm
  refine ht.snd b H0 F H ρ β σ x _ _ w r e1 fun F' H' w' s' => ?_
  cases x with
  | true => exact iteT (h1.snd b F0 H0 F' H' ρ β1 σ o ρ' β' D w' w0 (s.trans s') (r.step s' w.le) hm fun F2 H2 σ2 w2 s2 f2 r2 => k F2 H2 σ2 w2 s2 ((s'.same w.le).trans f2) r2)
  | false => exact iteF (h2.snd b F0 H0 F' H' ρ β1 σ o ρ' β' D w' w0 (s.trans s') (r.step s' w.le) hm fun F2 H2 σ2 w2 s2 f2 r2 => k F2 H2 σ2 w2 s2 ((s'.same w.le).trans f2) r2)
def mNev : MS := fun _ _ => none
theorem evs_never : EvS G X st tNever mNev := ⟨fun _ => ps_never, fun b F0 H0 F H ρ β σ o ρ' β' D w w0 s r hm k => by cases hm⟩
theorem evs_break : EvS G X (.Break pos) tBreak (fun ρ β => some (.bk, ρ, β)) := ⟨fun _ => ps_break, fun b F0 H0 F H ρ β σ o ρ' β' D w w0 s r hm k => by cases hm; exact k F H σ w s (Same.refl F) r⟩
theorem evs_cont : EvS G X (.Continue pos) tCont (fun ρ β => some (.ct, ρ, β)) := ⟨fun _ => ps_continue, fun b F0 H0 F H ρ β σ o ρ' β' D w w0 s r hm k => by cases hm; exact k F H σ w s (Same.refl F) r⟩
/-! ### assignments -/
def mSet (i : Nat) (m : MX) : MS := fun ρ β => (m ρ β).map fun p => (.nx, ρ.set i p.1, p.2)
theorem free0 {b : Addr} {F0 H0 F H : Hp} (s : Stp b F0 H0 F H) : ∀ a, H a = none → H0 a = none := fun _ h => s.free h
theorem snd_set {mgl : Str → Option Value} (i : Nat) (h : SndX mgl te x1) : SndS mgl (tAsg te (gName i)) (mSet i x1) := fun b F0 H0 F H ρ β σ o ρ' β' D w w0 s r hm k => by
  unfold mSet at hm
  obtain ⟨⟨x, β1⟩, h1, hm⟩ := Option.map_eq_some_iff.mp hm
  cases hm
  exact h b H0 F H ρ β σ x _ _ w r h1 fun u F' H' w' s' q => k F' H' _ w' (s.trans s') (s'.same w.le) (r.setX i (free0 s) s' w.le q)
theorem evs_set (i : Nat) {x : Str} (hN : X.N.Nodup) (h : EvX G X e te x1) (hi : X.N[i]? = some x := by rfl) (hx : Loc X.env.scope x := by first | exact Or.inl rfl | exact Or.inr rfl) (hs : swapsWith e (some (.Name x px)) pos.line X.env = pure false := by rfl) (hf : X.fn x = true ∨ X.env.scope.names.lookup x = some .local := by first | exact .inl rfl | exact .inr rfl) :
    EvS G X (.Assign [.Name x px] e pos) (tAsg te (gName i)) (mSet i x1) := ⟨fun c => ps_set hN hi hx (h.pe c) hs hf, snd_set i h.snd⟩
/-- name = [..], on one line -/
theorem evs_setLc (i : Nat) {y : Str} {spos : Pos} (hN : X.N.Nodup) (hi : EvI G true X tg it wi mi) (ok : BlkOk X.N X.env.scope scope own)
    (hg : ∀ (s : Shared) (H : Hp) (C : Addr) (cl : List (Str × Addr)) (fp : List Addr), EvG G (X.blk s H scope (compEnvC scope cl C X.env) fp) tg g mg is)
    (ht : ∀ (s : Shared) (H : Hp) (C : Addr) (cl : List (Str × Addr)) (fp : List Addr), EvF G (X.blk s H scope (compEnvC scope cl C X.env) fp) ifs tt mt)
    (he : ∀ (s : Shared) (H : Hp) (C : Addr) (cl : List (Str × Addr)) (fp : List Addr), Ev G imR (X.blk s H scope (compEnvC scope cl C X.env) fp) elt te m)
    (hy : X.N[i]? = some y := by rfl) (hyl : X.env.scope.names.lookup y = some .local := by rfl) (hsw : swapsWith (.ListComp elt [⟨tg, it, ifs, 0⟩] scope pos) (some (.Name y py)) spos.line X.env = pure true := by exact sw_true rfl rfl rfl (by decide +kernel))
    (his : ∀ i ∈ is, i ∈ own.map (·.2) := by decide) (hs : ∀ x, foldedSetIterable it X.env x = pure x := by intro _; rfl) :
    EvS G X (.Assign [.Name y py] (.ListComp elt [⟨tg, it, ifs, 0⟩] scope pos) spos) (tAsg (tLc wi g tt te (own.map (·.2))) (gName i)) (mSet i (mXv (mFz (mLc (own.map (·.2)) mi mg mt m)))) :=
  ⟨fun c => ps_setLc c.calm hN hy hyl hsw (hi.pe c) ok (fun s H C cl fp => (hg s H C cl fp).pe (c.blk ..)) (fun s H C cl fp => (ht s H C cl fp).pe (c.blk ..)) (fun s H C cl fp => (he s H C cl fp).pe (c.blk ..)) hs,
    snd_set i (EvN.ev (X := X) (e := .ListComp elt [⟨tg, it, ifs, 0⟩] scope pos) (evn_lc hN hi ok hg ht he his hs)).snd.x⟩
/-- targets of any form -/
def mAsg (m : ME) (mg : MG) : MS := fun ρ β => (m ρ β).bind fun p => (mg p.1 ρ).map fun ρ' => (.nx, ρ', p.2)
theorem evs_asg (he : Ev G imR X e te m) (hg : EvG G X tg g mg is) (hs : swapsWithSole [tg] e pos.line X.env = pure false := by rfl) (hw : swappedStores [tg] e X.env = pure none := by rfl)
    (h1 : (assignEach [tg] X.env).map (·.2) = [assign tg X.env] := by rfl) : EvS G X (.Assign [tg] e pos) (tAsg te g) (mAsg m mg) := by
  refine ⟨fun c => ps_asg (he.pe c) (hg.pe c) hs hw h1, fun b F0 H0 F H ρ β σ o ρ' β' D w w0 s r hm k => ?_⟩
  unfold mAsg at hm
  obtain ⟨⟨x, β1⟩, h1, hm⟩ := Option.bind_eq_some_iff.mp hm
  obtain ⟨ρ1, h2, hm⟩ := Option.map_eq_some_iff.mp hm
  cases hm
  refine he.snd b H0 F H ρ β σ x _ _ w r h1 fun u F' H' w' s' i => ?_
  exact hg.snd b _ H0 F' H' ρ σ u x _ _ w' (r.step s' w.le) i h2 fun σ' r' _ => k F' H' σ' w' (s.trans s') (s'.same w.le) r'
/-- a, b = e1, e2 -/
def mPar2 (i j : Nat) (x1 x2 : MX) : MS := fun ρ β => (x1 ρ β).bind fun p => (x2 ρ p.2).map fun q => (.nx, (ρ.set i p.1).set j q.1, q.2)
theorem SlotR.weak {mgl : Str → Option Value} {b : Addr} {H0 H1 F H : Hp} {s : Slot} {u : V} (h : ∀ a, H1 a = none → H0 a = none) (q : SlotR mgl b H1 F H s u) : SlotR mgl b H0 F H s u := by
  cases s with
  | no => trivial
  | v d => exact q
  | bag => exact q
  | fn x => exact q
  | own ds => obtain ⟨a, xs, e, o, h1, im⟩ := q; exact ⟨a, xs, e, ⟨o.nb, o.nf, h a o.n0⟩, h1, im⟩
  | dk ds => obtain ⟨a, xs, e, o, h1, im⟩ := q; exact ⟨a, xs, e, ⟨o.nb, o.nf, h a o.n0⟩, h1, im⟩
  | dt ds => obtain ⟨a, xs, e, o, h1, im⟩ := q; exact ⟨a, xs, e, ⟨o.nb, o.nf, h a o.n0⟩, h1, im⟩
theorem evs_par2 (i j : Nat) {x y : Str} {kt k2 : Nat} (hN : X.N.Nodup) (h1 : EvX G X e1 t1 x1) (h2 : EvX G X e2 t2 x2) (hi : X.N[i]? = some x := by rfl) (hj : X.N[j]? = some y := by rfl) (hij : i ≠ j := by decide)
    (hx : X.env.scope.names.lookup x = some .local := by rfl) (hy : X.env.scope.names.lookup y = some .local := by rfl)
    (hw : swappedStores [.Tuple [.Name x px, .Name y py] kt pt] (.Tuple [e1, e2] k2 pt2) X.env = pure (some [x, y]) := by rfl)
    (hs : swapsWithSole [.Tuple [.Name x px, .Name y py] kt pt] (.Tuple [e1, e2] k2 pt2) pos.line X.env = pure false := by rfl)
    (hs1 : starEach [e1, e2] X.env = (false, eval e1 X.env) :: starEach [e2] X.env := by rfl) (hs2 : starEach [e2] X.env = (false, eval e2 X.env) :: starEach [] X.env := by rfl) :
    EvS G X (.Assign [.Tuple [.Name x px, .Name y py] kt pt] (.Tuple [e1, e2] k2 pt2) pos) (tPar i j (tCons t1 (tCons t2 tNil))) (mPar2 i j x1 x2) := by
  refine ⟨fun c => ps_par c.calm hN hi hj hij hx hy (pa_cons (h1.pe c) (pa_cons (h2.pe c) pa_nil hs2) hs1) hw hs, fun b F0 H0 F H ρ β σ o ρ' β' D w w0 s r hm k => ?_⟩
  unfold mPar2 at hm
  obtain ⟨⟨s1, β1⟩, q1, hm⟩ := Option.bind_eq_some_iff.mp hm
  obtain ⟨⟨s2, β2⟩, q2, hm⟩ := Option.map_eq_some_iff.mp hm
  cases hm
  refine h1.snd b H0 F H ρ β σ s1 β1 _ w r q1 fun u1 F1 H1 w1 z1 i1 => ?_
  refine h2.snd b H0 F1 H1 ρ β1 σ s2 _ _ w1 (r.step z1 w.le) q2 fun u2 F2 H2 w2 z2 i2 => ?_
  refine ⟨u1, u2, rfl, k F2 H2 _ w2 (s.trans (z1.trans z2)) ((z1.trans z2).same w.le) ?_⟩
  have r1 := r.setX i (free0 s) z1 w.le i1
  exact r1.setX j (free0 (s.trans z1)) z2 w1.le i2
def mPar3 (i j l : Nat) (x1 x2 x3 : MX) : MS := fun ρ β => (x1 ρ β).bind fun p => (x2 ρ p.2).bind fun q => (x3 ρ q.2).map fun t => (.nx, ((ρ.set i p.1).set j q.1).set l t.1, t.2)
theorem evs_par3 (i j l : Nat) {x y z : Str} {kt k2 : Nat} (hN : X.N.Nodup) (h1 : EvX G X e1 t1 x1) (h2 : EvX G X e2 t2 x2) (h3 : EvX G X e3 t3 x3) (hi : X.N[i]? = some x := by rfl) (hj : X.N[j]? = some y := by rfl) (hl : X.N[l]? = some z := by rfl) (hij : i ≠ j := by decide) (hil : i ≠ l := by decide) (hjl : j ≠ l := by decide)
    (hx : X.env.scope.names.lookup x = some .local := by rfl) (hy : X.env.scope.names.lookup y = some .local := by rfl) (hz : X.env.scope.names.lookup z = some .local := by rfl)
    (hw : swappedStores [.Tuple [.Name x px, .Name y py, .Name z pz] kt pt] (.Tuple [e1, e2, e3] k2 pt2) X.env = pure (some [x, y, z]) := by rfl)
    (hs : swapsWithSole [.Tuple [.Name x px, .Name y py, .Name z pz] kt pt] (.Tuple [e1, e2, e3] k2 pt2) pos.line X.env = pure false := by rfl)
    (hs0 : starEach [e1, e2, e3] X.env = (false, eval e1 X.env) :: starEach [e2, e3] X.env := by rfl) (hs1 : starEach [e2, e3] X.env = (false, eval e2 X.env) :: starEach [e3] X.env := by rfl) (hs2 : starEach [e3] X.env = (false, eval e3 X.env) :: starEach [] X.env := by rfl) :
    EvS G X (.Assign [.Tuple [.Name x px, .Name y py, .Name z pz] kt pt] (.Tuple [e1, e2, e3] k2 pt2) pos) (tPar3 i j l (tCons t1 (tCons t2 (tCons t3 tNil)))) (mPar3 i j l x1 x2 x3) := by
  refine ⟨fun c => ps_par3 c.calm hN hi hj hl hij hil hjl hx hy hz (pa_cons (h1.pe c) (pa_cons (h2.pe c) (pa_cons (h3.pe c) pa_nil hs2) hs1) hs0) hw hs, fun b F0 H0 F H ρ β σ o ρ' β' D w w0 s r hm k => ?_⟩
  unfold mPar3 at hm
  obtain ⟨⟨s1, β1⟩, q1, hm⟩ := Option.bind_eq_some_iff.mp hm
  obtain ⟨⟨s2, β2⟩, q2, hm⟩ := Option.bind_eq_some_iff.mp hm
  obtain ⟨⟨s3, β3⟩, q3, hm⟩ := Option.map_eq_some_iff.mp hm
  cases hm
  refine h1.snd b H0 F H ρ β σ s1 β1 _ w r q1 fun u1 F1 H1 w1 z1 i1 => ?_
  refine h2.snd b H0 F1 H1 ρ β1 σ s2 _ _ w1 (r.step z1 w.le) q2 fun u2 F2 H2 w2 z2 i2 => ?_
  refine h3.snd b H0 F2 H2 ρ β2 σ s3 _ _ w2 ((r.step z1 w.le).step z2 w1.le) q3 fun u3 F3 H3 w3 z3 i3 => ?_
  refine ⟨u1, u2, u3, rfl, k F3 H3 _ w3 (s.trans ((z1.trans z2).trans z3)) (((z1.trans z2).trans z3).same w.le) ?_⟩
  have r1 := r.setX i (free0 s) z1 w.le i1
  have r2 := r1.setX j (free0 (s.trans z1)) z2 w1.le i2
  exact r2.setX l (free0 ((s.trans z1).trans z2)) z3 w2.le i3
/-! ### op= -/
def mAug (i : Nat) (f : D → D → Option D) (m : ME) : MS := fun ρ β => (getV ρ[i]?).bind fun d => (m ρ β).bind fun p => (f d p.1).map fun z => (.nx, ρ.set i (.v z), p.2)
theorem getV_some {s : Option Slot} {d : D} (h : getV s = some d) : s = some (.v d) := by
  unfold getV at h
  split at h
  · cases h; rfl
  · cases h
theorem snd_aug {mgl : Str → Option Value} {fI : Int → Int → Int} (i : Nat) (h : SndE mgl imR te m) : SndS mgl (tAug i te (ipI fI)) (mAug i (i2 fun a b => .int (fI a b)) m) := fun b F0 H0 F H ρ β σ o ρ' β' D w w0 s r hm k => by
  unfold mAug at hm
  obtain ⟨d, h1, hm⟩ := Option.bind_eq_some_iff.mp hm
  obtain ⟨⟨y, β1⟩, h2, hm⟩ := Option.bind_eq_some_iff.mp hm
  obtain ⟨z, h3, hm⟩ := Option.map_eq_some_iff.mp hm
  cases hm
  obtain ⟨a, c, rfl, e2, rfl⟩ := i2_some h3
  have e2 : y = .int c := e2
  subst e2
  rcases r.atS i _ (getV_some h1) with q | ⟨u, hu, q⟩
  · cases q
  cases q
  refine ⟨.int a, hu, h b H0 F H ρ β σ _ _ _ w r h2 fun u F' H' w' s' i' => ?_⟩
  cases i'
  exact ⟨a, c, rfl, rfl, k F' H' _ w' (s.trans s') (s'.same w.le) ((r.step s' w.le).setV i rfl (.int _))⟩
theorem evs_augAdd (i : Nat) {x : Str} (hN : X.N.Nodup) (h : Ev G imR X e te m) (hi : X.N[i]? = some x := by rfl) (hx : Loc X.env.scope x := by first | exact Or.inl rfl | exact Or.inr rfl) (hf : X.fn x = true ∨ X.env.scope.names.lookup x = some .local := by first | exact .inl rfl | exact .inr rfl) :
    EvS G X (.AugAssign (.Name x px) .Add e pos) (tAug i te (ipI fun i j => i + j)) (mAug i (i2 fun a b => .int (a + b)) m) := ⟨fun c => ps_aug hN hi hx (h.pe c) ip_add hf, snd_aug i h.snd⟩
/-! ### a dict's items stored -/
def mDput (i : Nat) (mk mv : ME) : MS := fun ρ β => (mv ρ β).bind fun p => (mk ρ p.2).bind fun q => (slotK ρ[i]?).bind fun kvs => (keyD q.1).bind fun k => if kvs.length < sizeLine then some (.nx, ρ.set i (.dk (putA kvs k p.1)), q.2) else none
theorem evs_dput (i : Nat) {x : Str} (hk : Ev G imR X e1 t1 m1) (hv : Ev G imR X e2 t2 m2) (hN : X.N[i]? = some x := by rfl) (hvis : Vis X.env.scope x := by first | exact Or.inl rfl | exact Or.inr (Or.inl rfl) | exact Or.inr (Or.inr rfl)) (hd : (x == ("__debug__" : Str)) = false := by decide)
    (hcd : (x == ("__classdict__" : Str)) = false := by decide) (hs : swapsWith e2 (some (.Subscript (.Name x p) e1 p2)) pos.line X.env = pure false := by rfl) : EvS G X (.Assign [.Subscript (.Name x p) e1 p2] e2 pos) (sDPut (tVar i) t1 t2) (mDput i m1 m2) := by
  refine ⟨fun c => ps_dput (hu_of c.room) (pe_var hN hvis hd hcd) (hk.pe c) (hv.pe c) hs, fun b F0 H0 F H ρ β σ o ρ' β' D w w0 s r hm k => ?_⟩
  unfold mDput at hm
  obtain ⟨⟨y, β1⟩, h1, hm⟩ := Option.bind_eq_some_iff.mp hm
  obtain ⟨⟨z, β2⟩, h2, hm⟩ := Option.bind_eq_some_iff.mp hm
  obtain ⟨kvs, h3, hm⟩ := Option.bind_eq_some_iff.mp hm
  obtain ⟨kk, h4, hm⟩ := Option.bind_eq_some_iff.mp hm
  split at hm
  · rename_i hz
    cases hm
    have e := slotK_some h3
    refine hv.snd b H0 F H ρ β σ y _ _ w r h1 fun v F1 H1 w1 s1 iv => ?_
    have r1 := r.step s1 w.le
    rcases r1.atS i _ e with q | ⟨u, hu, a, ks, rfl, ow, hH, im⟩
    · cases q
    refine ⟨.ref a, hu, hk.snd b H0 F1 H1 ρ β1 σ z _ _ w1 r1 h2 fun u2 F2 H2 w2 s2 ik => ?_⟩
    have hH2 := s2.kp ow.nb hH
    have ow2 : Ow b H0 F2 a := ⟨ow.nb, by rw [s2.fz a _ hH]; exact ow.nf, ow.n0⟩
    have ek := keyD_im (b := b) (H := H2) (.inl ik) h4
    subst ek
    have im2 := im.same (s2.same w1.le)
    refine ⟨a, _, rfl, DPut.k hH2 (by rw [im2.length]; exact hz), ?_⟩
    refine k F2 _ σ (w2.own ow2.nf ow2.nb) ((s.trans (s1.trans s2)).mut ow.n0) ((s1.trans s2).same w.le) ?_
    exact (r1.step s2 w1.le).mut e rfl hu ow2 ⟨a, _, rfl, ow2, upd_same, im2.put (Im.same (s2.same w1.le) iv)⟩ rfl
  · cases hm
/-- d[k] op= e, ints -/
def mDaug (i : Nat) (fI : Int → Int → Int) (mk mv : ME) : MS := fun ρ β => (mk ρ β).bind fun p => (slotK ρ[i]?).bind fun kvs => (keyD p.1).bind fun k => (getA kvs k).bind fun d => (mv ρ p.2).bind fun q => (i2 (fun a b => .int (fI a b)) d q.1).bind fun z => if kvs.length < sizeLine then some (.nx, ρ.set i (.dk (putA kvs k z)), q.2) else none
theorem evs_daug (i : Nat) {x : Str} {op : Operator} {fI : Int → Int → Int} (hop : ∀ X : Cx, InOp X op (fun x y H Q => ∃ i j, x = .int i ∧ y = .int j ∧ Q (.int (fI i j)) H)) (hk : Ev G imR X e1 t1 m1) (hv : Ev G imR X e2 t2 m2) (hN : X.N[i]? = some x := by rfl) (hvis : Vis X.env.scope x := by first | exact Or.inl rfl | exact Or.inr (Or.inl rfl) | exact Or.inr (Or.inr rfl)) (hd : (x == ("__debug__" : Str)) = false := by decide)
    (hcd : (x == ("__classdict__" : Str)) = false := by decide) (ha : ∀ ov iv new, augStore e1 ov iv new = (do holding [new, ov, iv] (setItem ov iv new); release [new, ov, iv] []; pure .next) := by intro _ _ _; rfl) :
    EvS G X (.AugAssign (.Subscript (.Name x p) e1 p2) op e2 pos) (sDAug (tVar i) t1 t2 (fun x y H Q => ∃ i j, x = .int i ∧ y = .int j ∧ Q (.int (fI i j)) H)) (mDaug i fI m1 m2) := by
  refine ⟨fun c => ps_daug (hu_of c.room) (pe_var hN hvis hd hcd) (hk.pe c) (hv.pe c) (hop X) ha, fun b F0 H0 F H ρ β σ o ρ' β' D w w0 s r hm k => ?_⟩
  unfold mDaug at hm
  obtain ⟨⟨y, β1⟩, h1, hm⟩ := Option.bind_eq_some_iff.mp hm
  obtain ⟨kvs, h3, hm⟩ := Option.bind_eq_some_iff.mp hm
  obtain ⟨kk, h4, hm⟩ := Option.bind_eq_some_iff.mp hm
  obtain ⟨d, h5, hm⟩ := Option.bind_eq_some_iff.mp hm
  obtain ⟨⟨z, β2⟩, h2, hm⟩ := Option.bind_eq_some_iff.mp hm
  obtain ⟨zz, h6, hm⟩ := Option.bind_eq_some_iff.mp hm
  split at hm
  · rename_i hz
    cases hm
    obtain ⟨a1, a2, rfl, e2, rfl⟩ := i2_some h6
    have e2 : z = .int a2 := e2
    subst e2
    have e := slotK_some h3
    rcases r.atS i _ e with q | ⟨u, hu, a, ks, rfl, ow, hH, im⟩
    · cases q
    refine ⟨.ref a, hu, hk.snd b H0 F H ρ β σ y _ _ w r h1 fun u1 F1 H1 w1 s1 ik => ?_⟩
    have hH1 := s1.kp ow.nb hH
    obtain ⟨v, hv1, iv⟩ := (im.same (s1.same w.le)).get h5
    have ek := keyD_im (b := b) (H := H1) (.inl ik) h4
    subst ek
    refine ⟨a, v, rfl, by rw [← hv1]; exact DGet.k hH1, ?_⟩
    have r1 := r.step s1 w.le
    refine hv.snd b H0 F1 H1 ρ β1 σ _ _ _ w1 r1 h2 fun u2 F2 H2 w2 s2 i2 => ?_
    cases iv
    cases i2
    have hH2 := s2.kp ow.nb hH1
    have ow2 : Ow b H0 F2 a := ⟨ow.nb, by rw [s2.fz a _ hH1, s1.fz a _ hH]; exact ow.nf, ow.n0⟩
    have im2 := im.same ((s1.trans s2).same w.le)
    refine ⟨a1, a2, rfl, rfl, _, DPut.k hH2 (by rw [im2.length]; exact hz), ?_⟩
    refine k F2 _ σ (w2.own ow2.nf ow2.nb) ((s.trans (s1.trans s2)).mut ow.n0) ((s1.trans s2).same w.le) ?_
    exact (r1.step s2 w1.le).mut e rfl hu ow2 ⟨a, _, rfl, ow2, upd_same, im2.put (.int _)⟩ rfl
  · cases hm
/-- found[t] = v -/
def mTput (i : Nat) (mk mv : ME) : MS := fun ρ β => (mv ρ β).bind fun p => (mk ρ p.2).bind fun q => (slotT ρ[i]?).bind fun kvs => (keysD q.1).bind fun k => if kvs.length < sizeLine then some (.nx, ρ.set i (.dt (putA kvs k p.1)), q.2) else none
theorem evs_tput (i : Nat) {x : Str} (hk : Ev G imR X e1 t1 m1) (hv : Ev G imR X e2 t2 m2) (hN : X.N[i]? = some x := by rfl) (hvis : Vis X.env.scope x := by first | exact Or.inl rfl | exact Or.inr (Or.inl rfl) | exact Or.inr (Or.inr rfl)) (hd : (x == ("__debug__" : Str)) = false := by decide)
    (hcd : (x == ("__classdict__" : Str)) = false := by decide) (hs : swapsWith e2 (some (.Subscript (.Name x p) e1 p2)) pos.line X.env = pure false := by rfl) : EvS G X (.Assign [.Subscript (.Name x p) e1 p2] e2 pos) (sDPut (tVar i) t1 t2) (mTput i m1 m2) := by
  refine ⟨fun c => ps_dput (hu_of c.room) (pe_var hN hvis hd hcd) (hk.pe c) (hv.pe c) hs, fun b F0 H0 F H ρ β σ o ρ' β' D w w0 s r hm k => ?_⟩
  unfold mTput at hm
  obtain ⟨⟨y, β1⟩, h1, hm⟩ := Option.bind_eq_some_iff.mp hm
  obtain ⟨⟨z, β2⟩, h2, hm⟩ := Option.bind_eq_some_iff.mp hm
  obtain ⟨kvs, h3, hm⟩ := Option.bind_eq_some_iff.mp hm
  obtain ⟨kk, h4, hm⟩ := Option.bind_eq_some_iff.mp hm
  split at hm
  · rename_i hz
    cases hm
    have e := slotT_some h3
    refine hv.snd b H0 F H ρ β σ y _ _ w r h1 fun v F1 H1 w1 s1 iv => ?_
    have r1 := r.step s1 w.le
    rcases r1.atS i _ e with q | ⟨u, hu, a, ks, rfl, ow, hH, im⟩
    · cases q
    refine ⟨.ref a, hu, hk.snd b H0 F1 H1 ρ β1 σ z _ _ w1 r1 h2 fun u2 F2 H2 w2 s2 ik => ?_⟩
    have hH2 := s2.kp ow.nb hH
    have ow2 : Ow b H0 F2 a := ⟨ow.nb, by rw [s2.fz a _ hH]; exact ow.nf, ow.n0⟩
    obtain ⟨c, rfl, hc⟩ := keysD_im ik h4
    have im2 := im.same (s2.same w1.le)
    refine ⟨a, _, rfl, DPut.t hH2 (w2.le _ _ hc) (by rw [im2.length]; exact hz), ?_⟩
    refine k F2 _ σ (w2.own ow2.nf ow2.nb) ((s.trans (s1.trans s2)).mut ow.n0) ((s1.trans s2).same w.le) ?_
    exact (r1.step s2 w1.le).mut e rfl hu ow2 ⟨a, _, rfl, ow2, upd_same, im2.put (Im.same (s2.same w1.le) iv)⟩ rfl
  · cases hm
end
end M
/-! M8: lists changed in place, loops, defs. -/
namespace M
open PySem PySem.Spec PyProof.Rows L2
section
variable {G : Gx} {X : Cx} {e e1 e2 e3 tg it elt c : Expr} {es ifs : List Expr} {te t1 t2 t3 : TE} {ta : TA} {tt : TT} {ml mi : ML} {mk : MK} {m m1 m2 m3 : ME} {x1 x2 x3 : MX} {mt : MT} {pos p p2 apos cpos px py pz pt pt2 : Pos} {g : TG} {mg : MG} {is : List Nat} {wi : TI} {scope : Scope} {own : List (Str × Nat)} {st : Stmt} {rest body a1 a2 : List Stmt} {ts tu : TS} {ms mu : MS}
def slotO (s : Option Slot) : Option (List D) := match s with
  | some (.own ds) => some ds
  | _ => none
theorem slotO_some {s : Option Slot} {kvs : List D} (h : slotO s = some kvs) : s = some (.own kvs) := by
  unfold slotO at h
  split at h
  · cases h; rfl
  · cases h
/-- the owned list at slot i is changed to ys -/
theorem own_mut {mgl : Str → Option Value} {b : Addr} {β : Bag} {F0 H0 F H : Hp} {ρ : List Slot} {σ : L2.St} {i : Nat} {a : Addr} {ds es : List D} {ys : List V} (w : Wd b β F H) (s : Stp b F0 H0 F H) (r : Rep mgl b H0 F H ρ σ) (e : ρ[i]? = some (.own ds)) (hu : σ[i]? = some (some (.ref a))) (ow : Ow b H0 F a) (im : ImA F ys es) :
    Wd b β F (upd H a (.lst ys)) ∧ Stp b F0 H0 F (upd H a (.lst ys)) ∧ Rep mgl b H0 F (upd H a (.lst ys)) (ρ.set i (.own es)) σ :=
  ⟨w.own ow.nf ow.nb, s.mut ow.n0, r.mut e rfl hu ow ⟨a, ys, rfl, ow, upd_same, im⟩ rfl⟩
def mApp (i : Nat) (m : ME) : MS := fun ρ β => (m ρ β).bind fun p => (slotO ρ[i]?).bind fun ds => if ds.length < sizeLine then some (.nx, ρ.set i (.own (ds ++ [p.1])), p.2) else none
theorem evs_append (i : Nat) {x : Str} (h : Ev G imR X e te m) (hN : X.N[i]? = some x := by rfl) (hvis : Vis X.env.scope x := by first | exact Or.inl rfl | exact Or.inr (Or.inl rfl) | exact Or.inr (Or.inr rfl)) (hd : (x == ("__debug__" : Str)) = false := by decide)
    (hcd : (x == ("__classdict__" : Str)) = false := by decide)
    (hfew : ((backTo cpos (starEach [e] X.env)).all (fun x => !x.1) && (backToKw cpos (keywordEach [] X.env)).all (fun x => x.1.isSome)
      && decide (([e] : List Expr).length + ([] : List Keyword).length + (if ([] : List Keyword).isEmpty then 0 else 1) < 30)) = true := by rfl)
    (hline : (apos.endLine == cpos.line) = true := by rfl) (hs : starEach [e] X.env = (false, eval e X.env) :: starEach [] X.env := by rfl) (hsw : swapsWith (.Call (.Attribute (.Name x p) "append" apos) [e] [] cpos) none pos.line X.env = pure false := by rfl) :
    EvS G X (.Expr (.Call (.Attribute (.Name x p) "append" apos) [e] [] cpos) pos) (tDrop (tBM G.K "list" rAppend (tVar i) (tCons te tNil))) (mApp i m) := by
  refine ⟨fun c => by have h := ps_expr (X := X) (pos := pos) (pe_bm (X := X) PySem.F.plainAttrs_list PySem.F.slot_list_append PySem.F.type_list_append mt_append (pe_var (pos := p) hN hvis hd hcd) (pa_cons (h.pe c) pa_nil hs) (by rfl) hfew hline hs) hsw; rw [c.K] at h; exact h, fun b F0 H0 F H ρ β σ o ρ' β' D w w0 s r hm k => ?_⟩
  unfold mApp at hm
  obtain ⟨⟨y, β1⟩, h1, hm⟩ := Option.bind_eq_some_iff.mp hm
  obtain ⟨ds, h2, hm⟩ := Option.bind_eq_some_iff.mp hm
  split at hm
  · rename_i hz
    cases hm
    have e := slotO_some h2
    rcases r.atS i _ e with q | ⟨u, hu, a, xs, rfl, ow, hH, im⟩
    · cases q
    refine ⟨.ref a, hu, .inl ⟨rfl, _, SqL.of hH⟩, ?_⟩
    refine h.snd b H0 F H ρ β σ y _ _ w r h1 fun v F1 H1 w1 s1 iv => ?_
    have hH1 := s1.kp ow.nb hH
    have ow1 : Ow b H0 F1 a := ⟨ow.nb, by rw [s1.fz a _ hH]; exact ow.nf, ow.n0⟩
    have im1 := im.same (s1.same w.le)
    obtain ⟨w2, s2, r2⟩ := own_mut w1 (s.trans s1) (r.step s1 w.le) e hu ow1 (im1.snoc iv)
    exact ⟨a, xs, v, rfl, rfl, hH1, by rw [im1.length]; exact hz, k F1 _ σ w2 s2 (s1.same w.le) r2⟩
  · cases hm
def mExt (i : Nat) (m : ME) : MS := fun ρ β => (m ρ β).bind fun p => (slotO ρ[i]?).bind fun ds => match p.1 with
  | .list es => if ds.length + es.length ≤ sizeLine then some (.nx, ρ.set i (.own (ds ++ es)), p.2) else none
  | _ => none
theorem evs_extend (i : Nat) {x : Str} (h : Ev G imR X e te m) (hN : X.N[i]? = some x := by rfl) (hvis : Vis X.env.scope x := by first | exact Or.inl rfl | exact Or.inr (Or.inl rfl) | exact Or.inr (Or.inr rfl)) (hd : (x == ("__debug__" : Str)) = false := by decide)
    (hcd : (x == ("__classdict__" : Str)) = false := by decide)
    (hfew : ((backTo cpos (starEach [e] X.env)).all (fun x => !x.1) && (backToKw cpos (keywordEach [] X.env)).all (fun x => x.1.isSome)
      && decide (([e] : List Expr).length + ([] : List Keyword).length + (if ([] : List Keyword).isEmpty then 0 else 1) < 30)) = true := by rfl)
    (hline : (apos.endLine == cpos.line) = true := by rfl) (hs : starEach [e] X.env = (false, eval e X.env) :: starEach [] X.env := by rfl) (hsw : swapsWith (.Call (.Attribute (.Name x p) "extend" apos) [e] [] cpos) none pos.line X.env = pure false := by rfl) :
    EvS G X (.Expr (.Call (.Attribute (.Name x p) "extend" apos) [e] [] cpos) pos) (tDrop (tBM G.K "list" rExtend (tVar i) (tCons te tNil))) (mExt i m) := by
  refine ⟨fun c => by have h := ps_expr (X := X) (pos := pos) (pe_bm (X := X) PySem.F.plainAttrs_list PySem.F.slot_list_extend PySem.F.type_list_extend mt_extend (pe_var (pos := p) hN hvis hd hcd) (pa_cons (h.pe c) pa_nil hs) (by rfl) hfew hline hs) hsw; rw [c.K] at h; exact h, fun b F0 H0 F H ρ β σ o ρ' β' D w w0 s r hm k => ?_⟩
  unfold mExt at hm
  obtain ⟨⟨y, β1⟩, h1, hm⟩ := Option.bind_eq_some_iff.mp hm
  obtain ⟨ds, h2, hm⟩ := Option.bind_eq_some_iff.mp hm
  split at hm
  · rename_i es hy
    have hy : y = .list es := hy
    subst hy
    split at hm
    · rename_i hz
      cases hm
      have e := slotO_some h2
      rcases r.atS i _ e with q | ⟨u, hu, a, xs, rfl, ow, hH, im⟩
      · cases q
      refine ⟨.ref a, hu, .inl ⟨rfl, _, SqL.of hH⟩, ?_⟩
      refine h.snd b H0 F H ρ β σ _ _ _ w r h1 fun v F1 H1 w1 s1 iv => ?_
      have hH1 := s1.kp ow.nb hH
      have ow1 : Ow b H0 F1 a := ⟨ow.nb, by rw [s1.fz a _ hH]; exact ow.nf, ow.n0⟩
      have im1 := im.same (s1.same w.le)
      cases iv with
      | lst hb ib =>
        obtain ⟨w2, s2, r2⟩ := own_mut w1 (s.trans s1) (r.step s1 w.le) e hu ow1 (im1.append ib)
        exact ⟨a, _, xs, _, rfl, rfl, hH1, w1.le _ _ hb, by rw [im1.length, ib.length]; exact hz, k F1 _ σ w2 s2 (s1.same w.le) r2⟩
    · cases hm
  · cases hm
def mPopAt (i : Nat) (m : ME) : MS := fun ρ β => (m ρ β).bind fun p => (slotO ρ[i]?).bind fun ds => (toI p.1).bind fun j => if -(2 ^ 63) ≤ j ∧ j < 2 ^ 63 then (seqIndex? j ds.length).bind fun n => (ds[n]?).map fun _ => (.nx, ρ.set i (.own (ds.eraseIdx n)), p.2) else none
theorem evs_popAt (i : Nat) {x : Str} (h : Ev G imR X e te m) (hN : X.N[i]? = some x := by rfl) (hvis : Vis X.env.scope x := by first | exact Or.inl rfl | exact Or.inr (Or.inl rfl) | exact Or.inr (Or.inr rfl)) (hd : (x == ("__debug__" : Str)) = false := by decide)
    (hcd : (x == ("__classdict__" : Str)) = false := by decide)
    (hfew : ((backTo cpos (starEach [e] X.env)).all (fun x => !x.1) && (backToKw cpos (keywordEach [] X.env)).all (fun x => x.1.isSome)
      && decide (([e] : List Expr).length + ([] : List Keyword).length + (if ([] : List Keyword).isEmpty then 0 else 1) < 30)) = true := by rfl)
    (hline : (apos.endLine == cpos.line) = true := by rfl) (hs : starEach [e] X.env = (false, eval e X.env) :: starEach [] X.env := by rfl) (hsw : swapsWith (.Call (.Attribute (.Name x p) "pop" apos) [e] [] cpos) none pos.line X.env = pure false := by rfl) :
    EvS G X (.Expr (.Call (.Attribute (.Name x p) "pop" apos) [e] [] cpos) pos) (tDrop (tBM G.K "list" rPopAt (tVar i) (tCons te tNil))) (mPopAt i m) := by
  refine ⟨fun c => by have h := ps_expr (X := X) (pos := pos) (pe_bm (X := X) PySem.F.plainAttrs_list PySem.F.slot_list_pop PySem.F.type_list_pop mt_popAt (pe_var (pos := p) hN hvis hd hcd) (pa_cons (h.pe c) pa_nil hs) (by rfl) hfew hline hs) hsw; rw [c.K] at h; exact h, fun b F0 H0 F H ρ β σ o ρ' β' D w w0 s r hm k => ?_⟩
  unfold mPopAt at hm
  obtain ⟨⟨y, β1⟩, h1, hm⟩ := Option.bind_eq_some_iff.mp hm
  obtain ⟨ds, h2, hm⟩ := Option.bind_eq_some_iff.mp hm
  obtain ⟨j, h3, hm⟩ := Option.bind_eq_some_iff.mp hm
  split at hm
  · rename_i hz
    obtain ⟨n, h4, hm⟩ := Option.bind_eq_some_iff.mp hm
    obtain ⟨z, h5, hm⟩ := Option.map_eq_some_iff.mp hm
    cases hm
    have ey : y = .int j := toI_some h3
    subst ey
    have e := slotO_some h2
    rcases r.atS i _ e with q | ⟨u, hu, a, xs, rfl, ow, hH, im⟩
    · cases q
    refine ⟨.ref a, hu, .inl ⟨rfl, _, SqL.of hH⟩, ?_⟩
    refine h.snd b H0 F H ρ β σ _ _ _ w r h1 fun v F1 H1 w1 s1 iv => ?_
    cases iv
    have hH1 := s1.kp ow.nb hH
    have ow1 : Ow b H0 F1 a := ⟨ow.nb, by rw [s1.fz a _ hH]; exact ow.nf, ow.n0⟩
    have im1 := im.same (s1.same w.le)
    obtain ⟨v, hv, _⟩ := im1.getD h5
    obtain ⟨w2, s2, r2⟩ := own_mut w1 (s.trans s1) (r.step s1 w.le) e hu ow1 (im1.eraseIdx n)
    exact ⟨a, xs, j, n, v, rfl, rfl, hH1, hz.1, hz.2, by rw [im1.length]; exact h4, hv, k F1 _ σ w2 s2 (s1.same w.le) r2⟩
  · cases hm
/-- targets = x.pop() -/
def mPopTo (i : Nat) (mg : MG) : MS := fun ρ β => (slotO ρ[i]?).bind fun ds => (ds[ds.length - 1]?).bind fun z => (mg z (ρ.set i (.own ds.dropLast))).map fun ρ' => (.nx, ρ', β)
theorem evs_popTo (i : Nat) {x : Str} (hg : EvG G X tg g mg is) (hN : X.N[i]? = some x := by rfl) (hvis : Vis X.env.scope x := by first | exact Or.inl rfl | exact Or.inr (Or.inl rfl) | exact Or.inr (Or.inr rfl)) (hd : (x == ("__debug__" : Str)) = false := by decide)
    (hcd : (x == ("__classdict__" : Str)) = false := by decide) (hline : (apos.endLine == cpos.line) = true := by rfl)
    (hs : swapsWithSole [tg] (.Call (.Attribute (.Name x p) "pop" apos) [] [] cpos) pos.line X.env = pure false := by rfl) (hw : swappedStores [tg] (.Call (.Attribute (.Name x p) "pop" apos) [] [] cpos) X.env = pure none := by rfl)
    (h1 : (assignEach [tg] X.env).map (·.2) = [assign tg X.env] := by rfl) :
    EvS G X (.Assign [tg] (.Call (.Attribute (.Name x p) "pop" apos) [] [] cpos) pos) (tAsg (tBM0 G.K "list" rPop (tVar i)) g) (mPopTo i mg) := by
  refine ⟨fun c => by have h := ps_asg (X := X) (pos := pos) (pe_bm0 (X := X) PySem.F.plainAttrs_list PySem.F.slot_list_pop PySem.F.type_list_pop mt_pop (pe_var (pos := p) hN hvis hd hcd) (by rfl) hline) (hg.pe c) hs hw h1; rw [c.K] at h; exact h, fun b F0 H0 F H ρ β σ o ρ' β' D w w0 s r hm k => ?_⟩
  unfold mPopTo at hm
  obtain ⟨ds, h2, hm⟩ := Option.bind_eq_some_iff.mp hm
  obtain ⟨z, h3, hm⟩ := Option.bind_eq_some_iff.mp hm
  obtain ⟨ρ1, h4, hm⟩ := Option.map_eq_some_iff.mp hm
  cases hm
  have e := slotO_some h2
  rcases r.atS i _ e with q | ⟨u, hu, a, xs, rfl, ow, hH, im⟩
  · cases q
  obtain ⟨v, hv, iv⟩ := im.getD h3
  obtain ⟨w2, s2, r2⟩ := own_mut w s r e hu ow im.dropLast
  refine ⟨.ref a, hu, .inl ⟨rfl, _, SqL.of hH⟩, a, xs, v, rfl, rfl, hH, by rw [im.length]; exact hv, ?_⟩
  exact hg.snd b β H0 F _ _ σ v z _ _ w2 r2 iv h4 fun σ' r' _ => k F _ σ' w2 s2 (Same.refl F) r'
/-- x[j] = e -/
def mLput (i : Nat) (mj mv : ME) : MS := fun ρ β => (mv ρ β).bind fun p => (mj ρ p.2).bind fun q => (slotO ρ[i]?).bind fun ds => (toI q.1).bind fun j => (ixN ds.length j).map fun n => (.nx, ρ.set i (.own (ds.set n p.1)), q.2)
theorem evs_lput (i : Nat) {x : Str} (hj : Ev G imR X e1 t1 m1) (hv : Ev G imR X e2 t2 m2) (hN : X.N[i]? = some x := by rfl) (hvis : Vis X.env.scope x := by first | exact Or.inl rfl | exact Or.inr (Or.inl rfl) | exact Or.inr (Or.inr rfl)) (hd : (x == ("__debug__" : Str)) = false := by decide)
    (hcd : (x == ("__classdict__" : Str)) = false := by decide)
    (ha : ∀ v, assign (.Subscript (.Name x p) e1 p2) X.env v = (do
      let ov ← holding [v] (eval (.Name x p) X.env)
      let iv ← holding [v, ov] (eval e1 X.env)
      standAt p2
      holding [v, ov, iv] (setItem ov iv v)
      release [v, ov, iv] []) := by intro _; rfl)
    (hs : swapsWithSole [.Subscript (.Name x p) e1 p2] e2 pos.line X.env = pure false := by rfl) (hw : swappedStores [.Subscript (.Name x p) e1 p2] e2 X.env = pure none := by rfl)
    (h1 : (assignEach [.Subscript (.Name x p) e1 p2] X.env).map (·.2) = [assign (.Subscript (.Name x p) e1 p2) X.env] := by rfl) :
    EvS G X (.Assign [.Subscript (.Name x p) e1 p2] e2 pos) (tAsg t2 (gSub (tVar i) t1 rSetL)) (mLput i m1 m2) := by
  refine ⟨fun c => ps_asg (hv.pe c) (pg_sub (pe_var hN hvis hd hcd) (hj.pe c) set_list ha) hs hw h1, fun b F0 H0 F H ρ β σ o ρ' β' D w w0 s r hm k => ?_⟩
  unfold mLput at hm
  obtain ⟨⟨y, β1⟩, h1, hm⟩ := Option.bind_eq_some_iff.mp hm
  obtain ⟨⟨z, β2⟩, h2, hm⟩ := Option.bind_eq_some_iff.mp hm
  obtain ⟨ds, h3, hm⟩ := Option.bind_eq_some_iff.mp hm
  obtain ⟨j, h4, hm⟩ := Option.bind_eq_some_iff.mp hm
  obtain ⟨n, h5, hm⟩ := Option.map_eq_some_iff.mp hm
  cases hm
  have ez : z = .int j := toI_some h4
  subst ez
  have e := slotO_some h3
  refine hv.snd b H0 F H ρ β σ y _ _ w r h1 fun v F1 H1 w1 s1 iv => ?_
  have r1 := r.step s1 w.le
  rcases r1.atS i _ e with q | ⟨u, hu, a, xs, rfl, ow, hH, im⟩
  · cases q
  refine ⟨.ref a, hu, hj.snd b H0 F1 H1 ρ β1 σ _ _ _ w1 r1 h2 fun u2 F2 H2 w2 s2 i2 => ?_⟩
  cases i2
  have hH2 := s2.kp ow.nb hH
  have ow2 : Ow b H0 F2 a := ⟨ow.nb, by rw [s2.fz a _ hH]; exact ow.nf, ow.n0⟩
  have im2 := im.same (s2.same w1.le)
  obtain ⟨w3, s3, r3⟩ := own_mut w2 (s.trans (s1.trans s2)) (r1.step s2 w1.le) e hu ow2 (im2.set (Im.same (s2.same w1.le) iv) n)
  exact ⟨a, xs, j, n, rfl, rfl, hH2, by rw [im2.length]; exact h5, k F2 _ σ w3 s3 ((s1.trans s2).same w.le) r3⟩
/-! ### loops -/
def forGo (mg : MG) (mb : MS) : List D → MS
  | [], ρ, β => some (.nx, ρ, β)
  | d :: r, ρ, β => (mg d ρ).bind fun ρ1 => (mb ρ1 β).bind fun p => match p.1 with
    | .nx => forGo mg mb r p.2.1 p.2.2
    | .ct => forGo mg mb r p.2.1 p.2.2
    | .bk => some (.nx, p.2.1, p.2.2)
    | .rt d => some (.rt d, p.2.1, p.2.2)
def mFor (mi : ML) (mg : MG) (mb : MS) : MS := fun ρ β => (mi ρ β).bind fun p => forGo mg mb p.1 ρ p.2
theorem snd_for {mgl : Str → Option Value} (hi : SndI mgl false wi mi) (hg : SndG mgl g mg is) (hb : SndS mgl ts ms) : SndS mgl (tFor wi g ts) (mFor mi mg ms) := fun b F0 H0 F H ρ β σ o ρ' β' D w w0 s r hm k => by
  unfold mFor at hm
  obtain ⟨⟨ds, β1⟩, h1, h2⟩ := Option.bind_eq_some_iff.mp hm
  refine hi b H0 F H ρ β σ ds β1 _ w r h1 fun J F1 H1 Gd Y w1 s1 wk hG hY => ?_
  have f01 := s1.same w.le
  refine for_it wk (fun i σc Hc => ∃ (Fc : Hp) (βc : Bag) (ρc : List Slot), Wd b βc Fc Hc ∧ Stp b F0 H0 Fc Hc ∧ Same F1 Fc ∧ Rep mgl b H0 Fc Hc ρc σc ∧ forGo mg ms (ds.drop i) ρc βc = some (o, ρ', β')) ?_ (fun i σc Hc _ p => ?_) (fun i x σc Hc Hx hlt p y => ?_) fun σc Hc p => ?_
  · exact ⟨F1, β1, ρ, w1, s.trans s1, Same.refl F1, r.step s1 w.le, by rw [List.drop_zero]; exact h2⟩
  · obtain ⟨Fc, βc, ρc, wc, sc, fc, _⟩ := p
    exact hG Fc Hc ⟨fc, wc.le, fun z => nomatch z⟩
  · obtain ⟨Fc, βc, ρc, wc, sc, fc, rc, hgo⟩ := p
    obtain ⟨F3, d, s3, w3, hd, ix⟩ := hY i βc Fc Hc x Hx hlt ⟨fc, wc.le, fun z => nomatch z⟩ wc y
    rw [drop_get hd] at hgo
    unfold forGo at hgo
    obtain ⟨ρ1, g1, hgo⟩ := Option.bind_eq_some_iff.mp hgo
    obtain ⟨⟨o2, ρ2, β2⟩, g2, hgo⟩ := Option.bind_eq_some_iff.mp hgo
    have f3 := fc.trans (s3.same wc.le)
    refine hg b βc H0 F3 Hx ρc σc x d ρ1 _ w3 (rc.step s3 wc.le) ix g1 fun σ1 r1 _ => ?_
    refine hb b F0 H0 F3 Hx ρ1 βc σ1 o2 ρ2 β2 _ w3 w0 (sc.trans s3) r1 g2 fun F4 H4 σ4 w4 s4 f4 r4 => ?_
    cases o2 with
    | nx => exact ⟨F4, β2, ρ2, w4, s4, f3.trans f4, r4, hgo⟩
    | ct => exact ⟨F4, β2, ρ2, w4, s4, f3.trans f4, r4, hgo⟩
    | bk => cases hgo; exact k F4 H4 σ4 w4 s4 (f01.trans (f3.trans f4)) r4
    | rt d => cases hgo; exact k F4 H4 σ4 w4 s4 (f01.trans (f3.trans f4)) r4
  · obtain ⟨Fc, βc, ρc, wc, sc, fc, rc, hgo⟩ := p
    rw [List.drop_length] at hgo
    cases hgo
    exact k Fc Hc σc wc sc (f01.trans fc) rc
theorem evs_for (hi : EvI G false X tg it wi mi) (hg : EvG G X tg g mg is) (hb : EvB G X body ts ms) (hs : ∀ x, foldedSetIterable it X.env x = pure x := by intro _; rfl) (hp : PassesOwn (model X.prog X.w) X.A X.env X.xe := by exact PassesOwn.never) : EvS G X (.For tg it body [] pos) (tFor wi g ts) (mFor mi mg ms) :=
  ⟨fun c => ps_for hp c.calm (hi.pe c) (hg.pe c) (hb.pe c) hs, snd_for hi.snd hg.snd hb.snd⟩
/-- over an owned list, which is frozen by it -/
def mFzS (i : Nat) (m : MS) : MS := fun ρ β => match ρ[i]? with
  | some (.own ds) => m (ρ.set i (.v (.list ds))) β
  | _ => m ρ β
theorem snd_fz {mgl : Str → Option Value} (i : Nat) (h : SndS mgl ts ms) : SndS mgl ts (mFzS i ms) := fun b F0 H0 F H ρ β σ o ρ' β' D w w0 s r hm k => by
  unfold mFzS at hm
  split at hm
  · rename_i ds e
    rcases r.atS i _ e with z | ⟨u, hu, a, xs, rfl, ow, hH, im⟩
    · cases z
    have sm : Same F (upd F a (.lst xs)) := same_put ow.nf
    exact h b F0 H0 _ H _ β σ o ρ' β' D (w.frz hH ow.nf ow.nb) w0 (s.frz ow.n0) (r.frz (s' := .v (.list ds)) e rfl hu ow (Im.lst upd_same (im.same sm)) rfl) hm fun F' H' σ' w' s' f' r' => k F' H' σ' w' s' (sm.trans f') r'
  · exact h b F0 H0 F H ρ β σ o ρ' β' D w w0 s r hm k
theorem EvS.fz (i : Nat) (h : EvS G X st ts ms) : EvS G X st ts (mFzS i ms) := ⟨h.pe, snd_fz i h.snd⟩
def whGo (mt : MT) (mb : MS) : Nat → MS
  | 0, _, _ => none
  | n + 1, ρ, β => (mt ρ β).bind fun p => if p.1 = true then (mb ρ p.2).bind fun q => match q.1 with
      | .nx => whGo mt mb n q.2.1 q.2.2
      | .ct => whGo mt mb n q.2.1 q.2.2
      | .bk => some (.nx, q.2.1, q.2.2)
      | .rt d => some (.rt d, q.2.1, q.2.2)
    else some (.nx, ρ, p.2)
theorem snd_while {mgl : Str → Option Value} (n : Nat) (ht : SndT mgl tt mt) (hb : SndS mgl ts ms) : SndS mgl (tWhile tt ts) (whGo mt ms n) := fun b F0 H0 F H ρ β σ o ρ' β' D w w0 s r hm k => by
  refine ⟨fun m σc Hc => ∃ (Fc : Hp) (βc : Bag) (ρc : List Slot), Wd b βc Fc Hc ∧ Stp b F0 H0 Fc Hc ∧ Same F Fc ∧ Rep mgl b H0 Fc Hc ρc σc ∧ whGo mt ms m ρc βc = some (o, ρ', β'), ⟨n, F, β, ρ, w, s, Same.refl F, r, hm⟩, ?_⟩
  rintro m σc Hc ⟨Fc, βc, ρc, wc, sc, fc, rc, hgo⟩
  cases m with
  | zero => cases hgo
  | succ m =>
    unfold whGo at hgo
    obtain ⟨⟨c, β1⟩, g1, hgo⟩ := Option.bind_eq_some_iff.mp hgo
    refine ht b H0 Fc Hc ρc βc σc c β1 _ wc rc g1 fun F1 H1 w1 s1 => ?_
    have f1 := fc.trans (s1.same wc.le)
    rcases iteB hgo with ⟨hc, hgo'⟩ | ⟨hc, hgo'⟩
    · have hc' : c = true := hc
      subst hc'
      obtain ⟨⟨o2, ρ2, β2⟩, g2, hgo'⟩ := Option.bind_eq_some_iff.mp hgo'
      refine iteT ⟨fun σ' H' => ∃ (Fc : Hp) (βc : Bag) (ρc : List Slot), Wd b βc Fc H' ∧ Stp b F0 H0 Fc H' ∧ Same F Fc ∧ Rep mgl b H0 Fc H' ρc σ' ∧ whGo mt ms m ρc βc = some (o, ρ', β'), fun σ' H' h => ⟨m, Nat.lt_succ_self m, h⟩, ?_⟩
      refine hb b F0 H0 F1 H1 ρc β1 σc o2 ρ2 β2 _ w1 w0 (sc.trans s1) (rc.step s1 wc.le) g2 fun F4 H4 σ4 w4 s4 f4 r4 => ?_
      cases o2 with
      | nx => exact ⟨F4, β2, ρ2, w4, s4, f1.trans f4, r4, hgo'⟩
      | ct => exact ⟨F4, β2, ρ2, w4, s4, f1.trans f4, r4, hgo'⟩
      | bk => cases hgo'; exact k F4 H4 σ4 w4 s4 (f1.trans f4) r4
      | rt d => cases hgo'; exact k F4 H4 σ4 w4 s4 (f1.trans f4) r4
    · have hc' : c = false := hc
      subst hc'
      cases hgo'
      exact iteF (k F1 H1 σc w1 (sc.trans s1) f1 (rc.step s1 wc.le))
theorem evs_while (n : Nat) (ht : EvT G X c tt mt) (hb : EvB G X body ts ms) (hp : PassesOwn (model X.prog X.w) X.A X.env X.xe := by exact PassesOwn.never) : EvS G X (.While c body [] pos) (tWhile tt ts) (whGo mt ms n) :=
  ⟨fun cc => ps_while hp (ht.pe cc) (hb.pe cc), snd_while n ht.snd hb.snd⟩
/-- amounts[k], x, y = e1, e2, e3 -/
def mDpar (i j l : Nat) (mk : ME) (m1 : ME) (x2 x3 : MX) : MS := fun ρ β => (m1 ρ β).bind fun p => (x2 ρ p.2).bind fun q => (x3 ρ q.2).bind fun t => (mk ρ t.2).bind fun z => (slotK ρ[i]?).bind fun kvs => (keyD z.1).bind fun k => if kvs.length < sizeLine then some (.nx, ((ρ.set i (.dk (putA kvs k p.1))).set j q.1).set l t.1, z.2) else none
theorem evs_dpar (i j l : Nat) {x y z : Str} {kt k2 : Nat} {tk0 : TE} {mk0 : ME} (hN : X.N.Nodup) (hk : Ev G imR X e tk0 mk0) (h1 : Ev G imR X e1 t1 m1) (h2 : EvX G X e2 t2 x2) (h3 : EvX G X e3 t3 x3) (hi : X.N[i]? = some x := by rfl) (hj : X.N[j]? = some y := by rfl) (hl : X.N[l]? = some z := by rfl) (hij : i ≠ j := by decide) (hil : i ≠ l := by decide) (hjl : j ≠ l := by decide)
    (hvis : Vis X.env.scope x := by first | exact Or.inl rfl | exact Or.inr (Or.inl rfl) | exact Or.inr (Or.inr rfl)) (hd : (x == ("__debug__" : Str)) = false := by decide) (hcd : (x == ("__classdict__" : Str)) = false := by decide)
    (hy : X.env.scope.names.lookup y = some .local := by rfl) (hz : X.env.scope.names.lookup z = some .local := by rfl)
    (ha : ∀ v, assign (.Subscript (.Name x px) e p2) X.env v = (do
      let ov ← holding [v] (eval (.Name x px) X.env)
      let iv ← holding [v, ov] (eval e X.env)
      standAt p2
      holding [v, ov, iv] (setItem ov iv v)
      release [v, ov, iv] []) := by intro _; rfl)
    (hs : swapsWithSole [.Tuple [.Subscript (.Name x px) e p2, .Name y py, .Name z pz] kt pt] (.Tuple [e1, e2, e3] k2 pt2) pos.line X.env = pure false := by rfl) (hw : swappedStores [.Tuple [.Subscript (.Name x px) e p2, .Name y py, .Name z pz] kt pt] (.Tuple [e1, e2, e3] k2 pt2) X.env = pure none := by rfl)
    (ht : (assignEach [.Tuple [.Subscript (.Name x px) e p2, .Name y py, .Name z pz] kt pt] X.env).map (·.2) = [assign (.Tuple [.Subscript (.Name x px) e p2, .Name y py, .Name z pz] kt pt) X.env] := by rfl)
    (ht1 : (assignEach [.Subscript (.Name x px) e p2, .Name y py, .Name z pz] X.env).map (·.2) = assign (.Subscript (.Name x px) e p2) X.env :: (assignEach [.Name y py, .Name z pz] X.env).map (·.2) := by rfl)
    (ht2 : (assignEach [.Name y py, .Name z pz] X.env).map (·.2) = assign (.Name y py) X.env :: (assignEach [.Name z pz] X.env).map (·.2) := by rfl)
    (ht3 : (assignEach [.Name z pz] X.env).map (·.2) = assign (.Name z pz) X.env :: (assignEach [] X.env).map (·.2) := by rfl)
    (ht4 : (assignEach [.Subscript (.Name x px) e p2, .Name y py, .Name z pz] X.env).length = 3 := by rfl) (ht5 : (assignEach [.Subscript (.Name x px) e p2, .Name y py, .Name z pz] X.env).findIdx? (·.1) = none := by rfl)
    (hs0 : starEach [e1, e2, e3] X.env = (false, eval e1 X.env) :: starEach [e2, e3] X.env := by rfl) (hs1 : starEach [e2, e3] X.env = (false, eval e2 X.env) :: starEach [e3] X.env := by rfl) (hs2 : starEach [e3] X.env = (false, eval e3 X.env) :: starEach [] X.env := by rfl) :
    EvS G X (.Assign [.Tuple [.Subscript (.Name x px) e p2, .Name y py, .Name z pz] kt pt] (.Tuple [e1, e2, e3] k2 pt2) pos) (tAsg (tTup (tCons t1 (tCons t2 (tCons t3 tNil)))) (gTup G.K 3 (gCons (gSub (tVar i) tk0 _root_.G.rSetD) (gCons (gName j) (gCons (gName l) gNil))))) (mDpar i j l mk0 m1 x2 x3) := by
  refine ⟨fun c => ?_, fun b F0 H0 F H ρ β σ o ρ' β' D w w0 s r hm k => ?_⟩
  · have h := ps_asg (X := X) (pos := pos) (pe_tup (x1 := k2) (pos := pt2) (pa_cons (h1.pe c) (pa_cons (h2.pe c) (pa_cons (h3.pe c) pa_nil hs2) hs1) hs0)) (pg_tup (k := kt) (pos := pt) c.calm (pgs_cons (pg_sub (pe_var (pos := px) hi hvis hd hcd) (hk.pe c) (_root_.G.set_dict (hu_of c.room)) ha) (pgs_cons (pg_name hN hj (.inl hy) (.inr hy)) (pgs_cons (pg_name hN hl (.inl hz) (.inr hz)) pgs_nil ht3) ht2) ht1) ht4 ht5) hs hw ht
    rw [c.K] at h
    exact h
  unfold mDpar at hm
  obtain ⟨⟨d1, β1⟩, q1, hm⟩ := Option.bind_eq_some_iff.mp hm
  obtain ⟨⟨s2, β2⟩, q2, hm⟩ := Option.bind_eq_some_iff.mp hm
  obtain ⟨⟨s3, β3⟩, q3, hm⟩ := Option.bind_eq_some_iff.mp hm
  obtain ⟨⟨d4, β4⟩, q4, hm⟩ := Option.bind_eq_some_iff.mp hm
  obtain ⟨kvs, q5, hm⟩ := Option.bind_eq_some_iff.mp hm
  obtain ⟨kk, q6, hm⟩ := Option.bind_eq_some_iff.mp hm
  split at hm
  · rename_i hz
    cases hm
    have es := slotK_some q5
    refine h1.snd b H0 F H ρ β σ d1 β1 _ w r q1 fun u1 F1 H1 w1 z1 i1 => ?_
    have r1 := r.step z1 w.le
    refine h2.snd b H0 F1 H1 ρ β1 σ s2 _ _ w1 r1 q2 fun u2 F2 H2 w2 z2 i2 => ?_
    have r2 := r1.step z2 w1.le
    refine h3.snd b H0 F2 H2 ρ β2 σ s3 _ _ w2 r2 q3 fun u3 F3 H3 w3 z3 i3 => ?_
    have r3 := r2.step z3 w2.le
    refine ⟨by show 3 ≤ sizeLine; decide, fun tp htp => ⟨tp, _, rfl, SqT.of upd_same, rfl, u1, [u2, u3], rfl, ?_⟩⟩
    have zt : Stp b F3 H3 F3 (upd H3 tp (.tup [u1, u2, u3])) := Stp.own htp
    have wt : Wd b β3 F3 (upd H3 tp (.tup [u1, u2, u3])) := w3.own (w3.fnone htp) (w3.ne htp)
    have rt := r3.step zt w3.le
    rcases rt.atS i _ es with q | ⟨u, hu, a, ks, rfl, ow, hH, im⟩
    · cases q
    refine ⟨.ref a, hu, hk.snd b H0 F3 _ ρ β3 σ d4 _ _ wt rt q4 fun u4 F4 H4 w4 z4 i4 => ?_⟩
    have hH4 := z4.kp ow.nb hH
    have ow4 : Ow b H0 F4 a := ⟨ow.nb, by rw [z4.fz a _ hH]; exact ow.nf, ow.n0⟩
    have ek := keyD_im (b := b) (H := H4) (.inl i4) q6
    subst ek
    have im4 := im.same (z4.same wt.le)
    have zz := (z1.trans z2).trans (z3.trans (zt.trans z4))
    have iv : Im F4 u1 d1 := Im.same (((z2.trans z3).trans (zt.trans z4)).same w1.le) i1
    refine ⟨a, _, rfl, DPut.k hH4 (by rw [im4.length]; exact hz), u2, [u3], rfl, u3, [], rfl, rfl, ?_⟩
    have r2' := r1.setX j (free0 (s.trans z1)) z2 w1.le i2
    have r3' := r2'.setX l (free0 ((s.trans z1).trans z2)) z3 w2.le i3
    have r4' := (r3'.step zt w3.le).step z4 wt.le
    have es' : ((ρ.set j s2).set l s3)[i]? = some (.dk kvs) := by
      rw [List.getElem?_set, if_neg (Ne.symm hil), List.getElem?_set, if_neg (Ne.symm hij)]
      exact es
    have hu' : ((σ.set j (some u2)).set l (some u3))[i]? = some (some (.ref a)) := by
      rw [List.getElem?_set, if_neg (Ne.symm hil), List.getElem?_set, if_neg (Ne.symm hij)]
      exact hu
    have r5 := r4'.mut (s' := .dk (putA kvs kk d1)) es' rfl hu' ow4 ⟨a, _, rfl, ow4, upd_same, im4.put iv⟩ rfl
    rw [List.set_comm _ _ (Ne.symm hil), List.set_comm _ _ (Ne.symm hij)] at r5
    exact k F4 _ _ (w4.own ow4.nf ow4.nb) ((s.trans zz).mut ow.n0) (zz.same w.le) r5
  · cases hm
end
/-! ### defs -/
def fnM (n nl : Nat) (ms : MS) : Fn := fun ss β => if ss.length = n then (ms (ss ++ List.replicate nl .no) β).bind fun p => match p.1 with
    | .rt d => some (d, p.2.2)
    | .nx => some (.none, p.2.2)
    | _ => none
  else none
theorem fnM_len {n nl : Nat} {ms : MS} (ss : List Slot) (β : Bag) (d : D) (β' : Bag) (h : fnM n nl ms ss β = some (d, β')) : ss.length = n := by
  unfold fnM at h
  split at h
  · assumption
  · cases h
theorem rep_start {mg : Str → Option Value} {b : Addr} {H0 F H : Hp} {ss : List Slot} {vs : List V} (n : Nat) (a : ArgsR mg b F ss vs) : Rep mg b H0 F H (ss ++ List.replicate n .no) (vs.map some ++ List.replicate n none) := by
  induction a with
  | nil =>
    refine ⟨by simp, fun i s e => ?_, fun i j s t a e1 e2 o1 o2 => ?_⟩
    · rw [List.nil_append, List.getElem?_replicate] at e
      split at e
      · cases e; exact .inl rfl
      · cases e
    · rw [List.nil_append, List.getElem?_replicate] at e1
      split at e1
      · cases e1; cases o1
      · cases e1
  | v i t ih => exact rep_cons ih (s := .v _) rfl i
  | bag t ih => exact rep_cons ih (s := .bag) rfl rfl
  | fn h t ih => exact rep_cons ih (s := .fn _) rfl ⟨_, h, rfl⟩
where
  rep_cons {mg : Str → Option Value} {b : Addr} {H0 F H : Hp} {ρ : List Slot} {σ : L2.St} {s : Slot} {u : V} (r : Rep mg b H0 F H ρ σ) (hs : s.isOwn = false) (q : SlotR mg b H0 F H s u) : Rep mg b H0 F H (s :: ρ) (some u :: σ) := by
    refine ⟨by rw [List.length_cons, List.length_cons, r.len], fun i t e => ?_, fun i j t t' a e1 e2 o1 o2 h1 h2 => ?_⟩
    · cases i with
      | zero => simp at e; subst e; exact .inr ⟨u, rfl, q⟩
      | succ i => simpa using r.atS i t (by simpa using e)
    · cases i with
      | zero => simp at e1; subst e1; rw [hs] at o1; cases o1
      | succ i =>
        cases j with
        | zero => simp at e2; subst e2; rw [hs] at o2; cases o2
        | succ j => rw [r.inj i j t t' a (by simpa using e1) (by simpa using e2) o1 o2 (by simpa using h1) (by simpa using h2)]
abbrev cxM (G : Gx) (N : List Str) (x : Str) (st : Stmt) (f : Addr) (cdv : Value) (A : Around) (outer : List Env) (s : Shared) (H : Hp) (E : XK) : Cx := (cxOf CX0 G.P G.w G.K G.mg G.base N x (defScope st) f cdv A outer s H E).nox
/-- THE RULE of a def -/
theorem has_def {G : Gx} {x : Str} {st : Stmt} {N ps : List Str} {nl : Nat} {ms : MS} (F : ∃ f fd, _root_.G.At G.K G.mg x st f fd) (S : FnScope N ps (defScope st)) (hl : N.length = ps.length + nl := by rfl)
    (bd : ∀ (kV doc pm : Value) (an : Option Addr) (cdv ct : Value) (us : List Value), us.length = ps.length → bindArgs (PySem.W.fnOf x x (defArgs st) (defBody st) (defScope st) .none kV doc pm an cdv ct) ⟨us, []⟩ = pure (ps.zip us))
    (hb : ∀ (f : Addr) (cdv : Value) (A : Around) (outer : List Env) (s : Shared) (H : Hp) (E : XK), ∃ ts, EvB G (cxM G N x st f cdv A outer s H E) (defBody st) ts ms) : HasM G (G.lv + 1) x ps (fnM ps.length nl ms) := by
  refine _root_.G.mkHas F S bd (fun vs H Q E h => ?_) (fun f cdv A outer s H vs Q E hr h => ?_)
  · obtain ⟨_, _, _, _, _, _, h, _⟩ := h
    exact h
  obtain ⟨b, F, β, ss, d, β', hlen, w, as, hm, k⟩ := h
  obtain ⟨ts, T⟩ := hb f cdv A outer s H E
  refine ⟨ts, T.pe ⟨rfl, rfl, rfl, rfl, rfl, rfl, hr⟩, ?_⟩
  unfold fnM at hm
  split at hm
  · obtain ⟨⟨o, ρ', β2⟩, h1, hm⟩ := Option.bind_eq_some_iff.mp hm
    have r : Rep G.mg b H F H (ss ++ List.replicate nl .no) (L2.start N vs) := by
      have e : N.length - vs.length = nl := by omega
      unfold L2.start
      rw [e]
      exact rep_start nl as
    refine T.snd b F H F H _ β _ o ρ' β2 _ w w.le Stp.refl r h1 fun F' H' σ' w' s' f' r' => ?_
    cases o with
    | rt d' => cases hm; exact fun u i => k u F' H' w' s' i
    | nx => cases hm; exact k .non F' H' w' s' .non
    | bk => cases hm
    | ct => cases hm
  · cases hm
/-- a def that only returns -/
theorem has_retR {G : Gx} {R : VR} {x : Str} {st : Stmt} {N ps : List Str} {nl : Nat} {m : ME} {e : Expr} {pos : Pos} (F : ∃ f fd, _root_.G.At G.K G.mg x st f fd) (S : FnScope N ps (defScope st)) (he : defBody st = [.Return (some e) pos]) (hl : N.length = ps.length + nl := by rfl)
    (bd : ∀ (kV doc pm : Value) (an : Option Addr) (cdv ct : Value) (us : List Value), us.length = ps.length → bindArgs (PySem.W.fnOf x x (defArgs st) (defBody st) (defScope st) .none kV doc pm an cdv ct) ⟨us, []⟩ = pure (ps.zip us))
    (hb : ∀ (f : Addr) (cdv : Value) (A : Around) (outer : List Env) (s : Shared) (H : Hp) (E : XK), ∃ te, Ev G R (cxM G N x st f cdv A outer s H E) e te m) : HasR G R (G.lv + 1) x ps (fnM ps.length nl (mRet m)) := by
  refine _root_.G.mkHas F S bd (fun vs H Q E h => ?_) (fun f cdv A outer s H vs Q E hr h => ?_)
  · obtain ⟨_, _, _, _, _, _, h, _⟩ := h
    exact h
  obtain ⟨b, F, β, ss, d, β', hlen, w, as, hm, k⟩ := h
  obtain ⟨te, T⟩ := hb f cdv A outer s H E
  rw [he]
  refine ⟨_, pss_one (ps_ret (T.pe ⟨rfl, rfl, rfl, rfl, rfl, rfl, hr⟩)), ?_⟩
  unfold fnM at hm
  split at hm
  · obtain ⟨⟨o, ρ', β2⟩, h1, hm⟩ := Option.bind_eq_some_iff.mp hm
    unfold mRet at h1
    obtain ⟨⟨z, β3⟩, h2, h1⟩ := Option.map_eq_some_iff.mp h1
    cases h1
    cases hm
    have r : Rep G.mg b H F H (ss ++ List.replicate nl .no) (L2.start N vs) := by
      have e : N.length - vs.length = nl := by omega
      unfold L2.start
      rw [e]
      exact rep_start nl as
    exact T.snd b H F H _ β _ _ _ _ w r h2 fun u F' H' w' s' i => k u F' H' w' s' i
  · cases hm
end M
/-! M9: small things: constants of the module, written dicts, two names one of which is a cell. -/
namespace M
open PySem PySem.Spec PyProof.Rows L2
section
variable {G : Gx} {X : Cx} {e e1 e2 : Expr} {te t1 t2 : TE} {m m1 m2 : ME} {x1 x2 : MX} {pos p px py pt pt2 : Pos}
theorem ev_gintE {x : Str} {i : Int} (hm : ∃ t, G.mg x = some (.int i t)) (hg : Gl X x := by rfl) (hd : (x == ("__debug__" : Str)) = false := by decide) : Ev G imR X (.Name x pos) (tC (.int i)) (mC (.int i)) := let ⟨_, h⟩ := hm; ev_gint h hg hd
theorem ev_gstrE {x i : Str} (hm : ∃ t, G.mg x = some (.str i t)) (hg : Gl X x := by rfl) (hd : (x == ("__debug__" : Str)) = false := by decide) : Ev G imR X (.Name x pos) (tC (.str i)) (mC (.str i)) := let ⟨_, h⟩ := hm; ev_gstr h hg hd
theorem ev_dict0 : Ev G imR X (.Dict [] [] pos) tDNewK (mC (.dict [])) := ⟨fun _ => pe_dnewK, fun b H0 F H ρ β σ d β' Q w rp hm k => by
  cases hm
  exact fun p hp => k _ _ _ (w.put hp) (Stp.put hp) (.dct upd_same)⟩
def mD1 (m1 m2 : ME) : ME := fun ρ β => (m1 ρ β).bind fun p => (m2 ρ p.2).bind fun q => (keyD p.1).map fun _ => (.dict [], q.2)
/-- {k: v}, a text or an int its key -/
theorem ev_dict1 (hk : Ev G imR X e1 t1 m1) (hv : Ev G imR X e2 t2 m2) : Ev G imR X (.Dict [some e1] [e2] pos) (tDisp [(t1, t2)]) (mD1 m1 m2) := by
  refine ⟨fun c => pe_disp (pps_cons (hk.pe c) (hv.pe c) pps_nil) rfl rfl (fun z => by cases z) (by show 1 ≤ 15; decide), fun b H0 F H ρ β σ d β' Q w rp hm k => ?_⟩
  unfold mD1 at hm
  obtain ⟨⟨x, β1⟩, h1, hm⟩ := Option.bind_eq_some_iff.mp hm
  obtain ⟨⟨y, β2⟩, h2, hm⟩ := Option.bind_eq_some_iff.mp hm
  obtain ⟨kk, h3, hm⟩ := Option.map_eq_some_iff.mp hm
  cases hm
  intro lo hlo
  have hb := w.ne hlo
  have hf := w.fnone hlo
  have w0 : Wd b β F (upd H lo (.dK [])) := w.own hf hb
  have s0 : Stp b F H F (upd H lo (.dK [])) := Stp.own hlo
  have r0 := (rp.step s0 w.le)
  refine hk.snd b H0 F _ ρ β σ x _ _ w0 r0 h1 fun u F1 H1 w1 s1 i1 => ?_
  refine hv.snd b H0 F1 H1 ρ β1 σ y _ _ w1 (r0.step s1 w0.le) h2 fun v F2 H2 w2 s2 i2 => ?_
  have hl1 := s1.kp hb upd_same
  have hl2 := s2.kp hb hl1
  have f2 : F2 lo = none := by rw [s2.fz lo _ hl1, s1.fz lo _ upd_same]; exact hf
  have ek := keyD_im (b := b) (H := H1) (.inl i1) h3
  subst ek
  refine ⟨hl2, [(kk, v)], rfl, by show 1 ≤ 15; decide, ?_⟩
  have w3 := w2.own (o := .dK (mergeK [] [(kk, v)])) f2 hb
  have s3 := ((s0.trans s1).trans s2).mut (o := .dK (mergeK [] [(kk, v)])) hlo
  exact k _ _ _ (w3.frz upd_same f2 hb) (s3.frz hlo) (.dct upd_same)
/-- a, b = e1, e2 by a tuple (one of them is a cell) -/
theorem evs_asgX2 (i j : Nat) {x y : Str} {kt k2 : Nat} (hN : X.N.Nodup) (h1 : EvX G X e1 t1 x1) (h2 : EvX G X e2 t2 x2) (hi : X.N[i]? = some x := by rfl) (hj : X.N[j]? = some y := by rfl)
    (hx : Loc X.env.scope x := by first | exact Or.inl rfl | exact Or.inr rfl) (hfx : X.fn x = true ∨ X.env.scope.names.lookup x = some .local := by first | exact .inl rfl | exact .inr rfl) (hy : Loc X.env.scope y := by first | exact Or.inl rfl | exact Or.inr rfl) (hfy : X.fn y = true ∨ X.env.scope.names.lookup y = some .local := by first | exact .inl rfl | exact .inr rfl)
    (hs : swapsWithSole [.Tuple [.Name x px, .Name y py] kt pt] (.Tuple [e1, e2] k2 pt2) pos.line X.env = pure false := by rfl) (hw : swappedStores [.Tuple [.Name x px, .Name y py] kt pt] (.Tuple [e1, e2] k2 pt2) X.env = pure none := by rfl)
    (ht : (assignEach [.Tuple [.Name x px, .Name y py] kt pt] X.env).map (·.2) = [assign (.Tuple [.Name x px, .Name y py] kt pt) X.env] := by rfl)
    (ht2 : (assignEach [.Name x px, .Name y py] X.env).map (·.2) = assign (.Name x px) X.env :: (assignEach [.Name y py] X.env).map (·.2) := by rfl)
    (ht3 : (assignEach [.Name y py] X.env).map (·.2) = assign (.Name y py) X.env :: (assignEach [] X.env).map (·.2) := by rfl)
    (ht4 : (assignEach [.Name x px, .Name y py] X.env).length = 2 := by rfl) (ht5 : (assignEach [.Name x px, .Name y py] X.env).findIdx? (·.1) = none := by rfl)
    (hs1 : starEach [e1, e2] X.env = (false, eval e1 X.env) :: starEach [e2] X.env := by rfl) (hs2 : starEach [e2] X.env = (false, eval e2 X.env) :: starEach [] X.env := by rfl) :
    EvS G X (.Assign [.Tuple [.Name x px, .Name y py] kt pt] (.Tuple [e1, e2] k2 pt2) pos) (tAsg (tTup (tCons t1 (tCons t2 tNil))) (gTup G.K 2 (gCons (gName i) (gCons (gName j) gNil)))) (mPar2 i j x1 x2) := by
  refine ⟨fun c => ?_, fun b F0 H0 F H ρ β σ o ρ' β' D w w0 s r hm k => ?_⟩
  · have h := ps_asg (X := X) (pos := pos) (pe_tup (x1 := k2) (pos := pt2) (pa_cons (h1.pe c) (pa_cons (h2.pe c) pa_nil hs2) hs1)) (pg_tup (k := kt) (pos := pt) c.calm (pgs_cons (pg_name (pos := px) hN hi hx hfx) (pgs_cons (pg_name (pos := py) hN hj hy hfy) pgs_nil ht3) ht2) ht4 ht5) hs hw ht
    rw [c.K] at h
    exact h
  unfold mPar2 at hm
  obtain ⟨⟨s1, β1⟩, q1, hm⟩ := Option.bind_eq_some_iff.mp hm
  obtain ⟨⟨s2, β2⟩, q2, hm⟩ := Option.map_eq_some_iff.mp hm
  cases hm
  refine h1.snd b H0 F H ρ β σ s1 β1 _ w r q1 fun u1 F1 H1 w1 z1 i1 => ?_
  refine h2.snd b H0 F1 H1 ρ β1 σ s2 _ _ w1 (r.step z1 w.le) q2 fun u2 F2 H2 w2 z2 i2 => ?_
  refine ⟨by show 2 ≤ sizeLine; decide, fun tp htp => ⟨tp, _, rfl, SqT.of upd_same, rfl, u1, [u2], rfl, u2, [], rfl, rfl, ?_⟩⟩
  have zt : Stp b F2 H2 F2 (upd H2 tp (.tup [u1, u2])) := Stp.own htp
  have wt := w2.own (o := .tup [u1, u2]) (w2.fnone htp) (w2.ne htp)
  have r1 := r.setX i (free0 s) z1 w.le i1
  have r2 := (r1.setX j (free0 (s.trans z1)) z2 w1.le i2).step zt w2.le
  exact k F2 _ _ wt (s.trans ((z1.trans z2).trans zt)) (((z1.trans z2).trans zt).same w.le) r2
theorem evb_never {sts : List Stmt} : EvB G X sts tNever mNev := ⟨fun _ => pss_never, fun b F0 H0 F H ρ β σ o ρ' β' D w w0 s r hm k => by cases hm⟩
/-! ### the bag's cells -/
def bagD (β : Bag) : Nat → Option D
  | 0 => some (.int β.n)
  | 1 => some (.int β.m)
  | 2 => some (.int β.k)
  | 3 => some (.list (β.cells.map .int))
  | _ => none
def mBg (i j : Nat) : ME := fun ρ β => match ρ[i]? with
  | some .bag => (bagD β j).map fun d => (d, β)
  | _ => none
theorem bag_at {b : Addr} {β : Bag} {F H : Hp} {j : Nat} {d : D} (w : Wd b β F H) (h : bagD β j = some d) : ∃ xs v, H b = some (.lst xs) ∧ atI xs (j : Int) = some v ∧ Im F v d := by
  obtain ⟨c, h1, h2, h3⟩ := w.bag
  match j, h with
  | 0, h => cases h; exact ⟨_, .int β.n, h1, rfl, .int _⟩
  | 1, h => cases h; exact ⟨_, .int β.m, h1, rfl, .int _⟩
  | 2, h => cases h; exact ⟨_, .int β.k, h1, rfl, .int _⟩
  | 3, h => cases h; exact ⟨_, .ref c, h1, rfl, .lst h3 (ImA.ints _)⟩
theorem ev_bag (i j : Nat) {x : Str} {kk : Nat} (hN : X.N[i]? = some x := by rfl) (hv : Vis X.env.scope x := by first | exact Or.inl rfl | exact Or.inr (Or.inl rfl) | exact Or.inr (Or.inr rfl)) (hd : (x == ("__debug__" : Str)) = false := by decide)
    (hcd : (x == ("__classdict__" : Str)) = false := by decide) : Ev G imR X (.Subscript (.Name x p) (.Constant (.int (j : Int)) kk px) pos) (tOp (rIxL G.K) (tVar i) (tC (.int (j : Int)))) (mBg i j) := by
  refine ⟨fun c => by have h := pe_ix (X := X) (pos := pos) ix_list (pe_var (pos := p) hN hv hd hcd) (pe_int (i := (j : Int)) (j := kk) (pos := px)) (fun _ _ => rfl); rw [c.K] at h; exact h, fun b H0 F H ρ β σ d β' Q w rp hm k => ?_⟩
  unfold mBg at hm
  split at hm
  · rename_i e
    obtain ⟨z, h1, hm⟩ := Option.map_eq_some_iff.mp hm
    cases hm
    rcases rp.atS i _ e with q | ⟨u, hu, q⟩
    · cases q
    have q : u = .ref b := q
    subst q
    obtain ⟨xs, v, h2, h3, h4⟩ := bag_at w h1
    exact ⟨.ref b, hu, b, xs, (j : Int), v, rfl, rfl, SqL.of h2, h3, k v F H w Stp.refl h4⟩
  · cases hm
def bagS (β : Bag) : Nat → Int → Option Bag
  | 0, v => some ⟨v, β.m, β.k, β.cells, β.small⟩
  | 1, v => some ⟨β.n, v, β.k, β.cells, β.small⟩
  | 2, v => some ⟨β.n, β.m, v, β.cells, β.small⟩
  | _, _ => none
theorem bag_put {mgl : Str → Option Value} {b : Addr} {β β' : Bag} {F0 H0 F H : Hp} {ρ : List Slot} {σ : L2.St} {j : Nat} {v : Int} (w : Wd b β F H) (s : Stp b F0 H0 F H) (r : Rep mgl b H0 F H ρ σ) (h : bagS β j v = some β') :
    ∃ xs, H b = some (.lst xs) ∧ ixN xs.length (j : Int) = some j ∧ Wd b β' F (upd H b (.lst (xs.set j (.int v)))) ∧ Stp b F0 H0 F (upd H b (.lst (xs.set j (.int v)))) ∧ Rep mgl b H0 F (upd H b (.lst (xs.set j (.int v)))) ρ σ := by
  obtain ⟨c, h1, h2, h3⟩ := w.bag
  have sm : ∀ o, Same F (upd H b o) := fun o a u e => by
    rw [upd_ne (fun z => by rw [z, h2] at e; cases e)]
    exact w.le a u e
  have st : ∀ o, Stp b F0 H0 F (upd H b o) := fun o => ⟨fun a u e => by
    obtain ⟨o', e1, e2⟩ := s.keep a u e
    by_cases z : a = b
    · subst z; exact ⟨o, upd_same, fun n => absurd rfl n⟩
    · exact ⟨o', by rw [upd_ne z]; exact e1, e2⟩, s.fz⟩
  have sr : ∀ o, Stp b F H F (upd H b o) := fun o => ⟨fun a u e => by
    by_cases z : a = b
    · subst z; exact ⟨o, upd_same, fun n => absurd rfl n⟩
    · exact ⟨u, by rw [upd_ne z]; exact e, fun _ => rfl⟩, fun _ _ _ => rfl⟩
  match j, h with
  | 0, h => cases h; exact ⟨_, h1, rfl, ⟨sm _, c, upd_same, h2, h3⟩, st _, r.step (sr _) w.le⟩
  | 1, h => cases h; exact ⟨_, h1, rfl, ⟨sm _, c, upd_same, h2, h3⟩, st _, r.step (sr _) w.le⟩
  | 2, h => cases h; exact ⟨_, h1, rfl, ⟨sm _, c, upd_same, h2, h3⟩, st _, r.step (sr _) w.le⟩
def mBgPut (i j : Nat) (m : ME) : MS := fun ρ β => (m ρ β).bind fun p => match ρ[i]? with
  | some .bag => (toI p.1).bind fun v => (bagS p.2 j v).map fun β' => (.nx, ρ, β')
  | _ => none
theorem evs_bagPut (i j : Nat) {x : Str} {kk : Nat} (he : Ev G imR X e te m) (hN : X.N[i]? = some x := by rfl) (hv : Vis X.env.scope x := by first | exact Or.inl rfl | exact Or.inr (Or.inl rfl) | exact Or.inr (Or.inr rfl)) (hd : (x == ("__debug__" : Str)) = false := by decide)
    (hcd : (x == ("__classdict__" : Str)) = false := by decide)
    (ha : ∀ v, assign (.Subscript (.Name x p) (.Constant (.int (j : Int)) kk px) py) X.env v = (do
      let ov ← holding [v] (eval (.Name x p) X.env)
      let iv ← holding [v, ov] (eval (.Constant (.int (j : Int)) kk px) X.env)
      standAt py
      holding [v, ov, iv] (setItem ov iv v)
      release [v, ov, iv] []) := by intro _; rfl)
    (hs : swapsWithSole [.Subscript (.Name x p) (.Constant (.int (j : Int)) kk px) py] e pos.line X.env = pure false := by rfl) (hw : swappedStores [.Subscript (.Name x p) (.Constant (.int (j : Int)) kk px) py] e X.env = pure none := by rfl)
    (h1 : (assignEach [.Subscript (.Name x p) (.Constant (.int (j : Int)) kk px) py] X.env).map (·.2) = [assign (.Subscript (.Name x p) (.Constant (.int (j : Int)) kk px) py) X.env] := by rfl) :
    EvS G X (.Assign [.Subscript (.Name x p) (.Constant (.int (j : Int)) kk px) py] e pos) (tAsg te (gSub (tVar i) (tC (.int (j : Int))) rSetL)) (mBgPut i j m) := by
  refine ⟨fun c => ps_asg (he.pe c) (pg_sub (pe_var hN hv hd hcd) pe_int set_list ha) hs hw h1, fun b F0 H0 F H ρ β σ o ρ' β' D w w0 s r hm k => ?_⟩
  unfold mBgPut at hm
  obtain ⟨⟨y, β1⟩, h1, hm⟩ := Option.bind_eq_some_iff.mp hm
  split at hm
  · rename_i e
    obtain ⟨v, h2, hm⟩ := Option.bind_eq_some_iff.mp hm
    obtain ⟨β2, h3, hm⟩ := Option.map_eq_some_iff.mp hm
    cases hm
    have ey : y = .int v := toI_some h2
    subst ey
    refine he.snd b H0 F H ρ β σ _ _ _ w r h1 fun u F1 H1 w1 s1 iv => ?_
    cases iv
    have r1 := r.step s1 w.le
    rcases r1.atS i _ e with q | ⟨u, hu, q⟩
    · cases q
    have q : u = .ref b := q
    subst q
    obtain ⟨xs, g1, g2, g3, g4, g5⟩ := bag_put w1 (s.trans s1) r1 h3
    exact ⟨.ref b, hu, b, xs, (j : Int), j, rfl, rfl, g1, g2, k F1 _ σ g3 g4 (s1.same w.le) g5⟩
  · cases hm
def mBgAug (i j : Nat) (m : ME) : MS := fun ρ β => match ρ[i]? with
  | some .bag => (bagD β j).bind fun d => (m ρ β).bind fun p => (toI d).bind fun a => (toI p.1).bind fun c => (bagS p.2 j (a + c)).map fun β' => (.nx, ρ, β')
  | _ => none
theorem evs_bagAug (i j : Nat) {x : Str} {kk : Nat} (he : Ev G imR X e te m) (hN : X.N[i]? = some x := by rfl) (hv : Vis X.env.scope x := by first | exact Or.inl rfl | exact Or.inr (Or.inl rfl) | exact Or.inr (Or.inr rfl)) (hd : (x == ("__debug__" : Str)) = false := by decide)
    (hcd : (x == ("__classdict__" : Str)) = false := by decide)
    (ha : ∀ ov iv new, augStore (.Constant (.int (j : Int)) kk px) ov iv new = (do holding [new, ov, iv] (setItem ov iv new); release [new, ov, iv] []; pure .next) := by intros; rfl) :
    EvS G X (.AugAssign (.Subscript (.Name x p) (.Constant (.int (j : Int)) kk px) py) .Add e pos) (tAugS (tVar i) (tC (.int (j : Int))) te (rIxL G.K) (ipI fun i j => i + j) rSetL) (mBgAug i j m) := by
  refine ⟨fun c => by have h := ps_augS (X := X) (pos := pos) (tpos := py) (pe_var (pos := p) hN hv hd hcd) (pe_int (i := (j : Int)) (j := kk) (pos := px)) _root_.G.get_list (he.pe c) ip_add set_list ha; rw [c.K] at h; exact h, fun b F0 H0 F H ρ β σ o ρ' β' D w w0 s r hm k => ?_⟩
  unfold mBgAug at hm
  split at hm
  · rename_i e
    obtain ⟨d, h0, hm⟩ := Option.bind_eq_some_iff.mp hm
    obtain ⟨⟨y, β1⟩, h1, hm⟩ := Option.bind_eq_some_iff.mp hm
    obtain ⟨a, h4, hm⟩ := Option.bind_eq_some_iff.mp hm
    obtain ⟨v, h2, hm⟩ := Option.bind_eq_some_iff.mp hm
    obtain ⟨β2, h3, hm⟩ := Option.map_eq_some_iff.mp hm
    cases hm
    have ey : y = .int v := toI_some h2
    subst ey
    have ed : d = .int a := toI_some h4
    subst ed
    rcases r.atS i _ e with q | ⟨u, hu, q⟩
    · cases q
    have q : u = .ref b := q
    subst q
    obtain ⟨xs, z, f1, f2, f3⟩ := bag_at w h0
    cases f3
    refine ⟨.ref b, hu, b, xs, (j : Int), .int a, rfl, rfl, SqL.of f1, f2, ?_⟩
    refine he.snd b H0 F H ρ β σ _ _ _ w r h1 fun u F1 H1 w1 s1 iv => ?_
    cases iv
    obtain ⟨ys, g1, g2, g3, g4, g5⟩ := bag_put w1 (s.trans s1) (r.step s1 w.le) h3
    exact ⟨a, v, rfl, rfl, b, ys, (j : Int), j, rfl, rfl, g1, g2, k F1 _ σ g3 g4 (s1.same w.le) g5⟩
  · cases hm
end
/-- a def that nobody calls yet -/
theorem has_none {G : Gx} {x : Str} {st : Stmt} {N ps : List Str} (k : Nat) (F : ∃ f fd, _root_.G.At G.K G.mg x st f fd) (S : FnScope N ps (defScope st))
    (bd : ∀ (kV doc pm : Value) (an : Option Addr) (cdv ct : Value) (us : List Value), us.length = ps.length → bindArgs (PySem.W.fnOf x x (defArgs st) (defBody st) (defScope st) .none kV doc pm an cdv ct) ⟨us, []⟩ = pure (ps.zip us)) : HasM G (k + 1) x ps (fun _ _ => none) := by
  refine _root_.G.mkHas F S bd (fun vs H Q E h => ?_) (fun f cdv A outer s H vs Q E hr h => ?_)
  · obtain ⟨_, _, _, _, _, _, h, _⟩ := h
    exact h
  · obtain ⟨_, _, _, _, _, _, _, _, _, h, _⟩ := h
    cases h
end M
namespace K31
open PySem PySem.Spec PyProof.Rows L2 M
def b_is_integer : MS := (mRet (mAndV (mIs isI (mPk 0)) (mNotV (mIs isB (mPk 0)))))
def m_is_integer : Fn := fnM 1 0 b_is_integer
def b_is_tuple_of : MS := (mRet (mAndV (mIs isT (mPk 0)) (mOp eqD (mF lenD (mPk 0)) (mPk 1))))
def m_is_tuple_of : Fn := fnM 2 0 b_is_tuple_of
def b_sort_of : MS := (mSeq (mIfS (mTru (mIs isB (mPk 0))) (mRet (mC (.str "truth"))) (fun ρ β => some (.nx, ρ, β)))
    (mSeq (mIfS (mTru (mIs (fun d => isT d || isL d) (mPk 0))) (mRet (mIf (mTru (mIs isT (mPk 0))) (mC (.str "tuple")) (mC (.str "list")))) (fun ρ β => some (.nx, ρ, β)))
    (mRet (mIf (mTru (mIs isDi (mPk 0))) (mC (.str "dict")) (mC (.str "other"))))))
def m_sort_of : Fn := fnM 1 0 b_sort_of
def b_part_pairs : MS := (mSeq (mIfS (mTru (mIs isDi (mPk 0))) mNev (fun ρ β => some (.nx, ρ, β)))
    (mRet (mIf (mTru (mIs (fun d => isT d || isL d) (mPk 0))) (mLzV (mPk 0) (mPk 1)) (mLst mLn))))
def m_part_pairs : Fn := fnM 2 3 b_part_pairs
def b_bearers : MS := (mRet (mTk (mDc [1] (mIt (mLst (mLc1 (mC (.str "own")) (mLs (mFz (mLc [2] (mIt (mOp ixD (mPk 0) (mC (.int 3)))) (mGn 2) mYes (mOp ixD (mPk 2) (mC (.int 1))))) mLn)))) (mGn 1) mYes (mNm 1) (mC (.bool true)))))
def m_bearers : Fn := fnM 1 2 b_bearers
def b_losses_of : MS := (mRet (mF tupOfD (mFz (mLc2 [1, 2] (mIt (mOp ixD (mPk 0) (mC (.int 1)))) (mGn 1) mYes (mRg1 (mOp addD (mOp ixD (mPk 0) (mC (.int 2))) (mC (.int 1)))) [2] (mGn 2) mYes (mTup (mLc1 (mNm 1) (mLc1 (mNm 2) mLn)))))))
def m_losses_of : Fn := fnM 1 2 b_losses_of
def b_most_used : MS := (mSeq (mIfS (mTest (mOp eqD (mOp ixD (mPk 0) (mC (.int 2))) (mC (.str "stop")))) (mRet (mOp addD (mOp ixD (mPk 0) (mC (.int 4))) (mOp ixD (mPk 0) (mC (.int 5))))) (fun ρ β => some (.nx, ρ, β)))
    (mRet (mIf (mTest (mOp isND (mOp ixD (mPk 0) (mC (.int 6))) (mC .none))) (mC (.int 0)) (mOp ixD (mPk 0) (mC (.int 6))))))
def m_most_used : Fn := fnM 1 0 b_most_used
def b_above : MS := (mRet (mOp minD (mOp ixD (mPk 0) (mC (.int 4))) (mOp maxD (mC (.int 0)) (mOp subD (mPk 1) (mOp ixD (mPk 0) (mC (.int 5)))))))
def m_above : Fn := fnM 2 0 b_above
def b_step_between : MS := (mRet (mF tupOfD (mFz (mLc [2, 3] (mZip (mNm 0) (mNm 1)) (mGt 2 (mGcons (mGn 2) (mGcons (mGn 3) mGnil))) mYes (mOp subD (mPk 3) (mPk 2))))))
def m_step_between : Fn := fnM 2 2 b_step_between
def b_with_steps : MS := (mRet (mF tupOfD (mFz (mLc [3, 4] (mZip (mNm 0) (mNm 1)) (mGt 2 (mGcons (mGn 3) (mGcons (mGn 4) mGnil))) mYes (mOp addD (mPk 3) (mOp mulD (mPk 4) (mPk 2)))))))
def m_with_steps : Fn := fnM 3 2 b_with_steps
def b_turns_of : MS := (mRet (mF tupOfD (mFz (mLc [1] (mIt (mSl slD (mPk 0) (mOs (mC (.int 1))) mOn)) (mGn 1) mYes (mOp ixD (mPk 1) (mC (.int 0)))))))
def m_turns_of : Fn := fnM 1 1 b_turns_of
def b_law_take : MS := (mSeq (mIfS (mTest (mOp eqD (mBg 0 0) (mC (.int 0)))) (mSeq (mSet 2 (mXv (mOp ixD (mOp addD (mSl slD (mBg 0 3) (mOs (mBg 0 2)) mOn) (mLst (mLc1 (mC (.int 0)) mLn))) (mC (.int 0)))))
    (mSeq (mBgAug 0 2 (mC (.int 1)))
    (mSeq (mIfS (mTest (mOp geD (mPk 2) (mOp powD (mC (.int 10)) (mC (.int 18))))) (mBgPut 0 0 (mNm 2)) (fun ρ β => some (.nx, ρ, β)))
    (mSeq (mSet 3 (mXv (mOp addD (mOp addD (mOp mulD (mBg 0 1) (mC (.int 48271))) (mOp modD (mF intD (mPk 2)) (mC (.int 2147483647)))) (mOp mulD (mC (.int 7919)) (mBg 0 2)))))
    (mBgPut 0 1 (mOp modD (mF intD (mPk 3)) (mC (.int 2147483647)))))))) (fun ρ β => some (.nx, ρ, β)))
    (mSeq (mIfS (mTest (mOp gtD (mBg 0 0) (mC (.int 0)))) (mSeq (mSet 4 (mXv (mOp modD (mF intD (mBg 0 0)) (mPk 1))))
    (mSeq (mBgPut 0 0 (mOp fdivD (mF intD (mBg 0 0)) (mPk 1)))
    (mRet (mNm 4)))) (fun ρ β => some (.nx, ρ, β)))
    (mSeq (mSet 5 (mXv (mOp modD (mF intD (mOp mulD (mOp addD (mBg 0 1) (mC (.int 1))) (mC (.int 39373)))) (mC (.int 1000000007)))))
    (mSeq (mSet 6 (mXv (mOp modD (mF intD (mOp mulD (mOp modD (mF intD (mOp mulD (mPk 5) (mPk 5))) (mC (.int 998244353))) (mC (.int 30011)))) (mC (.int 998244353)))))
    (mRet (mOp modD (mF intD (mOp fdivD (mPk 6) (mC (.int 7)))) (mPk 1)))))))
def m_law_take : Fn := fnM 2 5 b_law_take
def b_law_is_int : MS := (mRet (mAndV (mIs isI (mPk 0)) (mNotV (mIs isB (mPk 0)))))
def m_law_is_int : Fn := fnM 1 0 b_law_is_int
def b_law_alike : MS := (mSeq (mPar2 2 3 (mXn (mLd (mLc1 (mTup (mLc1 (mNm 0) (mLc1 (mNm 1) mLn))) mLn))) (mXv (mC (.int 0))))
    (mSeq (whGo (mTest (mOp ltD (mPk 3) (mF lenD (mPk 2)))) (mSeq (mAsg (mOp ixD (mPk 2) (mPk 3)) (mGt 2 (mGcons (mGn 4) (mGcons (mGn 5) mGnil))))
    (mSeq (mAug 3 (i2 fun a b => .int (a + b)) (mC (.int 1)))
    (mSeq (mIfS (mOr (mTest (mOp neD (mIs isB (mPk 4)) (mIs isB (mPk 5)))) (mTest (mOp neD (mIs isS (mPk 4)) (mIs isS (mPk 5))))) (mRet (mC (.bool false))) (fun ρ β => some (.nx, ρ, β)))
    (mSeq (mIfS (mTest (mOp neD (mIs (fun d => isT d || isL d) (mPk 4)) (mIs (fun d => isT d || isL d) (mPk 5)))) (mRet (mC (.bool false))) (fun ρ β => some (.nx, ρ, β)))
    (mIfS (mTru (mIs (fun d => isT d || isL d) (mPk 4))) (mSeq (mIfS (mOr (mTest (mOp neD (mIs isT (mPk 4)) (mIs isT (mPk 5)))) (mTest (mOp neD (mF lenD (mPk 4)) (mF lenD (mPk 5))))) (mRet (mC (.bool false))) (fun ρ β => some (.nx, ρ, β)))
    (mExt 2 (mLzV (mPk 4) (mPk 5)))) (mIfS (mTest (mOp neD (mPk 4) (mPk 5))) (mRet (mC (.bool false))) (fun ρ β => some (.nx, ρ, β)))))))) 1000000)
    (mRet (mC (.bool true)))))
def m_law_alike : Fn := fnM 2 4 b_law_alike
def b_law_bearers : MS := (mSeq (mSet 1 (mXv (mLst (mLc1 (mC (.str "own")) mLn))))
    (mSeq (mFor (mIt (mOp ixD (mPk 0) (mC (.int 3)))) (mGn 2) (mSet 1 (mXv (mOp addD (mPk 1) (mOp mulD (mLst (mLc1 (mOp ixD (mPk 2) (mC (.int 1))) mLn)) (mF intD (mOp (inD true) (mOp ixD (mPk 2) (mC (.int 1))) (mPk 1))))))))
    (mRet (mNm 1))))
def m_law_bearers : Fn := fnM 1 2 b_law_bearers
def b_law_most_used : MS := (mRet (mIf (mTest (mOp eqD (mOp ixD (mPk 0) (mC (.int 2))) (mC (.str "stop")))) (mOp addD (mOp ixD (mPk 0) (mC (.int 4))) (mOp ixD (mPk 0) (mC (.int 5)))) (mIf (mTest (mOp isND (mOp ixD (mPk 0) (mC (.int 6))) (mC .none))) (mC (.int 0)) (mOp ixD (mPk 0) (mC (.int 6))))))
def m_law_most_used : Fn := fnM 1 0 b_law_most_used
def b_law_first : MS := (mRet (mF tupOfD (mFz (mLc [1] (mIt (mOp ixD (mPk 0) (mC (.int 3)))) (mGn 1) mYes (mC (.int 0))))))
def m_law_first : Fn := fnM 1 1 b_law_first
def b_law_losses : MS := (mSeq (mSet 1 (mXv (mLst mLn)))
    (mSeq (mFor (mIt (mOp ixD (mPk 0) (mC (.int 1)))) (mGn 2) (mSet 1 (mXv (mOp addD (mPk 1) (mFz (mLc [3] (mRg1 (mOp addD (mOp ixD (mPk 0) (mC (.int 2))) (mC (.int 1)))) (mGn 3) mYes (mTup (mLc1 (mNm 2) (mLc1 (mNm 3) mLn)))))))))
    (mRet (mNm 1))))
def m_law_losses : Fn := fnM 1 3 b_law_losses
def b_law_step : MS := (mRet (mF tupOfD (mFz (mLc [2, 3] (mZip (mNm 0) (mNm 1)) (mGt 2 (mGcons (mGn 2) (mGcons (mGn 3) mGnil))) mYes (mOp subD (mPk 3) (mPk 2))))))
def m_law_step : Fn := fnM 2 2 b_law_step
def b_is_within : MS := (mRet (mAndV (mCall m_is_integer (mAv (mNm 0) mAn)) (mChain leD leD (mPk 1) (mPk 0) (mPk 2))))
def m_is_within : Fn := fnM 3 0 b_is_within
def b_are_all : MS := (mRet (mAndV (mIs isT (mPk 0)) (mF allD (mFz (mLc [2] (mIt (mNm 0)) (mGn 2) mYes (mCallS 1 "is_integer" m_is_integer (mAv (mNm 2) mAn)))))))
def m_are_all : Fn := fnM 2 1 b_are_all
def b_are_same : MS := (mSeq (mSet 2 (mXn (mLd (mLc1 (mTup (mLc1 (mNm 0) (mLc1 (mNm 1) mLn))) mLn))))
    (mSeq (whGo (mTru (mPk 2)) (mSeq (mPopTo 2 (mGt 2 (mGcons (mGn 3) (mGcons (mGn 4) mGnil))))
    (mSeq (mIfS (mOr (mTest (mOp neD (mCall m_sort_of (mAv (mNm 3) mAn)) (mCall m_sort_of (mAv (mNm 4) mAn)))) (mTest (mOp neD (mPk 3) (mPk 4)))) (mRet (mC (.bool false))) (fun ρ β => some (.nx, ρ, β)))
    (mExt 2 (mCall m_part_pairs (mAv (mNm 3) (mAv (mNm 4) mAn)))))) 1000000)
    (mRet (mC (.bool true)))))
def m_are_same : Fn := fnM 2 3 b_are_same
def b_taken : MS := (mSeq (mIfS (mTest (mOp eqD (mOp ixD (mPk 0) (mC (.int 2))) (mC (.str "stop")))) (mSeq (mSet 3 (mXv (mOp minD (mOp addD (mPk 1) (mPk 2)) (mCall m_most_used (mAv (mNm 0) mAn)))))
    (mRet (mTup (mLc1 (mOp subD (mCall m_above (mAv (mNm 0) (mAv (mOp addD (mPk 1) (mPk 2)) mAn))) (mCall m_above (mAv (mNm 0) (mAv (mNm 1) mAn)))) (mLc1 (mNm 3) mLn))))) (fun ρ β => some (.nx, ρ, β)))
    (mSeq (mIfS (mTest (mOp eqD (mOp ixD (mPk 0) (mC (.int 2))) (mC (.str "layer")))) (mSet 4 (mXv (mCall m_above (mAv (mNm 0) (mAv (mNm 2) mAn))))) (mSet 4 (mXv (mOp fdivD (mF intD (mOp mulD (mOp ixD (mPk 0) (mC (.int 4))) (mPk 2))) (mOp ixD (mPk 0) (mC (.int 5)))))))
    (mSeq (mIfS (mTest (mOp isND (mOp ixD (mPk 0) (mC (.int 6))) (mC .none))) (mRet (mTup (mLc1 (mNm 4) (mLc1 (mNm 1) mLn)))) (fun ρ β => some (.nx, ρ, β)))
    (mSeq (mSet 4 (mXv (mOp minD (mPk 4) (mOp subD (mOp ixD (mPk 0) (mC (.int 6))) (mPk 1)))))
    (mRet (mTup (mLc1 (mNm 4) (mLc1 (mOp addD (mPk 1) (mPk 4)) mLn))))))))
def m_taken : Fn := fnM 3 2 b_taken
def b_piece_from : MS := (mSeq (mIfS (mTest (mOp eqD (mPk 1) (mOp subD (mF lenD (mPk 0)) (mC (.int 1))))) (mRet (mTup (mLc1 (mNm 1) (mLc1 (mNm 1) (mLc1 (mOp ixD (mPk 0) (mPk 1)) (mLc1 (mTup mLn) mLn)))))) (fun ρ β => some (.nx, ρ, β)))
    (mSeq (mPar2 2 3 (mXv (mCall m_step_between (mAv (mOp ixD (mPk 0) (mPk 1)) (mAv (mOp ixD (mPk 0) (mOp addD (mPk 1) (mC (.int 1)))) mAn)))) (mXv (mOp addD (mPk 1) (mC (.int 1)))))
    (mSeq (whGo (mAnd (mTest (mOp ltD (mOp addD (mPk 3) (mC (.int 1))) (mF lenD (mPk 0)))) (mTest (mOp eqD (mCall m_step_between (mAv (mOp ixD (mPk 0) (mPk 3)) (mAv (mOp ixD (mPk 0) (mOp addD (mPk 3) (mC (.int 1)))) mAn))) (mPk 2)))) (mAug 3 (i2 fun a b => .int (a + b)) (mC (.int 1))) 1000000)
    (mRet (mTup (mLc1 (mNm 1) (mLc1 (mNm 3) (mLc1 (mOp ixD (mPk 0) (mPk 1)) (mLc1 (mNm 2) mLn)))))))))
def m_piece_from : Fn := fnM 2 2 b_piece_from
def b_members_of : MS := (mSeq (mAsg (mNm 0) (mGt 4 (mGcons (mGn 1) (mGcons (mGn 2) (mGcons (mGn 3) (mGcons (mGn 4) mGnil))))))
    (mRet (mLst (mLc1 (mNm 3) (mLs (mFz (mLc [5] (mRg2 (mC (.int 1)) (mOp addD (mOp subD (mPk 2) (mPk 1)) (mC (.int 1)))) (mGn 5) mYes (mCall m_with_steps (mAv (mNm 3) (mAv (mNm 4) (mAv (mNm 5) mAn)))))) mLn)))))
def m_members_of : Fn := fnM 1 5 b_members_of
def b_member_at : MS := (mSeq (mSet 2 (mXv (mOp ixD (mFz (mLc [4] (mIt (mNm 0)) (mGn 4) (mTest (mOp leD (mOp ixD (mPk 4) (mC (.int 0))) (mPk 1))) (mNm 4))) (mF negD (mC (.int 1))))))
    (mSeq (mSet 3 (mXv (mOp subD (mPk 1) (mOp ixD (mPk 2) (mC (.int 0))))))
    (mRet (mIf (mTest (mOp eqD (mPk 3) (mC (.int 0)))) (mOp ixD (mPk 2) (mC (.int 2))) (mCall m_with_steps (mAv (mOp ixD (mPk 2) (mC (.int 2))) (mAv (mOp ixD (mPk 2) (mC (.int 3))) (mAv (mNm 3) mAn))))))))
def m_member_at : Fn := fnM 2 3 b_member_at
def b_law_some : MS := (mRet (mOp ixD (mPk 1) (mCall m_law_take (mAb 0 (mAv (mF lenD (mPk 1)) mAn)))))
def m_law_some : Fn := fnM 2 0 b_law_some
def b_law_bear : MS := (mSeq (mAsg (mNm 2) (mGt 2 (mGcons (mGn 3) (mGcons (mGn 4) mGnil))))
    (mSeq (mSet 5 (mXv (mCall m_law_bearers (mAv (mNm 0) mAn))))
    (mSeq (mSet 6 (mXk (mDp (mFz (mLc [10] (mIt (mNm 5)) (mGn 10) mYes (mTup (mLc1 (mNm 10) (mLc1 (mC (.int 0)) mLn))))))))
    (mSeq (mDpar 6 7 8 (mC (.str "own")) (mNm 4) (mXn (mLd mLn)) (mXn (mLd mLn)))
    (mSeq (mFor (mEnum (mOp ixD (mPk 0) (mC (.int 3)))) (mGt 2 (mGcons (mGn 9) (mGcons (mGt 8 (mGcons (mGn 10) (mGcons (mGn 11) (mGcons (mGn 12) (mGcons (mGn 13) (mGcons (mGn 14) (mGcons (mGn 15) (mGcons (mGn 16) (mGcons (mGn 17) mGnil))))))))) mGnil))) (mSeq (mPar2 18 19 (mXv (mOp ixD (mPk 1) (mPk 9))) (mXv (mC (.int 0))))
    (mSeq (mIfS (mTest (mOp (inD false) (mPk 3) (mPk 17))) (mSeq (mSet 20 (mXv (mDg 6 (mNm 13))))
    (mIfS (mTest (mOp eqD (mPk 12) (mC (.str "stop")))) (mSeq (mSet 19 (mXv (mOp subD (mOp minD (mPk 14) (mOp maxD (mC (.int 0)) (mOp subD (mOp addD (mPk 18) (mPk 20)) (mPk 15)))) (mOp minD (mPk 14) (mOp maxD (mC (.int 0)) (mOp subD (mPk 18) (mPk 15)))))))
    (mSet 18 (mXv (mOp minD (mOp addD (mPk 18) (mPk 20)) (mOp addD (mPk 14) (mPk 15)))))) (mSeq (mSet 19 (mXv (mIf (mTest (mOp eqD (mPk 12) (mC (.str "layer")))) (mOp minD (mPk 14) (mOp maxD (mC (.int 0)) (mOp subD (mPk 20) (mPk 15)))) (mOp fdivD (mF intD (mOp mulD (mPk 14) (mPk 20))) (mPk 15)))))
    (mSeq (mSet 19 (mXv (mIf (mTest (mOp isND (mPk 16) (mC .none))) (mNm 19) (mOp minD (mPk 19) (mOp subD (mPk 16) (mPk 18))))))
    (mSet 18 (mXv (mIf (mTest (mOp isND (mPk 16) (mC .none))) (mNm 18) (mOp addD (mPk 18) (mPk 19))))))))) (fun ρ β => some (.nx, ρ, β)))
    (mSeq (mDaug 6 (fun i j => i - j) (mNm 13) (mNm 19))
    (mSeq (mDaug 6 (fun i j => i + j) (mNm 11) (mNm 19))
    (mSeq (mApp 7 (mNm 18))
    (mApp 8 (mNm 19))))))))
    (mRet (mTup (mLc1 (mF tupOfD (mFz (mLc [10] (mIt (mNm 5)) (mGn 10) mYes (mDg 6 (mNm 10))))) (mLc1 (mF tupOfD (mPk 7)) (mLc1 (mF tupOfD (mPk 8)) mLn))))))))))
def m_law_bear : Fn := fnM 3 18 b_law_bear
def b_law_pieces : MS := (mSeq (mPar2 1 2 (mXn (mLd mLn)) (mXv (mC (.int 0))))
    (mSeq (mFor (mRg1 (mF lenD (mPk 0))) (mGn 3) (mIfS (mTest (mOp ltD (mPk 2) (mF lenD (mPk 0)))) (mSeq (mSet 4 (mXv (mNm 2)))
    (mSeq (mSet 5 (mXv (mIf (mTest (mOp ltD (mOp addD (mPk 2) (mC (.int 1))) (mF lenD (mPk 0)))) (mCall m_law_step (mAv (mOp ixD (mPk 0) (mPk 2)) (mAv (mOp ixD (mPk 0) (mOp addD (mPk 2) (mC (.int 1)))) mAn))) (mTup mLn))))
    (mSeq (mFor (mRg2 (mOp addD (mPk 2) (mC (.int 1))) (mF lenD (mPk 0))) (mGn 6) (mIfS (mAnd (mTest (mOp eqD (mPk 4) (mOp subD (mPk 6) (mC (.int 1))))) (mTest (mOp eqD (mCall m_law_step (mAv (mOp ixD (mPk 0) (mOp subD (mPk 6) (mC (.int 1)))) (mAv (mOp ixD (mPk 0) (mPk 6)) mAn))) (mPk 5)))) (mSet 4 (mXv (mNm 6))) (fun ρ β => some (.nx, ρ, β))))
    (mSeq (mApp 1 (mTup (mLc1 (mNm 2) (mLc1 (mNm 4) (mLc1 (mOp ixD (mPk 0) (mPk 2)) (mLc1 (mIf (mTest (mOp gtD (mPk 4) (mPk 2))) (mNm 5) (mTup mLn)) mLn))))))
    (mSet 2 (mXv (mOp addD (mPk 4) (mC (.int 1))))))))) (fun ρ β => some (.nx, ρ, β))))
    (mRet (mF tupOfD (mPk 1)))))
def m_law_pieces : Fn := fnM 1 6 b_law_pieces
def b_law_state : MS := (mRet (mF tupOfD (mFz (mLc [2] (mIt (mOp ixD (mPk 1) (mC (.int 3)))) (mGn 2) mYes (mCall m_law_take (mAb 0 (mAv (mOp addD (mCall m_law_most_used (mAv (mNm 2) mAn)) (mC (.int 1))) mAn)))))))
def m_law_state : Fn := fnM 2 1 b_law_state
def b_are_integers : MS := (mRet (mCall m_are_all (mAv (mNm 0) (mAf "is_integer" mAn))))
def m_are_integers : Fn := fnM 1 0 b_are_integers
def b_all_of : MS := (mSeq (mPar3 3 4 5 (mXk (mDc [10] (mIt (mCall m_bearers (mAv (mNm 0) mAn))) (mGn 10) mYes (mNm 10) (mC (.int 0)))) (mXn (mLd mLn)) (mXn (mLd mLn)))
    (mSeq (mDput 3 (mC (.str "own")) (mOp ixD (mPk 2) (mC (.int 1))))
    (mSeq (mFor (mZip (mOp ixD (mPk 0) (mC (.int 3))) (mNm 1)) (mGt 2 (mGcons (mGn 6) (mGcons (mGn 7) mGnil))) (mSeq (mAsg (mIf (mTest (mOp (inD false) (mOp ixD (mPk 2) (mC (.int 0))) (mOp ixD (mPk 6) (mC (.int 7))))) (mCall m_taken (mAv (mNm 6) (mAv (mNm 7) (mAv (mDg 3 (mOp ixD (mPk 6) (mC (.int 3)))) mAn)))) (mTup (mLc1 (mC (.int 0)) (mLc1 (mNm 7) mLn)))) (mGt 2 (mGcons (mGn 8) (mGcons (mGn 9) mGnil))))
    (mSeq (mDaug 3 (fun i j => i - j) (mOp ixD (mPk 6) (mC (.int 3))) (mNm 8))
    (mSeq (mDaug 3 (fun i j => i + j) (mOp ixD (mPk 6) (mC (.int 1))) (mNm 8))
    (mSeq (mApp 4 (mNm 9))
    (mApp 5 (mNm 8)))))))
    (mRet (mTup (mLc1 (mVals 3) (mLc1 (mF tupOfD (mPk 4)) (mLc1 (mF tupOfD (mPk 5)) mLn))))))))
def m_all_of : Fn := fnM 3 8 b_all_of
def b_pieces_of : MS := (mSeq (mSet 1 (mXn (mLd (mLc1 (mCall m_piece_from (mAv (mNm 0) (mAv (mC (.int 0)) mAn))) mLn))))
    (mSeq (whGo (mTest (mOp ltD (mOp ixD (mOp ixD (mPk 1) (mF negD (mC (.int 1)))) (mC (.int 1))) (mOp subD (mF lenD (mPk 0)) (mC (.int 1))))) (mApp 1 (mCall m_piece_from (mAv (mNm 0) (mAv (mOp addD (mOp ixD (mOp ixD (mPk 1) (mF negD (mC (.int 1)))) (mC (.int 1))) (mC (.int 1))) mAn)))) 1000000)
    (mRet (mF tupOfD (mPk 1)))))
def m_pieces_of : Fn := fnM 1 1 b_pieces_of
def b_row_of : MS := (mRet (mF tupOfD (mFz (mLc2 [1, 2] (mIt (mNm 0)) (mGn 1) mYes (mIt (mCall m_members_of (mAv (mNm 1) mAn))) [2] (mGn 2) mYes (mNm 2)))))
def m_row_of : Fn := fnM 1 2 b_row_of
def b_paid_by : MS := (mRet (mCall m_member_at (mAv (mNm 1) (mAv (mNm 2) mAn))))
def m_paid_by : Fn := fnM 3 0 b_paid_by
def b_law_odd : MS := (mSeq (mSet 1 (mXv (mLst (mLc1 (mC .none) (mLc1 (mC (.bool true)) (mLc1 (mC (.bool false)) (mLc1 (mC (.int 0)) (mLc1 (mF negD (mC (.int 1))) (mLc1 (mC (.int 7)) (mLc1 (mOp powD (mC (.int 10)) (mC (.int 30))) (mLc1 (mC (.str "")) (mLc1 (mC (.str "a")) (mLc1 (mC (.str "beat")) (mLc1 (mTup mLn) (mLc1 (mLst mLn) (mLc1 (mC (.dict [])) (mLc1 (mTup (mLc1 (mC (.int 0)) mLn)) (mLc1 (mTup (mLc1 (mTup mLn) mLn)) (mLc1 (mLst (mLc1 (mC (.int 1)) mLn)) (mLc1 (mD1 (mC (.str "a")) (mC (.int 1))) (mLc1 (mTup (mLc1 (mTup (mLc1 (mC (.int 1)) (mLc1 (mC (.int 2)) mLn))) mLn)) (mLc1 (mTup (mLc1 (mC (.str "a")) (mLc1 (mC (.int 0)) mLn))) mLn))))))))))))))))))))))
    (mRet (mCall m_law_some (mAb 0 (mAv (mNm 1) mAn)))))
def m_law_odd : Fn := fnM 1 1 b_law_odd
def b_law_met : MS := (mSeq (mPar3 2 3 4 (mXt (mCall m_law_first (mAv (mNm 0) mAn)) (mC (.bool true))) (mXn (mLd (mLc1 (mCall m_law_first (mAv (mNm 0) mAn)) mLn))) (mXv (mC (.int 0))))
    (mSeq (whGo (mTest (mOp ltD (mPk 4) (mF lenD (mPk 3)))) (mSeq (mPar2 5 4 (mXv (mOp ixD (mPk 3) (mPk 4))) (mXv (mOp addD (mPk 4) (mC (.int 1)))))
    (mFor (mIt (mCall m_law_losses (mAv (mNm 0) mAn))) (mGn 6) (mSeq (mSet 7 (mXv (mOp ixD (mCall m_law_bear (mAv (mNm 0) (mAv (mNm 5) (mAv (mNm 6) mAn)))) (mC (.int 1)))))
    (mIfS (mTest (mTin true 2 (mNm 7))) (mSeq (mIfS (mTest (mOp eqD (mTlen 2) (mPk 1))) (mRet (mC .none)) (fun ρ β => some (.nx, ρ, β)))
    (mSeq (mTput 2 (mNm 7) (mC (.bool true)))
    (mApp 3 (mNm 7)))) (fun ρ β => some (.nx, ρ, β)))))) 1000000)
    (mRetO 3)))
def m_law_met : Fn := fnM 2 6 b_law_met
def b_law_treaty : MS := (mSeq (mSet 5 (mXv (mCall m_law_some (mAb 0 (mAv (mLst (mLc1 (mC (.str "layer")) (mLc1 (mC (.str "layer")) (mLc1 (mC (.str "share")) (mLc1 (mC (.str "stop")) mLn))))) mAn)))))
    (mSeq (mSet 6 (mXv (mF tupOfD (mFz (mLc [11] (mIt (mNm 4)) (mGn 11) (mTest (mOp gtD (mCall m_law_take (mAb 0 (mAv (mC (.int 4)) mAn))) (mC (.int 0)))) (mNm 11))))))
    (mSeq (mSet 6 (mXv (mIf (mTest (mOp neD (mPk 6) (mTup mLn))) (mNm 6) (mNm 4))))
    (mSeq (mSet 7 (mXv (mCall m_law_some (mAb 0 (mAv (mFz (mLc [12] (mIt (mNm 3)) (mGn 12) (mTest (mOp neD (mPk 12) (mPk 2))) (mNm 12))) mAn)))))
    (mSeq (mIfS (mTest (mOp eqD (mPk 5) (mC (.str "layer")))) (mPar2 8 9 (mXv (mOp addD (mC (.int 1)) (mCall m_law_take (mAb 0 (mAv (mC (.int 6)) mAn))))) (mXv (mCall m_law_take (mAb 0 (mAv (mC (.int 5)) mAn))))) (mIfS (mTest (mOp eqD (mPk 5) (mC (.str "share")))) (mSeq (mSet 9 (mXv (mOp addD (mC (.int 1)) (mCall m_law_take (mAb 0 (mAv (mC (.int 4)) mAn))))))
    (mSet 8 (mXv (mOp addD (mC (.int 1)) (mCall m_law_take (mAb 0 (mAv (mNm 9) mAn))))))) (mPar2 8 9 (mXv (mOp addD (mC (.int 1)) (mCall m_law_take (mAb 0 (mAv (mC (.int 5)) mAn))))) (mXv (mCall m_law_take (mAb 0 (mAv (mC (.int 4)) mAn)))))))
    (mSeq (mSet 10 (mXv (mIf (mOr (mTest (mOp eqD (mPk 5) (mC (.str "stop")))) (mTest (mOp eqD (mCall m_law_take (mAb 0 (mAv (mC (.int 3)) mAn))) (mC (.int 0))))) (mC .none) (mOp addD (mC (.int 1)) (mCall m_law_take (mAb 0 (mAv (mC (.int 8)) mAn)))))))
    (mRet (mTup (mLc1 (mNm 1) (mLc1 (mNm 2) (mLc1 (mNm 5) (mLc1 (mNm 7) (mLc1 (mNm 8) (mLc1 (mNm 9) (mLc1 (mNm 10) (mLc1 (mNm 6) mLn))))))))))))))))
def m_law_treaty : Fn := fnM 5 8 b_law_treaty
def b_law_row : MS := (mSeq (mSet 2 (mXn (mLd (mLc1 (mF tupOfD (mFz (mLc [6] (mRg1 (mNm 1)) (mGn 6) mYes (mCall m_law_take (mAb 0 (mAv (mC (.int 4)) mAn)))))) mLn))))
    (mSeq (mFor (mRg1 (mCall m_law_take (mAb 0 (mAv (mC (.int 5)) mAn)))) (mGn 3) (mSeq (mSet 4 (mXv (mF tupOfD (mFz (mLc [6] (mRg1 (mNm 1)) (mGn 6) mYes (mCall m_law_some (mAb 0 (mAv (mLst (mLc1 (mC (.int 0)) (mLc1 (mC (.int 1)) (mLc1 (mF negD (mC (.int 1))) (mLc1 (mC (.int 2)) mLn))))) mAn))))))))
    (mFor (mRg1 (mOp addD (mC (.int 1)) (mCall m_law_take (mAb 0 (mAv (mC (.int 4)) mAn))))) (mGn 5) (mApp 2 (mF tupOfD (mFz (mLc [7, 8] (mZip (mOp ixD (mPk 2) (mF negD (mC (.int 1)))) (mNm 4)) (mGt 2 (mGcons (mGn 7) (mGcons (mGn 8) mGnil))) mYes (mOp addD (mPk 7) (mPk 8)))))))))
    (mRet (mF tupOfD (mPk 2)))))
def m_law_row : Fn := fnM 2 7 b_law_row
def b_law_is_pieces : MS := (mSeq (mIfS (mOr (mNot (mTru (mIs isT (mPk 0)))) (mTest (mOp eqD (mPk 0) (mTup mLn)))) (mRet (mC (.bool false))) (fun ρ β => some (.nx, ρ, β)))
    (mSeq (mAsg (mTup (mLc1 (mTup mLn) (mLc1 (mC .none) mLn))) (mGt 2 (mGcons (mGn 1) (mGcons (mGn 2) mGnil))))
    (mSeq (mFor (mIt (mNm 0)) (mGn 3) (mSeq (mIfS (mOr (mNot (mTru (mIs isT (mPk 3)))) (mOr (mTest (mOp neD (mF lenD (mPk 3)) (mC (.int 4)))) (mOr (mNot (mTru (mCall m_law_is_int (mAv (mOp ixD (mPk 3) (mC (.int 0))) mAn)))) (mNot (mTru (mCall m_law_is_int (mAv (mOp ixD (mPk 3) (mC (.int 1))) mAn))))))) (mRet (mC (.bool false))) (fun ρ β => some (.nx, ρ, β)))
    (mSeq (mAsg (mNm 3) (mGt 4 (mGcons (mGn 4) (mGcons (mGn 5) (mGcons (mGn 6) (mGcons (mGn 7) mGnil))))))
    (mSeq (mIfS (mOr (mTest (mOp neD (mPk 4) (mF lenD (mPk 1)))) (mOr (mNot (mTest (mChain leD ltD (mPk 4) (mPk 5) (mOp addD (mPk 4) (mC (.int 200)))))) (mOr (mNot (mTru (mIs isT (mPk 6)))) (mNot (mTru (mIs isT (mPk 7))))))) (mRet (mC (.bool false))) (fun ρ β => some (.nx, ρ, β)))
    (mSeq (mIfS (mOr (mTest (mOp eqD (mPk 6) (mTup mLn))) (mOr (mTest (mOp neD (mFz (mLc [8] (mIt (mOp addD (mPk 6) (mPk 7))) (mGn 8) (mNot (mTru (mCall m_law_is_int (mAv (mNm 8) mAn)))) (mC (.int 1)))) (mLst mLn))) (mTest (mOp (inD true) (mPk 2) (mTup (mLc1 (mC .none) (mLc1 (mF lenD (mPk 6)) mLn))))))) (mRet (mC (.bool false))) (fun ρ β => some (.nx, ρ, β)))
    (mSeq (mSet 2 (mXv (mF lenD (mPk 6))))
    (mSeq (mIfS (mTest (mOp neD (mF lenD (mPk 7)) (mIf (mTest (mOp gtD (mPk 5) (mPk 4))) (mNm 2) (mC (.int 0))))) (mRet (mC (.bool false))) (fun ρ β => some (.nx, ρ, β)))
    (mSet 1 (mXv (mOp addD (mPk 1) (mF tupOfD (mFz (mLc [9] (mRg1 (mOp addD (mOp subD (mPk 5) (mPk 4)) (mC (.int 1)))) (mGn 9) mYes (mIf (mTest (mOp gtD (mPk 5) (mPk 4))) (mF tupOfD (mFz (mLc [8, 10] (mZip (mNm 6) (mNm 7)) (mGt 2 (mGcons (mGn 8) (mGcons (mGn 10) mGnil))) mYes (mOp addD (mPk 8) (mOp mulD (mPk 9) (mPk 10)))))) (mNm 6)))))))))))))))
    (mRet (mCall m_law_alike (mAv (mCall m_law_pieces (mAv (mNm 1) mAn)) (mAv (mNm 0) mAn)))))))
def m_law_is_pieces : Fn := fnM 1 10 b_law_is_pieces
def b_borne_one : MS := (mRet (mSl slD (mCall m_all_of (mAv (mNm 0) (mAv (mNm 1) (mAv (mNm 2) mAn)))) mOn (mOs (mC (.int 2)))))
def m_borne_one : Fn := fnM 3 0 b_borne_one
def b_is_piece : MS := (mSeq (mIfS (mOr (mNot (mTru (mCall m_is_tuple_of (mAv (mNm 0) (mAv (mC (.int 4)) mAn))))) (mNot (mTru (mCall m_is_within (mAv (mOp ixD (mPk 0) (mC (.int 0))) (mAv (mC (.int 0)) (mAv (mC (.int 65535)) mAn))))))) (mRet (mC (.bool false))) (fun ρ β => some (.nx, ρ, β)))
    (mSeq (mIfS (mOr (mNot (mTru (mCall m_is_within (mAv (mOp ixD (mPk 0) (mC (.int 1))) (mAv (mOp ixD (mPk 0) (mC (.int 0))) (mAv (mC (.int 65535)) mAn)))))) (mNot (mTru (mCall m_are_integers (mAv (mOp ixD (mPk 0) (mC (.int 2))) mAn))))) (mRet (mC (.bool false))) (fun ρ β => some (.nx, ρ, β)))
    (mSeq (mIfS (mOr (mNot (mTru (mCall m_is_tuple_of (mAv (mOp ixD (mPk 0) (mC (.int 2))) (mAv (mNm 1) mAn))))) (mNot (mTru (mCall m_are_integers (mAv (mOp ixD (mPk 0) (mC (.int 3))) mAn))))) (mRet (mC (.bool false))) (fun ρ β => some (.nx, ρ, β)))
    (mRet (mCall m_is_tuple_of (mAv (mOp ixD (mPk 0) (mC (.int 3))) (mAv (mIf (mTest (mOp eqD (mOp ixD (mPk 0) (mC (.int 0))) (mOp ixD (mPk 0) (mC (.int 1))))) (mC (.int 0)) (mNm 1)) mAn)))))))
def m_is_piece : Fn := fnM 2 0 b_is_piece
def b_cut : MS := (mRet (mCall m_pieces_of (mAv (mSl slD (mCall m_row_of (mAv (mNm 0) mAn)) (mOs (mNm 1)) (mOs (mOp addD (mPk 2) (mC (.int 1))))) mAn)))
def m_cut : Fn := fnM 3 0 b_cut
def b_joined : MS := (mRet (mCall m_pieces_of (mAv (mTup (mLs (mCall m_row_of (mAv (mNm 0) mAn)) (mLs (mCall m_row_of (mAv (mNm 1) mAn)) mLn))) mAn)))
def m_joined : Fn := fnM 2 0 b_joined
def b_added : MS := (mSeq (mSet 2 (mXv (mFz (mLc [3, 4] (mZip (mCall m_row_of (mAv (mNm 0) mAn)) (mCall m_row_of (mAv (mNm 1) mAn))) (mGt 2 (mGcons (mGn 3) (mGcons (mGn 4) mGnil))) mYes (mCall m_with_steps (mAv (mNm 3) (mAv (mNm 4) (mAv (mC (.int 1)) mAn))))))))
    (mRet (mCall m_pieces_of (mAv (mF tupOfD (mPk 2)) mAn))))
def m_added : Fn := fnM 2 3 b_added
def b_column : MS := (mRet (mCall m_pieces_of (mAv (mF tupOfD (mFz (mLc [2] (mIt (mCall m_row_of (mAv (mNm 0) mAn))) (mGn 2) mYes (mTup (mLc1 (mOp ixD (mPk 2) (mPk 1)) mLn))))) mAn)))
def m_column : Fn := fnM 2 1 b_column
def b_law_treaties : MS := (mSeq (mPar2 3 4 (mXn (mLd mLn)) (mXv (mLst (mLc1 (mC (.str "own")) mLn))))
    (mSeq (mFor (mRg1 (mNm 2)) (mGn 5) (mSeq (mSet 6 (mXv (mCall m_law_some (mAb 0 (mAv (mLst (mLc1 (mC (.str "re")) (mLc1 (mC (.str "mut")) (mLc1 (mC (.str "gov")) mLn)))) mAn)))))
    (mSeq (mSet 6 (mXv (mIf (mTest (mOp neD (mFz (mLc [7] (mIt (mNm 4)) (mGn 7) (mTest (mOp neD (mPk 7) (mPk 6))) (mC (.int 1)))) (mLst mLn))) (mNm 6) (mC (.str "re")))))
    (mSeq (mApp 3 (mCall m_law_treaty (mAb 0 (mAv (mOp ixD (mLst (mLc1 (mC (.str "ta")) (mLc1 (mC (.str "tb")) (mLc1 (mC (.str "tc")) (mLc1 (mC (.str "td")) mLn))))) (mPk 5)) (mAv (mNm 6) (mAv (mNm 4) (mAv (mNm 1) mAn)))))))
    (mSet 4 (mXv (mOp addD (mPk 4) (mOp mulD (mLst (mLc1 (mNm 6) mLn)) (mF intD (mOp (inD true) (mPk 6) (mPk 4)))))))))))
    (mRet (mF tupOfD (mPk 3)))))
def m_law_treaties : Fn := fnM 3 5 b_law_treaties
def b_law_turned : MS := (mSeq (mFor (mRg1 (mC (.int 4))) (mGn 2) (mSeq (mPar2 3 4 (mXn (mNl (mOp ixD (mPk 1) (mC (.int 3))))) (mXv (mCall m_law_take (mAb 0 (mAv (mC (.int 5)) mAn)))))
    (mSeq (mSet 5 (mXv (mCall m_law_take (mAb 0 (mAv (mF lenD (mPk 3)) mAn)))))
    (mSeq (mAsg (mOp ixD (mPk 3) (mPk 5)) (mGt 8 (mGcons (mGn 6) (mGcons (mGn 7) (mGcons (mGn 8) (mGcons (mGn 9) (mGcons (mGn 10) (mGcons (mGn 11) (mGcons (mGn 12) (mGcons (mGn 13) mGnil))))))))))
    (mSeq (mIfS (mAnd (mTest (mOp eqD (mPk 4) (mC (.int 0)))) (mTest (mOp gtD (mF lenD (mPk 3)) (mC (.int 1))))) (mPopAt 3 (mNm 5)) (mIfS (mAnd (mTest (mOp eqD (mPk 4) (mC (.int 1)))) (mTest (mOp ltD (mF lenD (mPk 3)) (mC (.int 4))))) (mSeq (mSet 14 (mXv (mFz (mLc [19] (mIt (mLst (mLc1 (mC (.str "ta")) (mLc1 (mC (.str "tb")) (mLc1 (mC (.str "tc")) (mLc1 (mC (.str "td")) (mLc1 (mC (.str "te")) mLn))))))) (mGn 19) (mTest (mOp (inD true) (mPk 19) (mFz (mLc [17] (mIt (mPk 3)) (mGn 17) mYes (mOp ixD (mPk 17) (mC (.int 0))))))) (mNm 19)))))
    (mApp 3 (mCall m_law_treaty (mAb 0 (mAv (mOp ixD (mPk 14) (mC (.int 0))) (mAv (mCall m_law_some (mAb 0 (mAv (mLst (mLc1 (mC (.str "re")) (mLc1 (mC (.str "mut")) mLn))) mAn))) (mAv (mLst (mLc1 (mC (.str "own")) mLn)) (mAv (mOp ixD (mPk 1) (mC (.int 1))) mAn)))))))) (mIfS (mAnd (mTest (mOp eqD (mPk 4) (mC (.int 2)))) (mTest (mOp neD (mPk 8) (mC (.str "stop"))))) (mLput 3 (mNm 5) (mTup (mLc1 (mNm 6) (mLc1 (mNm 7) (mLc1 (mNm 8) (mLc1 (mNm 9) (mLc1 (mNm 10) (mLc1 (mNm 11) (mLc1 (mIf (mTest (mOp notND (mPk 12) (mC .none))) (mC .none) (mC (.int 5))) (mLc1 (mNm 13) mLn)))))))))) (mIfS (mAnd (mTest (mOp eqD (mPk 4) (mC (.int 3)))) (mTest (mOp eqD (mPk 8) (mC (.str "layer"))))) (mLput 3 (mNm 5) (mTup (mLc1 (mNm 6) (mLc1 (mNm 7) (mLc1 (mNm 8) (mLc1 (mNm 9) (mLc1 (mOp addD (mC (.int 1)) (mCall m_law_take (mAb 0 (mAv (mC (.int 6)) mAn)))) (mLc1 (mNm 11) (mLc1 (mNm 12) (mLc1 (mNm 13) mLn)))))))))) (mIfS (mAnd (mTest (mOp eqD (mPk 8) (mC (.str "layer")))) (mAnd (mTest (mOp notND (mPk 12) (mC .none))) (mAnd (mTest (mOp eqD (mPk 11) (mC (.int 0)))) (mTest (mOp geD (mPk 10) (mPk 12)))))) (mLput 3 (mNm 5) (mTup (mLc1 (mNm 6) (mLc1 (mNm 7) (mLc1 (mC (.str "stop")) (mLc1 (mNm 9) (mLc1 (mNm 12) (mLc1 (mC (.int 0)) (mLc1 (mC .none) (mLc1 (mNm 13) mLn)))))))))) (fun ρ β => some (.nx, ρ, β)))))))
    (mSeq (mPar2 15 16 (mXn (mLd mLn)) (mXv (mC (.bool true))))
    (mSeq (mFzS 3 (mFor (mIt (mNm 3)) (mGn 17) (mSeq (mSet 16 (mXv (mAndV (mNm 16) (mAndV (mOrV (mOp eqD (mOp ixD (mPk 17) (mC (.int 3))) (mC (.str "own"))) (mOp (inD false) (mOp ixD (mPk 17) (mC (.int 3))) (mPk 15))) (mOp neD (mOp ixD (mPk 17) (mC (.int 3))) (mOp ixD (mPk 17) (mC (.int 1))))))))
    (mApp 15 (mOp ixD (mPk 17) (mC (.int 1)))))))
    (mSeq (mSet 18 (mXv (mTup (mLc1 (mOp ixD (mPk 1) (mC (.int 0))) (mLc1 (mOp ixD (mPk 1) (mC (.int 1))) (mLc1 (mOp ixD (mPk 1) (mC (.int 2))) (mLc1 (mF tupOfD (mPk 3)) mLn)))))))
    (mIfS (mAnd (mTru (mPk 16)) (mTest (mOp notND (mCall m_law_met (mAv (mNm 18) (mAv (mC (.int 60)) mAn))) (mC .none)))) (mRet (mNm 18)) (fun ρ β => some (.nx, ρ, β)))))))))))
    (mRet (mNm 1)))
def m_law_turned : Fn := fnM 2 18 b_law_turned
def b_paid : MS := (mRet (mOp ixD (mCall m_borne_one (mAv (mNm 0) (mAv (mNm 1) (mAv (mNm 2) mAn)))) (mC (.int 0))))
def m_paid : Fn := fnM 3 0 b_paid
def b_behind : MS := (mRet (mOp ixD (mCall m_borne_one (mAv (mNm 0) (mAv (mNm 1) (mAv (mNm 2) mAn)))) (mC (.int 1))))
def m_behind : Fn := fnM 3 0 b_behind
def b_are_pieces : MS := (mSeq (mIfS (mOr (mNot (mTru (mIs isT (mPk 0)))) (mOr (mTest (mOp eqD (mPk 0) (mTup mLn))) (mNot (mTru (mCall m_is_tuple_of (mAv (mOp ixD (mPk 0) (mC (.int 0))) (mAv (mC (.int 4)) mAn))))))) (mRet (mC (.bool false))) (fun ρ β => some (.nx, ρ, β)))
    (mSeq (mIfS (mOr (mNot (mTru (mIs isT (mOp ixD (mOp ixD (mPk 0) (mC (.int 0))) (mC (.int 2)))))) (mTest (mOp eqD (mOp ixD (mOp ixD (mPk 0) (mC (.int 0))) (mC (.int 2))) (mTup mLn)))) (mRet (mC (.bool false))) (fun ρ β => some (.nx, ρ, β)))
    (mSeq (mIfS (mNot (mTru (mF allD (mFz (mLc [2] (mIt (mNm 0)) (mGn 2) mYes (mCall m_is_piece (mAv (mNm 2) (mAv (mF lenD (mOp ixD (mOp ixD (mPk 0) (mC (.int 0))) (mC (.int 2)))) mAn)))))))) (mRet (mC (.bool false))) (fun ρ β => some (.nx, ρ, β)))
    (mSeq (mSet 1 (mXv (mLst (mLc1 (mC (.int 0)) (mLs (mFz (mLc [3] (mIt (mNm 0)) (mGn 3) mYes (mOp addD (mOp ixD (mPk 3) (mC (.int 1))) (mC (.int 1))))) mLn)))))
    (mSeq (mIfS (mNot (mTru (mF allD (mFz (mLc [3, 4] (mZip (mNm 0) (mNm 1)) (mGt 2 (mGcons (mGn 3) (mGcons (mGn 4) mGnil))) mYes (mOp eqD (mOp ixD (mPk 3) (mC (.int 0))) (mPk 4))))))) (mRet (mC (.bool false))) (fun ρ β => some (.nx, ρ, β)))
    (mRet (mCall m_are_same (mAv (mNm 0) (mAv (mCall m_pieces_of (mAv (mCall m_row_of (mAv (mNm 0) mAn)) mAn)) mAn)))))))))
def m_are_pieces : Fn := fnM 1 4 b_are_pieces
def b_borne_by : MS := (mRet (mCall m_column (mAv (mNm 1) (mAv (mOp idxTD (mCall m_bearers (mAv (mNm 0) mAn)) (mPk 2)) mAn))))
def m_borne_by : Fn := fnM 3 0 b_borne_by
def b_law_book : MS := (mSeq (mSet 1 (mXv (mSl slD (mTup (mLc1 (mC (.str "fire")) (mLc1 (mC (.str "sea")) mLn))) mOn (mOs (mOp addD (mC (.int 1)) (mCall m_law_take (mAb 0 (mAv (mC (.int 2)) mAn))))))))
    (mSeq (mSet 2 (mXv (mOp addD (mC (.int 4)) (mCall m_law_take (mAb 0 (mAv (mC (.int 7)) mAn))))))
    (mSeq (mFor (mRg1 (mC (.int 5))) (mGn 3) (mSeq (mSet 4 (mXv (mTup (mLc1 (mC (.str "drawn")) (mLc1 (mNm 1) (mLc1 (mNm 2) (mLc1 (mCall m_law_treaties (mAb 0 (mAv (mNm 1) (mAv (mOp addD (mC (.int 1)) (mCall m_law_take (mAb 0 (mAv (mC (.int 3)) mAn)))) mAn)))) mLn)))))))
    (mIfS (mTest (mOp notND (mCall m_law_met (mAv (mNm 4) (mAv (mC (.int 60)) mAn))) (mC .none))) (mRet (mNm 4)) (fun ρ β => some (.nx, ρ, β)))))
    (mRet (mTup (mLc1 (mC (.str "plain")) (mLc1 (mNm 1) (mLc1 (mNm 2) (mLc1 (mTup (mLc1 (mTup (mLc1 (mC (.str "ta")) (mLc1 (mC (.str "re")) (mLc1 (mC (.str "layer")) (mLc1 (mC (.str "own")) (mLc1 (mC (.int 4)) (mLc1 (mC (.int 2)) (mLc1 (mC (.int 6)) (mLc1 (mNm 1) mLn))))))))) mLn)) mLn)))))))))
def m_law_book : Fn := fnM 1 4 b_law_book
def b_paid_pieces : MS := (mRet (mCall m_pieces_of (mAv (mF tupOfD (mFz (mLc [3] (mRg1 (mOp addD (mOp ixD (mPk 0) (mC (.int 2))) (mC (.int 1)))) (mGn 3) mYes (mCall m_paid (mAv (mNm 0) (mAv (mNm 1) (mAv (mTup (mLc1 (mNm 2) (mLc1 (mNm 3) mLn))) mAn))))))) mAn)))
def m_paid_pieces : Fn := fnM 3 1 b_paid_pieces
def b_used_pieces : MS := (mRet (mCall m_pieces_of (mAv (mF tupOfD (mFz (mLc [3] (mRg1 (mOp addD (mOp ixD (mPk 0) (mC (.int 2))) (mC (.int 1)))) (mGn 3) mYes (mCall m_behind (mAv (mNm 0) (mAv (mNm 1) (mAv (mTup (mLc1 (mNm 2) (mLc1 (mNm 3) mLn))) mAn))))))) mAn)))
def m_used_pieces : Fn := fnM 3 1 b_used_pieces
def b_first_unlike : MS := (mSeq (mFor (mIt (mCall m_losses_of (mAv (mNm 0) mAn))) (mGn 4) (mIfS (mTest (mOp neD (mCall m_paid (mAv (mNm 0) (mAv (mNm 1) (mAv (mNm 4) mAn)))) (mCall m_paid (mAv (mNm 2) (mAv (mNm 3) (mAv (mNm 4) mAn)))))) (mRet (mNm 4)) (fun ρ β => some (.nx, ρ, β))))
    (mRet (mC .none)))
def m_first_unlike : Fn := fnM 4 1 b_first_unlike
def b_steady_from : MS := (mRet (mOp ixD (mOp ixD (mCall m_paid_pieces (mAv (mNm 0) (mAv (mNm 1) (mAv (mNm 2) mAn)))) (mF negD (mC (.int 1)))) (mC (.int 0))))
def m_steady_from : Fn := fnM 3 0 b_steady_from
def b_all_borne : MS := (mSeq (mSet 4 (mXv (mOp idxTD (mCall m_bearers (mAv (mNm 0) mAn)) (mPk 3))))
    (mRet (mFz (mLc [5] (mIt (mCall m_row_of (mAv (mCall m_paid_pieces (mAv (mNm 0) (mAv (mNm 1) (mAv (mNm 2) mAn)))) mAn))) (mGn 5) mYes (mOp ixD (mPk 5) (mPk 4))))))
def m_all_borne : Fn := fnM 4 2 b_all_borne
def b_pays_so : MS := (mRet (mF allD (mFz (mLc [4] (mIt (mOp ixD (mPk 0) (mC (.int 1)))) (mGn 4) mYes (mOp eqD (mCall m_paid_pieces (mAv (mNm 0) (mAv (mNm 1) (mAv (mNm 4) mAn)))) (mCall m_paid_pieces (mAv (mNm 2) (mAv (mNm 3) (mAv (mNm 4) mAn)))))))))
def m_pays_so : Fn := fnM 4 1 b_pays_so
def b_law_bent (m_law_bent : Fn) : MS := (mSeq (mIfS (mAnd (mTru (mIs isT (mPk 1))) (mAnd (mTest (mOp neD (mPk 1) (mTup mLn))) (mAnd (mTest (mOp gtD (mPk 2) (mC (.int 0)))) (mTest (mOp gtD (mCall m_law_take (mAb 0 (mAv (mC (.int 4)) mAn))) (mC (.int 0))))))) (mSeq (mSet 3 (mXv (mCall m_law_take (mAb 0 (mAv (mF lenD (mPk 1)) mAn)))))
    (mRet (mOp addD (mOp addD (mSl slD (mPk 1) mOn (mOs (mNm 3))) (mTup (mLc1 (mCall m_law_bent (mAb 0 (mAv (mOp ixD (mPk 1) (mPk 3)) (mAv (mOp subD (mPk 2) (mC (.int 1))) mAn)))) mLn))) (mSl slD (mPk 1) (mOs (mOp addD (mPk 3) (mC (.int 1)))) mOn)))) (fun ρ β => some (.nx, ρ, β)))
    (mSeq (mIfS (mTru (mIs isB (mPk 1))) (mRet (mCall m_law_some (mAb 0 (mAv (mLst (mLc1 (mNotV (mNm 1)) (mLc1 (mF intD (mPk 1)) (mLc1 (mC .none) mLn)))) mAn)))) (fun ρ β => some (.nx, ρ, β)))
    (mSeq (mIfS (mTru (mIs isI (mPk 1))) (mRet (mCall m_law_some (mAb 0 (mAv (mLst (mLc1 (mOp addD (mPk 1) (mC (.int 1))) (mLc1 (mOp subD (mPk 1) (mC (.int 1))) (mLc1 (mF negD (mPk 1)) (mLc1 (mOp eqD (mPk 1) (mC (.int 1))) (mLc1 (mTup (mLc1 (mNm 1) mLn)) (mLc1 (mOp powD (mC (.int 10)) (mC (.int 30))) mLn))))))) mAn)))) (fun ρ β => some (.nx, ρ, β)))
    (mSeq (mIfS (mAnd (mTru (mIs isT (mPk 1))) (mTest (mOp neD (mPk 1) (mTup mLn)))) (mSeq (mSet 3 (mXv (mCall m_law_take (mAb 0 (mAv (mF lenD (mPk 1)) mAn)))))
    (mSeq (mSet 4 (mXv (mOp addD (mOp addD (mSl slD (mPk 1) mOn (mOs (mNm 3))) (mTup (mLc1 (mOp ixD (mPk 1) (mPk 3)) mLn))) (mSl slD (mPk 1) (mOs (mNm 3)) mOn))))
    (mRet (mCall m_law_some (mAb 0 (mAv (mLst (mLc1 (mF lstOfD (mPk 1)) (mLc1 (mOp addD (mSl slD (mPk 1) mOn (mOs (mNm 3))) (mSl slD (mPk 1) (mOs (mOp addD (mPk 3) (mC (.int 1)))) mOn)) (mLc1 (mNm 4) (mLc1 (mF revD (mPk 1)) (mLc1 (mCall m_law_odd (mAb 0 mAn)) mLn)))))) mAn)))))) (fun ρ β => some (.nx, ρ, β)))
    (mRet (mCall m_law_odd (mAb 0 mAn)))))))
def m_law_bent : Nat → Fn
  | 0 => fun _ _ => none
  | k + 1 => fnM 3 2 (b_law_bent (m_law_bent k))
theorem len_law_bent (k : Nat) (ss : List Slot) (β : Bag) (d : D) (β2 : Bag) (h : m_law_bent k ss β = some (d, β2)) : ss.length = ["bag", "thing", "depth"].length := by
  cases k with
  | zero => cases h
  | succ k => exact fnM_len ss β d β2 h
def b_least_size : MS := (mSeq (mSet 4 (mXv (mFz (mLc [5, 6] (mEnum (mCall m_all_borne (mAv (mNm 0) (mAv (mNm 1) (mAv (mNm 2) (mAv (mNm 3) mAn)))))) (mGt 2 (mGcons (mGn 5) (mGcons (mGn 6) mGnil))) (mTest (mOp gtD (mPk 6) (mC (.int 0)))) (mNm 5)))))
    (mRet (mIf (mTru (mPk 4)) (mOp ixD (mPk 4) (mC (.int 0))) (mC .none))))
def m_least_size : Fn := fnM 4 3 b_least_size
def b_most_borne : MS := (mRet (mF maxLD (mCall m_all_borne (mAv (mNm 0) (mAv (mNm 1) (mAv (mNm 2) (mAv (mNm 3) mAn)))))))
def m_most_borne : Fn := fnM 4 0 b_most_borne
def b_sizes_borne : MS := (mRet (mF tupOfD (mFz (mLc [5, 6] (mEnum (mCall m_all_borne (mAv (mNm 0) (mAv (mNm 1) (mAv (mNm 2) (mAv (mNm 3) mAn)))))) (mGt 2 (mGcons (mGn 5) (mGcons (mGn 6) mGnil))) (mTest (mOp eqD (mPk 6) (mPk 4))) (mNm 5)))))
def m_sizes_borne : Fn := fnM 5 2 b_sizes_borne
def b_law_runs_right : MS := (mSeq (mSet 1 (mXv (mOp addD (mC (.int 1)) (mCall m_law_take (mAb 0 (mAv (mC (.int 3)) mAn))))))
    (mSeq (mPar2 2 3 (mXv (mCall m_law_row (mAb 0 (mAv (mNm 1) mAn)))) (mXv (mCall m_law_row (mAb 0 (mAv (mNm 1) mAn)))))
    (mSeq (mPar2 4 5 (mXv (mCall m_law_pieces (mAv (mNm 2) mAn))) (mXv (mCall m_law_pieces (mAv (mNm 3) mAn))))
    (mSeq (mSet 6 (mXv (mCall m_law_take (mAb 0 (mAv (mF lenD (mPk 2)) mAn)))))
    (mSeq (mAsg (mTup (mLc1 (mOp addD (mPk 6) (mCall m_law_take (mAb 0 (mAv (mOp subD (mF lenD (mPk 2)) (mPk 6)) mAn)))) (mLc1 (mCall m_law_take (mAb 0 (mAv (mNm 1) mAn))) mLn))) (mGt 2 (mGcons (mGn 7) (mGcons (mGn 8) mGnil))))
    (mSeq (mSet 9 (mXv (mCall m_law_some (mAb 0 (mAv (mLst (mLc1 (mCall (m_law_bent 4) (mAb 0 (mAv (mNm 4) (mAv (mC (.int 3)) mAn)))) (mLc1 (mSl slD (mPk 4) (mOs (mC (.int 1))) mOn) (mLc1 (mTup mLn) (mLc1 (mC .none) (mLc1 (mF lstOfD (mPk 4)) (mLc1 (mNm 4) mLn))))))) mAn)))))
    (mSeq (mSet 10 (mXv (mLst (mLc1 (mCall m_pieces_of (mAv (mNm 2) mAn)) (mLc1 (mCall m_row_of (mAv (mNm 4) mAn)) (mLc1 (mCall m_member_at (mAv (mNm 4) (mAv (mNm 7) mAn))) (mLc1 (mCall m_turns_of (mAv (mNm 4) mAn)) (mLc1 (mCall m_cut (mAv (mNm 4) (mAv (mNm 6) (mAv (mNm 7) mAn)))) (mLc1 (mCall m_joined (mAv (mNm 4) (mAv (mNm 5) mAn))) mLn)))))))))
    (mSeq (mSet 11 (mXv (mLst (mLc1 (mNm 4) (mLc1 (mNm 2) (mLc1 (mOp ixD (mPk 2) (mPk 7)) (mLc1 (mF tupOfD (mFz (mLc [14] (mIt (mSl slD (mPk 4) (mOs (mC (.int 1))) mOn)) (mGn 14) mYes (mOp ixD (mPk 14) (mC (.int 0)))))) (mLc1 (mCall m_law_pieces (mAv (mSl slD (mPk 2) (mOs (mNm 6)) (mOs (mOp addD (mPk 7) (mC (.int 1))))) mAn)) (mLc1 (mCall m_law_pieces (mAv (mOp addD (mPk 2) (mPk 3)) mAn)) mLn)))))))))
    (mSeq (mSet 12 (mXv (mOp minD (mF lenD (mPk 2)) (mF lenD (mPk 3)))))
    (mSeq (mSet 13 (mXv (mF tupOfD (mFz (mLc [14, 15] (mZip (mNm 2) (mNm 3)) (mGt 2 (mGcons (mGn 14) (mGcons (mGn 15) mGnil))) mYes (mF tupOfD (mFz (mLc [16, 17] (mZip (mNm 14) (mNm 15)) (mGt 2 (mGcons (mGn 16) (mGcons (mGn 17) mGnil))) mYes (mOp addD (mPk 16) (mPk 17))))))))))
    (mSeq (mSet 10 (mXv (mOp addD (mPk 10) (mLst (mLc1 (mCall m_column (mAv (mNm 4) (mAv (mNm 8) mAn))) (mLc1 (mCall m_added (mAv (mCall m_law_pieces (mAv (mSl slD (mPk 2) mOn (mOs (mNm 12))) mAn)) (mAv (mCall m_law_pieces (mAv (mSl slD (mPk 3) mOn (mOs (mNm 12))) mAn)) mAn))) (mLc1 (mCall m_are_pieces (mAv (mNm 4) mAn)) (mLc1 (mCall m_are_pieces (mAv (mNm 9) mAn)) mLn))))))))
    (mRet (mCall m_law_alike (mAv (mNm 10) (mAv (mOp addD (mPk 11) (mLst (mLc1 (mCall m_law_pieces (mAv (mF tupOfD (mFz (mLc [14] (mIt (mNm 2)) (mGn 14) mYes (mTup (mLc1 (mOp ixD (mPk 14) (mPk 8)) mLn))))) mAn)) (mLc1 (mCall m_law_pieces (mAv (mNm 13) mAn)) (mLc1 (mC (.bool true)) (mLc1 (mCall m_law_is_pieces (mAv (mNm 9) mAn)) mLn)))))) mAn)))))))))))))))
def m_law_runs_right : Fn := fnM 1 17 b_law_runs_right
def b_law_paid_right : MS := (mSeq (mAsg (mTup (mLc1 (mCall m_law_state (mAb 0 (mAv (mNm 1) mAn))) (mLc1 (mCall m_law_some (mAb 0 (mAv (mF lstOfD (mOp ixD (mPk 1) (mC (.int 1)))) mAn))) (mLc1 (mCall m_law_some (mAb 0 (mAv (mCall m_law_bearers (mAv (mNm 1) mAn)) mAn))) mLn)))) (mGt 3 (mGcons (mGn 2) (mGcons (mGn 3) (mGcons (mGn 4) mGnil)))))
    (mSeq (mSet 5 (mXv (mFz (mLc [10] (mRg1 (mOp addD (mOp ixD (mPk 1) (mC (.int 2))) (mC (.int 1)))) (mGn 10) mYes (mCall m_law_bear (mAv (mNm 1) (mAv (mNm 2) (mAv (mTup (mLc1 (mNm 3) (mLc1 (mNm 10) mLn))) mAn))))))))
    (mSeq (mAsg (mTup (mLc1 (mF tupOfD (mFz (mLc [16] (mIt (mNm 5)) (mGn 16) mYes (mOp ixD (mPk 16) (mC (.int 0)))))) (mLc1 (mF tupOfD (mFz (mLc [16] (mIt (mNm 5)) (mGn 16) mYes (mOp ixD (mPk 16) (mC (.int 1)))))) (mLc1 (mOp idxLD (mCall m_law_bearers (mAv (mNm 1) mAn)) (mPk 4)) mLn)))) (mGt 3 (mGcons (mGn 6) (mGcons (mGn 7) (mGcons (mGn 8) mGnil)))))
    (mSeq (mPar2 9 10 (mXv (mFz (mLc [16] (mIt (mNm 6)) (mGn 16) mYes (mOp ixD (mPk 16) (mPk 8))))) (mXv (mCall m_law_take (mAb 0 (mAv (mOp addD (mOp ixD (mPk 1) (mC (.int 2))) (mC (.int 1))) mAn)))))
    (mSeq (mAsg (mTup (mLc1 (mCall m_law_some (mAb 0 (mAv (mOp addD (mPk 9) (mLst (mLc1 (mF negD (mC (.int 1))) (mLc1 (mC (.int 99)) mLn)))) mAn))) (mLc1 (mOp ixD (mCall m_law_pieces (mAv (mNm 6) mAn)) (mF negD (mC (.int 1)))) mLn))) (mGt 2 (mGcons (mGn 11) (mGcons (mGn 12) mGnil))))
    (mSeq (mSet 13 (mXv (mFz (mLc [16, 17] (mEnum (mNm 9)) (mGt 2 (mGcons (mGn 16) (mGcons (mGn 17) mGnil))) (mTest (mOp gtD (mPk 17) (mC (.int 0)))) (mNm 16)))))
    (mSeq (mSet 14 (mXv (mLst (mLc1 (mCall m_paid_pieces (mAv (mNm 1) (mAv (mNm 2) (mAv (mNm 3) mAn)))) (mLc1 (mCall m_used_pieces (mAv (mNm 1) (mAv (mNm 2) (mAv (mNm 3) mAn)))) (mLc1 (mCall m_paid_by (mAv (mNm 1) (mAv (mCall m_law_pieces (mAv (mNm 6) mAn)) (mAv (mNm 10) mAn)))) (mLc1 (mCall m_borne_by (mAv (mNm 1) (mAv (mCall m_law_pieces (mAv (mNm 6) mAn)) (mAv (mNm 4) mAn)))) mLn)))))))
    (mSeq (mSet 15 (mXv (mLst (mLc1 (mCall m_law_pieces (mAv (mNm 6) mAn)) (mLc1 (mCall m_law_pieces (mAv (mNm 7) mAn)) (mLc1 (mOp ixD (mPk 6) (mPk 10)) (mLc1 (mCall m_law_pieces (mAv (mF tupOfD (mFz (mLc [16] (mIt (mNm 9)) (mGn 16) mYes (mTup (mLc1 (mNm 16) mLn))))) mAn)) mLn)))))))
    (mSeq (mSet 14 (mXv (mOp addD (mPk 14) (mLst (mLc1 (mCall m_steady_from (mAv (mNm 1) (mAv (mNm 2) (mAv (mNm 3) mAn)))) (mLc1 (mCall m_least_size (mAv (mNm 1) (mAv (mNm 2) (mAv (mNm 3) (mAv (mNm 4) mAn))))) (mLc1 (mCall m_most_borne (mAv (mNm 1) (mAv (mNm 2) (mAv (mNm 3) (mAv (mNm 4) mAn))))) (mLc1 (mCall m_sizes_borne (mAv (mNm 1) (mAv (mNm 2) (mAv (mNm 3) (mAv (mNm 4) (mAv (mNm 11) mAn)))))) mLn))))))))
    (mRet (mCall m_law_alike (mAv (mNm 14) (mAv (mOp addD (mPk 15) (mLst (mLc1 (mOp ixD (mPk 12) (mC (.int 0))) (mLc1 (mIf (mTest (mOp neD (mPk 13) (mLst mLn))) (mOp ixD (mPk 13) (mC (.int 0))) (mC .none)) (mLc1 (mF maxLD (mPk 9)) (mLc1 (mF tupOfD (mFz (mLc [16, 17] (mEnum (mNm 9)) (mGt 2 (mGcons (mGn 16) (mGcons (mGn 17) mGnil))) (mTest (mOp eqD (mPk 17) (mPk 11))) (mNm 16)))) mLn)))))) mAn)))))))))))))
def m_law_paid_right : Fn := fnM 2 16 b_law_paid_right
end K31
/-! Pl1: evaluation of mirrors; equality of data; loops. -/
namespace K31
open PySem PySem.Spec PyProof.Rows L2 M
abbrev iT (xs : List Int) : D := .tuple (xs.map .int)
abbrev rowD (r : List (List Int)) : D := .tuple (r.map iT)
/-! ### loops of mirrors -/
inductive Fa2 {α β : Type} (R : α → β → Prop) : List α → List β → Prop
  | nil : Fa2 R [] []
  | cons {a : α} {b : β} {xs : List α} {ys : List β} : R a b → Fa2 R xs ys → Fa2 R (a :: xs) (b :: ys)
theorem lcGo_map {ρ : List Slot} {mg : MG} {mt : MT} {me : ME} {β : Bag} {α : Type} (e f : α → D) : ∀ (xs : List α), (∀ x ∈ xs, ∃ ρ2, mg (e x) ρ = some ρ2 ∧ mt ρ2 β = some (true, β) ∧ me ρ2 β = some (f x, β)) → lcGo ρ mg mt me (xs.map e) β = some (xs.map f, β)
  | [], _ => rfl
  | x :: r, h => by
    obtain ⟨ρ2, h1, h2, h3⟩ := h x List.mem_cons_self
    have ih := lcGo_map e f r fun y hy => h y (List.mem_cons_of_mem _ hy)
    simp only [List.map_cons, lcGo, h1, h2, h3, Option.bind_some, ih, Option.map_some, if_true]
theorem lcGo_filter {ρ : List Slot} {mg : MG} {mt : MT} {me : ME} {β : Bag} {α : Type} (e f : α → D) (p : α → Bool) : ∀ (xs : List α), (∀ x ∈ xs, ∃ ρ2, mg (e x) ρ = some ρ2 ∧ mt ρ2 β = some (p x, β) ∧ (p x = true → me ρ2 β = some (f x, β))) → lcGo ρ mg mt me (xs.map e) β = some ((xs.filter p).map f, β)
  | [], _ => rfl
  | x :: r, h => by
    obtain ⟨ρ2, h1, h2, h3⟩ := h x List.mem_cons_self
    have ih := lcGo_filter e f p r fun y hy => h y (List.mem_cons_of_mem _ hy)
    by_cases hp : p x = true
    · simp only [List.map_cons, lcGo, h1, h2, h3 hp, hp, Option.bind_some, ih, Option.map_some, if_true, List.filter_cons_of_pos]
    · have hp' : p x = false := by simpa using hp
      simp only [List.map_cons, lcGo, h1, h2, hp', Option.bind_some, ih, Bool.false_eq_true, if_false, List.filter_cons]
/-- each item by a draw: what is made is related to its item -/
theorem lcGo_rel {ρ : List Slot} {mg : MG} {mt : MT} {me : ME} {R : D → D → Prop} : ∀ (xs : List D), (∀ x ∈ xs, ∀ β, ∃ ρ2 c β1, mg x ρ = some ρ2 ∧ mt ρ2 β = some (c, β1) ∧ (c = true → ∃ y β2, me ρ2 β1 = some (y, β2) ∧ R x y)) → ∀ β, ∃ ys β', lcGo ρ mg mt me xs β = some (ys, β') ∧ ys.length ≤ xs.length ∧ ∀ y ∈ ys, ∃ x ∈ xs, R x y
  | [], _, β => ⟨[], β, rfl, Nat.le_refl _, fun _ h => nomatch h⟩
  | x :: r, h, β => by
    obtain ⟨ρ2, c, β1, h1, h2, h3⟩ := h x List.mem_cons_self β
    have ih := lcGo_rel (R := R) r fun y hy => h y (List.mem_cons_of_mem _ hy)
    cases c with
    | true =>
      obtain ⟨y, β2, h4, h5⟩ := h3 rfl
      obtain ⟨ys, β3, g1, g2, g3⟩ := ih β2
      refine ⟨y :: ys, β3, by simp only [lcGo, h1, h2, h4, g1, Option.bind_some, Option.map_some, if_true], by simp only [List.length_cons]; omega, fun z hz => ?_⟩
      rcases List.mem_cons.mp hz with e | hz
      · rw [e]; exact ⟨x, List.mem_cons_self, h5⟩
      · obtain ⟨w, hw, q⟩ := g3 z hz
        exact ⟨w, List.mem_cons_of_mem _ hw, q⟩
    | false =>
      obtain ⟨ys, β3, g1, g2, g3⟩ := ih β1
      refine ⟨ys, β3, by simp only [lcGo, h1, h2, g1, Option.bind_some, Bool.false_eq_true, if_false], by simp only [List.length_cons]; omega, fun z hz => ?_⟩
      obtain ⟨w, hw, q⟩ := g3 z hz
      exact ⟨w, List.mem_cons_of_mem _ hw, q⟩
/-- each item gives one, by a draw -/
theorem lcGo_all {ρ : List Slot} {mg : MG} {mt : MT} {me : ME} {R : D → D → Prop} : ∀ (xs : List D), (∀ x ∈ xs, ∀ β, ∃ ρ2 β1 y β2, mg x ρ = some ρ2 ∧ mt ρ2 β = some (true, β1) ∧ me ρ2 β1 = some (y, β2) ∧ R x y) → ∀ β, ∃ ys β', lcGo ρ mg mt me xs β = some (ys, β') ∧ Fa2 R xs ys
  | [], _, β => ⟨[], β, rfl, .nil⟩
  | x :: r, h, β => by
    obtain ⟨ρ2, β1, y, β2, h1, h2, h4, h5⟩ := h x List.mem_cons_self β
    obtain ⟨ys, β3, g1, g2⟩ := lcGo_all (R := R) r (fun y hy => h y (List.mem_cons_of_mem _ hy)) β2
    exact ⟨y :: ys, β3, by simp only [lcGo, h1, h2, h4, g1, Option.bind_some, Option.map_some, if_true], .cons h5 g2⟩
/-- a for that runs through, by its invariant -/
theorem for_inv {mg : MG} {mb : MS} (I : Nat → List Slot → Bag → Prop) : ∀ (ds : List D) (k : Nat) (ρ : List Slot) (β : Bag), I k ρ β →
    (∀ i d ρ β, ds[i]? = some d → I (k + i) ρ β → ∃ ρ1 ρ' β', mg d ρ = some ρ1 ∧ mb ρ1 β = some (.nx, ρ', β') ∧ I (k + i + 1) ρ' β') → ∃ ρ' β', forGo mg mb ds ρ β = some (.nx, ρ', β') ∧ I (k + ds.length) ρ' β'
  | [], k, ρ, β, h0, _ => ⟨ρ, β, rfl, h0⟩
  | d :: r, k, ρ, β, h0, hs => by
    obtain ⟨ρ1, ρ2, β2, h1, h2, h3⟩ := hs 0 d ρ β rfl h0
    obtain ⟨ρ', β', g1, g2⟩ := for_inv I r (k + 1) ρ2 β2 h3 fun i e ρ β he hI => by
      have := hs (i + 1) e ρ β (by simpa using he) (by rw [show k + (i + 1) = k + 1 + i by omega]; exact hI)
      rw [show k + (i + 1) + 1 = k + 1 + i + 1 by omega] at this
      exact this
    refine ⟨ρ', β', by simp only [forGo, h1, h2, Option.bind_some]; exact g1, ?_⟩
    rw [List.length_cons, show k + (r.length + 1) = k + 1 + r.length by omega]
    exact g2
/-- a for that may end by a return -/
theorem for_ret {mg : MG} {mb : MS} {post : D → Bag → Prop} (I : Nat → List Slot → Bag → Prop) : ∀ (ds : List D) (k : Nat) (ρ : List Slot) (β : Bag), I k ρ β →
    (∀ i d ρ β, ds[i]? = some d → I (k + i) ρ β → ∃ ρ1 ρ' β', mg d ρ = some ρ1 ∧ ((mb ρ1 β = some (.nx, ρ', β') ∧ I (k + i + 1) ρ' β') ∨ ∃ z, mb ρ1 β = some (.rt z, ρ', β') ∧ post z β')) →
    (∃ ρ' β', forGo mg mb ds ρ β = some (.nx, ρ', β') ∧ I (k + ds.length) ρ' β') ∨ ∃ z ρ' β', forGo mg mb ds ρ β = some (.rt z, ρ', β') ∧ post z β'
  | [], k, ρ, β, h0, _ => .inl ⟨ρ, β, rfl, h0⟩
  | d :: r, k, ρ, β, h0, hs => by
    obtain ⟨ρ1, ρ2, β2, h1, h2⟩ := hs 0 d ρ β rfl h0
    rcases h2 with ⟨h2, h3⟩ | ⟨z, h2, h3⟩
    · rcases for_ret (post := post) I r (k + 1) ρ2 β2 h3 fun i e ρ β he hI => by
        have := hs (i + 1) e ρ β (by simpa using he) (by rw [show k + (i + 1) = k + 1 + i by omega]; exact hI)
        rw [show k + (i + 1) + 1 = k + 1 + i + 1 by omega] at this
        exact this with ⟨ρ', β', g1, g2⟩ | ⟨z, ρ', β', g1, g2⟩
      · refine .inl ⟨ρ', β', by simp only [forGo, h1, h2, Option.bind_some]; exact g1, ?_⟩
        rw [List.length_cons, show k + (r.length + 1) = k + 1 + r.length by omega]
        exact g2
      · exact .inr ⟨z, ρ', β', by simp only [forGo, h1, h2, Option.bind_some]; exact g1, g2⟩
    · exact .inr ⟨z, ρ2, β2, by simp only [forGo, h1, h2, Option.bind_some], h3⟩
/-- a while by its measure -/
theorem wh_ind {mt : MT} {mb : MS} (I : Nat → List Slot → Bag → Prop) (post : Out → List Slot → Bag → Prop)
    (step : ∀ k ρ β, I k ρ β → (∃ β1, mt ρ β = some (false, β1) ∧ post .nx ρ β1) ∨ ∃ β1 ρ' β', mt ρ β = some (true, β1) ∧ ((mb ρ β1 = some (.nx, ρ', β') ∧ ∃ k', k' < k ∧ I k' ρ' β') ∨ ∃ d, mb ρ β1 = some (.rt d, ρ', β') ∧ post (.rt d) ρ' β')) :
    ∀ n k ρ β, k < n → I k ρ β → ∃ o ρ' β', whGo mt mb n ρ β = some (o, ρ', β') ∧ post o ρ' β'
  | 0, k, ρ, β, h, _ => absurd h (Nat.not_lt_zero _)
  | n + 1, k, ρ, β, h, hI => by
    rcases step k ρ β hI with ⟨β1, h1, h2⟩ | ⟨β1, ρ', β', h1, ⟨h2, k', hk, h3⟩ | ⟨d, h2, h3⟩⟩
    · exact ⟨.nx, ρ, β1, by simp only [whGo, h1, Option.bind_some, Bool.false_eq_true, if_false], h2⟩
    · obtain ⟨o, ρ2, β2, g1, g2⟩ := wh_ind I post step n k' ρ' β' (by omega) h3
      exact ⟨o, ρ2, β2, by simp only [whGo, h1, h2, Option.bind_some, if_true]; exact g1, g2⟩
    · exact ⟨.rt d, ρ', β', by simp only [whGo, h1, h2, Option.bind_some, if_true], h3⟩
/-! ### blocks -/
theorem seq_nx {m1 m2 : MS} {ρ ρ1 : List Slot} {β β1 : Bag} {r : Option (Out × List Slot × Bag)} (h1 : m1 ρ β = some (.nx, ρ1, β1)) (h2 : m2 ρ1 β1 = r) : mSeq m1 m2 ρ β = r := by
  simp only [mSeq, h1, Option.bind_some]
  exact h2
theorem seq_rt {m1 m2 : MS} {ρ ρ1 : List Slot} {β β1 : Bag} {d : D} (h1 : m1 ρ β = some (.rt d, ρ1, β1)) : mSeq m1 m2 ρ β = some (.rt d, ρ1, β1) := by
  simp only [mSeq, h1, Option.bind_some]
theorem fn_rt {n nl : Nat} {ms : MS} {ss : List Slot} {β β' : Bag} {d : D} {ρ' : List Slot} (h : ms (ss ++ List.replicate nl .no) β = some (.rt d, ρ', β')) (hn : ss.length = n := by rfl) : fnM n nl ms ss β = some (d, β') := by
  unfold fnM
  rw [if_pos hn, h]
  rfl
/-! ### sizes -/
theorem szN : sizeLine = 16777216 := sizeLine_eq
theorem lstG_ok {ds : List D} (h : ds.length ≤ sizeLine) : lstG ds = some ds := by unfold lstG; rw [if_pos h]
theorem lstD_ok {ds : List D} (h : ds.length ≤ sizeLine) : lstD ds = some (.list ds) := by unfold lstD; rw [if_pos h]
theorem tupD_ok {ds : List D} (h : ds.length ≤ sizeLine) : tupD ds = some (.tuple ds) := by unfold tupD; rw [if_pos h]
theorem sz20 {n : Nat} (h : n ≤ 1000 := by decide) : n ≤ sizeLine := by rw [szN]; omega
/-! ### data without bools and dicts: == is equality -/
mutual
def nb : D → Bool
  | .none => true
  | .bool _ => false
  | .int _ => true
  | .str x => PyData.strOk x
  | .list xs => nbA xs
  | .tuple xs => nbA xs
  | .dict _ => false
def nbA : List D → Bool
  | [] => true
  | x :: r => nb x && nbA r
end
mutual
theorem nb_lay : ∀ d : D, nb d = true → d.canLay0 = true
  | .none, _ => rfl
  | .bool _, h => by unfold nb at h; cases h
  | .int _, _ => rfl
  | .str x, h => by unfold nb at h; unfold PyData.canLay0; exact h
  | .list xs, h => by unfold nb at h; unfold PyData.canLay0; exact nbA_lay xs h
  | .tuple xs, h => by unfold nb at h; unfold PyData.canLay0; exact nbA_lay xs h
  | .dict _, h => by unfold nb at h; cases h
theorem nbA_lay : ∀ ds : List D, nbA ds = true → PyData.canLayAll0 ds = true
  | [], _ => by unfold PyData.canLayAll0; rfl
  | x :: r, h => by
    unfold nbA at h
    obtain ⟨h1, h2⟩ := Bool.and_eq_true_iff.mp h
    unfold PyData.canLayAll0
    rw [nb_lay x h1, nbA_lay r h2]
    rfl
end
mutual
theorem nb_eqv : ∀ d e : D, nb d = true → nb e = true → (PyData.eqv d e = true ↔ d = e)
  | .none, e, _, h => by cases e <;> simp [PyData.eqv]
  | .bool _, _, h, _ => by unfold nb at h; cases h
  | .int i, e, _, h => by
    cases e with
    | bool b => unfold nb at h; cases h
    | int j => simp [PyData.eqv]
    | _ => simp [PyData.eqv]
  | .str x, e, _, h => by cases e <;> simp [PyData.eqv]
  | .list xs, e, h, h' => by
    cases e with
    | list ys =>
      unfold nb at h h'
      have := nbA_eqv xs ys h h'
      simp only [PyData.eqv, PyData.list.injEq]
      exact this
    | _ => simp [PyData.eqv]
  | .tuple xs, e, h, h' => by
    cases e with
    | tuple ys =>
      unfold nb at h h'
      have := nbA_eqv xs ys h h'
      simp only [PyData.eqv, PyData.tuple.injEq]
      exact this
    | _ => simp [PyData.eqv]
  | .dict _, _, h, _ => by unfold nb at h; cases h
theorem nbA_eqv : ∀ d e : List D, nbA d = true → nbA e = true → (PyData.eqvAll d e = true ↔ d = e)
  | [], [], _, _ => by simp [PyData.eqvAll]
  | [], _ :: _, _, _ => by simp [PyData.eqvAll]
  | _ :: _, [], _, _ => by simp [PyData.eqvAll]
  | x :: r, y :: s, h, h' => by
    unfold nbA at h h'
    obtain ⟨h1, h2⟩ := Bool.and_eq_true_iff.mp h
    obtain ⟨h3, h4⟩ := Bool.and_eq_true_iff.mp h'
    have a := nb_eqv x y h1 h3
    have b := nbA_eqv r s h2 h4
    simp only [PyData.eqvAll, Bool.and_eq_true, List.cons.injEq]
    rw [a, b]
end
/-- plain data of little depth -/
def pn (d : D) : Prop := nb d = true ∧ d.depth ≤ 64
theorem pn_shaped {d : D} (h : pn d) : SeqAt.shaped d = true := by
  unfold SeqAt.shaped
  rw [nb_lay d h.1, decide_eq_true h.2]
  rfl
open Classical in
theorem eqD_pn {d e : D} (h : pn d) (h' : pn e) : eqD d e = some (.bool (decide (d = e))) := by
  unfold eqD eqB
  rw [pn_shaped h, pn_shaped h']
  have := nb_eqv d e h.1 h'.1
  by_cases z : d = e
  · rw [decide_eq_true z, this.mpr z]; rfl
  · rw [decide_eq_false z]
    have : PyData.eqv d e = false := by
      cases q : PyData.eqv d e with
      | false => rfl
      | true => exact absurd (this.mp q) z
    rw [this]; rfl
open Classical in
theorem neD_pn {d e : D} (h : pn d) (h' : pn e) : neD d e = some (.bool (!decide (d = e))) := by
  unfold neD
  rw [pn_shaped h, pn_shaped h']
  have := nb_eqv d e h.1 h'.1
  by_cases z : d = e
  · rw [decide_eq_true z, this.mpr z]; rfl
  · rw [decide_eq_false z]
    have : PyData.eqv d e = false := by
      cases q : PyData.eqv d e with
      | false => rfl
      | true => exact absurd (this.mp q) z
    rw [this]; rfl
theorem eqD_int (i j : Int) : eqD (.int i) (.int j) = some (.bool (decide (i = j))) := by
  have h : ∀ i : Int, pn (.int i) := fun i => ⟨rfl, Nat.zero_le _⟩
  rw [eqD_pn (h i) (h j)]
  congr 2
  simp
theorem neD_int (i j : Int) : neD (.int i) (.int j) = some (.bool (!decide (i = j))) := by
  have h : ∀ i : Int, pn (.int i) := fun i => ⟨rfl, Nat.zero_le _⟩
  rw [neD_pn (h i) (h j)]
  congr 2
  simp
theorem neD_bool (i j : Bool) : neD (.bool i) (.bool j) = some (.bool (!decide (i = j))) := by cases i <;> cases j <;> rfl
theorem eqD_str {x y : Str} (h : PyData.strOk x = true) (h' : PyData.strOk y = true) : eqD (.str x) (.str y) = some (.bool (decide (x = y))) := by
  rw [eqD_pn (d := .str x) (e := .str y) ⟨h, Nat.zero_le _⟩ ⟨h', Nat.zero_le _⟩]
  congr 2
  simp
theorem neD_str {x y : Str} (h : PyData.strOk x = true) (h' : PyData.strOk y = true) : neD (.str x) (.str y) = some (.bool (!decide (x = y))) := by
  rw [neD_pn (d := .str x) (e := .str y) ⟨h, Nat.zero_le _⟩ ⟨h', Nat.zero_le _⟩]
  congr 2
  simp
theorem eqD_nil (xs : List D) : eqD (.tuple xs) (.tuple []) = some (.bool xs.isEmpty) := by
  unfold eqD eqB
  split
  · cases xs <;> simp [PyData.eqv, PyData.eqvAll]
  · rfl
theorem nbA_ints : ∀ xs : List Int, nbA (xs.map .int) = true
  | [] => rfl
  | _ :: r => by rw [List.map_cons]; unfold nbA; rw [nbA_ints r]; rfl
theorem depth_ints : ∀ xs : List Int, PyData.depthAll (xs.map .int) = 0
  | [] => rfl
  | _ :: r => by rw [List.map_cons]; unfold PyData.depthAll; rw [depth_ints r]; rfl
theorem nbA_of {α : Type} {f : α → D} : ∀ xs : List α, (∀ x ∈ xs, nb (f x) = true) → nbA (xs.map f) = true
  | [], _ => rfl
  | x :: r, h => by rw [List.map_cons]; unfold nbA; rw [h x List.mem_cons_self, nbA_of r fun y hy => h y (List.mem_cons_of_mem _ hy)]; rfl
theorem depthA_of {α : Type} {f : α → D} {k : Nat} : ∀ xs : List α, (∀ x ∈ xs, (f x).depth ≤ k) → PyData.depthAll (xs.map f) ≤ k
  | [], _ => Nat.zero_le _
  | x :: r, h => by
    rw [List.map_cons]
    unfold PyData.depthAll
    exact Nat.max_le.mpr ⟨h x List.mem_cons_self, depthA_of r fun y hy => h y (List.mem_cons_of_mem _ hy)⟩
theorem nb_iT (xs : List Int) : nb (iT xs) = true := by unfold nb; exact nbA_ints xs
theorem depth_iT (xs : List Int) : (iT xs).depth = 1 := by unfold PyData.depth; rw [depth_ints]
theorem pn_iT (xs : List Int) : pn (iT xs) := ⟨nb_iT xs, by rw [depth_iT]; decide⟩
theorem map_inj {α β : Type} {f : α → β} (h : ∀ x y, f x = f y → x = y) : ∀ {xs ys : List α}, xs.map f = ys.map f → xs = ys
  | [], [], _ => rfl
  | [], _ :: _, e => by simp at e
  | _ :: _, [], e => by simp at e
  | x :: r, y :: s, e => by
    simp only [List.map_cons, List.cons.injEq] at e
    rw [h x y e.1, map_inj h e.2]
theorem iT_inj {xs ys : List Int} (h : iT xs = iT ys) : xs = ys := map_inj (f := PyData.int) (fun a b e => by injection e) (by injection h)
theorem eqD_iT (xs ys : List Int) : eqD (iT xs) (iT ys) = some (.bool (decide (xs = ys))) := by
  rw [eqD_pn (pn_iT xs) (pn_iT ys)]
  congr 2
  have : (iT xs = iT ys) = (xs = ys) := propext ⟨iT_inj, fun e => by rw [e]⟩
  simp only [this]
theorem neD_iT (xs ys : List Int) : neD (iT xs) (iT ys) = some (.bool (!decide (xs = ys))) := by
  rw [neD_pn (pn_iT xs) (pn_iT ys)]
  congr 2
  have : (iT xs = iT ys) = (xs = ys) := propext ⟨iT_inj, fun e => by rw [e]⟩
  simp only [this]
/-! ### operators on numbers -/
theorem i2_int (f : Int → Int → D) (i j : Int) : i2 f (.int i) (.int j) = some (f i j) := rfl
theorem ltD_int (i j : Int) : ltD (.int i) (.int j) = some (.bool (decide (i < j))) := rfl
theorem leD_int (i j : Int) : leD (.int i) (.int j) = some (.bool (decide (i ≤ j))) := rfl
theorem gtD_int (i j : Int) : gtD (.int i) (.int j) = some (.bool (decide (j < i))) := rfl
theorem geD_int (i j : Int) : geD (.int i) (.int j) = some (.bool (decide (j ≤ i))) := rfl
theorem subD_int (i j : Int) : subD (.int i) (.int j) = some (.int (i - j)) := rfl
theorem addD_int (i j : Int) : addD (.int i) (.int j) = some (.int (i + j)) := rfl
theorem minD_int (i j : Int) : minD (.int i) (.int j) = some (.int (if j < i then j else i)) := rfl
theorem maxD_int (i j : Int) : maxD (.int i) (.int j) = some (.int (if j > i then j else i)) := rfl
theorem negD_int (i : Int) : negD (.int i) = some (.int (-i)) := rfl
theorem intD_int (i : Int) : M.intD (.int i) = some (.int i) := rfl
theorem lenD_tup (xs : List D) : lenD (.tuple xs) = some (.int xs.length) := rfl
theorem lenD_lst (xs : List D) : lenD (.list xs) = some (.int xs.length) := rfl
theorem ixD_tup (xs : List D) (i : Int) : ixD (.tuple xs) (.int i) = atI xs i := rfl
theorem ixD_lst (xs : List D) (i : Int) : ixD (.list xs) (.int i) = atI xs i := rfl
theorem tupOfD_tup (xs : List D) : tupOfD (.tuple xs) = some (.tuple xs) := rfl
theorem tupOfD_lst (xs : List D) : tupOfD (.list xs) = some (.tuple xs) := rfl
theorem lstOfD_tup (xs : List D) : lstOfD (.tuple xs) = some (.list xs) := rfl
theorem seqD_tup (xs : List D) : seqD (.tuple xs) = some xs := rfl
theorem seqD_lst (xs : List D) : seqD (.list xs) = some xs := rfl
theorem addD_tup {xs ys : List D} (h : xs.length + ys.length ≤ sizeLine) : addD (.tuple xs) (.tuple ys) = some (.tuple (xs ++ ys)) := by unfold addD; simp only; rw [if_pos h]
theorem addD_lst {xs ys : List D} (h : xs.length + ys.length ≤ sizeLine) : addD (.list xs) (.list ys) = some (.list (xs ++ ys)) := by unfold addD; simp only; rw [if_pos h]
theorem modD_int {i j : Int} (h : j ≠ 0) : modD (.int i) (.int j) = some (.int (i.fmod j)) := by unfold modD i2c; simp only; rw [if_pos (decide_eq_true h)]
theorem fdivD_int {i j : Int} (h : j ≠ 0 ∧ j.natAbs < 1073741824) : fdivD (.int i) (.int j) = some (.int (i.fdiv j)) := by unfold fdivD i2c; simp only; rw [if_pos (decide_eq_true h)]
theorem mulD_int {i j : Int} (h : in64 i = true ∨ in64 j = true) : mulD (.int i) (.int j) = some (.int (i * j)) := by
  unfold mulD mulI i2c
  have : (in64 i || in64 j) = true := by rcases h with h | h <;> simp [h]
  simp only [this, if_true]
theorem whGo_t {mt : MT} {mb : MS} {n : Nat} {ρ ρ' : List Slot} {β β1 β' : Bag} (h1 : mt ρ β = some (true, β1)) (h2 : mb ρ β1 = some (.nx, ρ', β')) : whGo mt mb (n + 1) ρ β = whGo mt mb n ρ' β' := by
  simp only [whGo, h1, h2, Option.bind_some, if_true]
theorem whGo_f {mt : MT} {mb : MS} {n : Nat} {ρ : List Slot} {β β1 : Bag} (h1 : mt ρ β = some (false, β1)) : whGo mt mb (n + 1) ρ β = some (.nx, ρ, β1) := by
  simp only [whGo, h1, Option.bind_some, Bool.false_eq_true, if_false]
/-! ### places -/
theorem atI_nat' {α : Type} {xs : List α} {n : Nat} {x : α} (h : xs[n]? = some x) : atI xs (n : Int) = some x := by
  have hl := (List.getElem?_eq_some_iff.mp h).1
  unfold atI ixN
  rw [if_pos (Int.natCast_nonneg n), if_pos (by omega)]
  simpa using h
theorem atI_int {α : Type} {xs : List α} {i : Int} {n : Nat} {x : α} (hi : i = (n : Int)) (h : xs[n]? = some x) : atI xs i = some x := by subst hi; exact atI_nat' h
theorem atI_last {α : Type} {xs : List α} {x : α} : atI (xs ++ [x]) (-1) = some x := by
  have hl : (xs ++ [x]).length = xs.length + 1 := by rw [List.length_append]; rfl
  have h1 : ((-1 : Int) + ((xs.length + 1 : Nat) : Int)).toNat = xs.length := by omega
  unfold atI ixN
  rw [if_neg (by decide), hl, if_pos (by omega), Option.bind_some, h1]
  simp
end K31
local macro_rules | `(tactic| walk_at "mx") => `(tactic| simp only [M.fnM, M.mSeq, M.mIfS, M.mRet, M.mSet, M.mXv, M.mXn, M.mPar2, M.mPar3, M.mAsg, M.mGt, M.mGcons, M.mGnil, M.mGn, M.mCall, M.mAv, M.mAb, M.mAn, M.mAf, M.mIf, M.mTest, M.mOp, M.mNm, M.mPk, M.mC, M.mF, M.mTup, M.mLst, M.mLd, M.mLc1, M.mLn, M.mLs, M.mFz, M.mAnd, M.mOr, M.mNot, M.mTru, M.mAndV, M.mOrV, M.mNotV, M.mChain, M.mIs, M.mIt, M.mZip, M.mEnum, M.mLc, M.mRg1, M.mRg2, M.mFor, M.mAug, M.mSl, M.mOn, M.mOs, M.mApp, M.mExt, M.mLzV, M.mRetO, M.wipeR, M.mYes, M.slotO,
  M.getV, M.getP, M.toB, M.toI, M.truD, M.slD, M.isI, M.isB, M.isT, M.isL, M.isS, M.isDi, M.isND, M.notND, M.isNn, M.pairD, M.revD,
  K31.i2_int, K31.ltD_int, K31.leD_int, K31.gtD_int, K31.geD_int, K31.subD_int, K31.addD_int, K31.minD_int, K31.maxD_int, K31.negD_int, K31.intD_int, K31.lenD_tup, K31.lenD_lst, K31.ixD_tup, K31.ixD_lst, K31.tupOfD_tup, K31.tupOfD_lst, K31.lstOfD_tup, K31.seqD_tup, K31.seqD_lst, K31.eqD_int, K31.neD_int, K31.neD_bool, K31.eqD_iT, K31.neD_iT, K31.eqD_nil, K31.tupD_ok, K31.lstD_ok, K31.lstG_ok, K31.szN, Nat.reduceLeDiff,
  Option.bind_some, Option.map_some, Option.bind_none, Option.map_none, List.getElem?_cons_zero, List.getElem?_cons_succ, List.cons_append, List.nil_append, List.replicate, List.set_cons_zero, List.set_cons_succ, List.length_cons, List.length_nil, if_true, if_false, Nat.reduceAdd, Bool.not_true, Bool.not_false, Bool.true_and, Bool.and_true, Bool.false_eq_true, reduceIte, List.map_cons, List.map_nil, reduceCtorEq, List.length_map, Bool.or_true, Bool.true_or, Bool.or_false, Bool.false_or, decide_true, decide_false])
namespace K31
open PySem PySem.Spec PyProof.Rows L2 M
/-! ### rows and pieces -/
def stepI (a b : List Int) : List Int := List.zipWith (fun x y => y - x) a b
def addSt (a s : List Int) (k : Int) : List Int := List.zipWith (fun n m => n + m * k) a s
structure Pc where
  lo : Nat
  hi : Nat
  fi : List Int
  st : List Int
  deriving DecidableEq
def pcD (p : Pc) : D := .tuple [.int p.lo, .int p.hi, iT p.fi, iT p.st]
abbrev pcsD (ps : List Pc) : D := .tuple (ps.map pcD)
def gtR (r : List (List Int)) (i : Nat) : List Int := r[i]?.getD []
theorem gtR_some {r : List (List Int)} {i : Nat} (h : i < r.length) : r[i]? = some (gtR r i) := by
  unfold gtR
  rw [List.getElem?_eq_getElem h]
  rfl
def runEnd (r : List (List Int)) (st : List Int) (h : Nat) : Nat := if h + 1 < r.length ∧ stepI (gtR r h) (gtR r (h + 1)) = st then runEnd r st (h + 1) else h
termination_by r.length - h
theorem runEnd_ge (r : List (List Int)) (st : List Int) (h : Nat) : h ≤ runEnd r st h := by
  unfold runEnd
  split
  · have := runEnd_ge r st (h + 1)
    omega
  · exact Nat.le_refl _
termination_by r.length - h
theorem runEnd_lt (r : List (List Int)) (st : List Int) (h : Nat) (hl : h < r.length) : runEnd r st h < r.length := by
  unfold runEnd
  split
  · exact runEnd_lt r st (h + 1) (by omega)
  · exact hl
termination_by r.length - h
def mkPc (r : List (List Int)) (low : Nat) : Pc :=
  if low + 1 < r.length then ⟨low, runEnd r (stepI (gtR r low) (gtR r (low + 1))) (low + 1), gtR r low, stepI (gtR r low) (gtR r (low + 1))⟩ else ⟨low, low, gtR r low, []⟩
theorem mkPc_lo (r : List (List Int)) (low : Nat) : (mkPc r low).lo = low := by unfold mkPc; split <;> rfl
theorem mkPc_fi (r : List (List Int)) (low : Nat) : (mkPc r low).fi = gtR r low := by unfold mkPc; split <;> rfl
theorem mkPc_hi (r : List (List Int)) (low : Nat) : low ≤ (mkPc r low).hi := by
  unfold mkPc
  split
  · have := runEnd_ge r (stepI (gtR r low) (gtR r (low + 1))) (low + 1)
    show low ≤ runEnd _ _ _
    omega
  · exact Nat.le_refl _
theorem mkPc_hl (r : List (List Int)) (low : Nat) (h : low < r.length) : (mkPc r low).hi < r.length := by
  unfold mkPc
  split
  · exact runEnd_lt r _ _ (by assumption)
  · exact h
def P (r : List (List Int)) (low : Nat) : List Pc := if low < r.length then mkPc r low :: P r ((mkPc r low).hi + 1) else []
termination_by r.length - low
decreasing_by have := mkPc_hi r low; omega
theorem P_nil {r : List (List Int)} {low : Nat} (h : r.length ≤ low) : P r low = [] := by
  unfold P
  rw [if_neg (by omega)]
theorem P_cons {r : List (List Int)} {low : Nat} (h : low < r.length) : P r low = mkPc r low :: P r ((mkPc r low).hi + 1) := by
  rw [P, if_pos h]
theorem P_length (r : List (List Int)) (low : Nat) : (P r low).length ≤ r.length - low := by
  unfold P
  split
  · have := P_length r ((mkPc r low).hi + 1)
    have h2 := mkPc_hi r low
    rw [List.length_cons]
    omega
  · exact Nat.zero_le _
termination_by r.length - low
decreasing_by have := mkPc_hi r low; omega
/-! ### the defs on rows -/
theorem zip_pair (a b : List Int) : List.zipWith pairD (a.map .int) (b.map .int) = (a.zip b).map fun p => pairD (.int p.1) (.int p.2) := by
  induction a generalizing b with
  | nil => rfl
  | cons x a ih =>
    cases b with
    | nil => rfl
    | cons y b => simp only [List.map_cons, List.zipWith_cons_cons, List.zip_cons_cons, ih]
theorem stepI_zip (a b : List Int) : (a.zip b).map (fun p => PyData.int (p.2 - p.1)) = (stepI a b).map .int := by
  unfold stepI
  induction a generalizing b with
  | nil => rfl
  | cons x a ih =>
    cases b with
    | nil => rfl
    | cons y b => simp only [List.map_cons, List.zipWith_cons_cons, List.zip_cons_cons, ih]
theorem addSt_zip (a b : List Int) (k : Int) : (a.zip b).map (fun p => PyData.int (p.1 + p.2 * k)) = (addSt a b k).map .int := by
  unfold addSt
  induction a generalizing b with
  | nil => rfl
  | cons x a ih =>
    cases b with
    | nil => rfl
    | cons y b => simp only [List.map_cons, List.zipWith_cons_cons, List.zip_cons_cons, ih]
theorem ev_step_between (a b : List Int) (β : Bag) (h : a.length ≤ sizeLine) : m_step_between [.v (iT a), .v (iT b)] β = some (iT (stepI a b), β) := by
  unfold m_step_between b_step_between
  walk_at "mx"
  rw [zip_pair, lcGo_map (fun p : Int × Int => pairD (.int p.1) (.int p.2)) (fun p => .int (p.2 - p.1)) (a.zip b) (fun x _ => ⟨_, rfl, rfl, rfl⟩)]
  rw [Option.bind_some, lstG_ok (by rw [List.length_map, List.length_zip]; omega), stepI_zip]
  rfl
theorem ev_law_step (a b : List Int) (β : Bag) (h : a.length ≤ sizeLine) : m_law_step [.v (iT a), .v (iT b)] β = some (iT (stepI a b), β) := by
  unfold m_law_step b_law_step
  walk_at "mx"
  rw [zip_pair, lcGo_map (fun p : Int × Int => pairD (.int p.1) (.int p.2)) (fun p => .int (p.2 - p.1)) (a.zip b) (fun x _ => ⟨_, rfl, rfl, rfl⟩)]
  rw [Option.bind_some, lstG_ok (by rw [List.length_map, List.length_zip]; omega), stepI_zip]
  rfl
theorem ev_with_steps (a s : List Int) (k : Int) (β : Bag) (h : a.length ≤ sizeLine) (hk : in64 k = true) : m_with_steps [.v (iT a), .v (iT s), .v (.int k)] β = some (iT (addSt a s k), β) := by
  unfold m_with_steps b_with_steps
  walk_at "mx"
  rw [zip_pair, lcGo_map (fun p : Int × Int => pairD (.int p.1) (.int p.2)) (fun p => .int (p.1 + p.2 * k)) (a.zip s) (fun x _ => ⟨_, rfl, rfl, by
    walk_at "mx"
    rw [mulD_int (.inr hk)]
    rfl⟩)]
  rw [Option.bind_some, lstG_ok (by rw [List.length_map, List.length_zip]; omega), addSt_zip]
  rfl
theorem atI_row {r : List (List Int)} {i : Nat} (h : i < r.length) : atI (r.map iT) (i : Int) = some (iT (gtR r i)) := atI_nat' (by rw [List.getElem?_map, gtR_some h]; rfl)
/-- a row that the machine can hold -/
structure RowOk (r : List (List Int)) : Prop where
  len : r.length ≤ 500000
  wid : ∀ x ∈ r, x.length ≤ 1000
theorem RowOk.gt {r : List (List Int)} (h : RowOk r) (i : Nat) : (gtR r i).length ≤ sizeLine := by
  by_cases hi : i < r.length
  · have := h.wid (gtR r i) (List.mem_of_getElem? (gtR_some hi))
    rw [szN]; omega
  · unfold gtR
    rw [List.getElem?_eq_none (by omega)]
    exact Nat.zero_le _
theorem ev_run_end (r : List (List Int)) (low : Int) (st : List Int) (β : Bag) (ho : RowOk r) : ∀ (n h : Nat), h < r.length → r.length - h ≤ n →
    whGo (mAnd (mTest (mOp ltD (mOp addD (mPk 3) (mC (.int 1))) (mF lenD (mPk 0)))) (mTest (mOp eqD (mCall m_step_between (mAv (mOp ixD (mPk 0) (mPk 3)) (mAv (mOp ixD (mPk 0) (mOp addD (mPk 3) (mC (.int 1)))) mAn))) (mPk 2)))) (mAug 3 (i2 fun a b => .int (a + b)) (mC (.int 1))) n
      [.v (rowD r), .v (.int low), .v (iT st), .v (.int h)] β = some (.nx, [.v (rowD r), .v (.int low), .v (iT st), .v (.int (runEnd r st h : Nat))], β)
  | 0, h, hl, hn => by omega
  | n + 1, h, hl, hn => by
    have h1 : ((h : Int) + 1) = ((h + 1 : Nat) : Int) := by omega
    by_cases hc : h + 1 < r.length
    · by_cases he : stepI (gtR r h) (gtR r (h + 1)) = st
      · rw [whGo_t (ρ' := [.v (rowD r), .v (.int low), .v (iT st), .v (.int (h + 1 : Nat))]) (β1 := β) (β' := β) ?_ ?_]
        · rw [ev_run_end r low st β ho n (h + 1) hc (by omega)]
          have : runEnd r st h = runEnd r st (h + 1) := by rw [runEnd, if_pos ⟨hc, he⟩]
          rw [this]
        · walk_at "mx"
          simp only [h1, atI_row hl, atI_row hc, Option.bind_some, Option.map_some, ev_step_between _ _ β (ho.gt h), eqD_iT, toB, he, decide_true]
          rw [decide_eq_true (by omega)]
          rfl
        · walk_at "mx"
          rw [h1]
      · rw [whGo_f (β1 := β)]
        · have : runEnd r st h = h := by rw [runEnd, if_neg (fun z => he z.2)]
          rw [this]
        · walk_at "mx"
          simp only [h1, atI_row hl, atI_row hc, Option.bind_some, Option.map_some, ev_step_between _ _ β (ho.gt h), eqD_iT, toB, he, decide_false]
          split <;> rfl
    · rw [whGo_f (β1 := β)]
      · have : runEnd r st h = h := by rw [runEnd, if_neg (fun z => hc z.1)]
        rw [this]
      · walk_at "mx"
        rw [decide_eq_false (by omega)]
        rfl
theorem ev_piece_from (r : List (List Int)) (low : Nat) (β : Bag) (ho : RowOk r) (hl : low < r.length) : m_piece_from [.v (rowD r), .v (.int low)] β = some (pcD (mkPc r low), β) := by
  unfold m_piece_from b_piece_from
  have hlen := ho.len
  by_cases hc : low + 1 < r.length
  · have h1 : ((low : Int) + 1) = ((low + 1 : Nat) : Int) := by omega
    refine fn_rt (ρ' := [.v (rowD r), .v (.int low), .v (iT (stepI (gtR r low) (gtR r (low + 1)))), .v (.int (runEnd r (stepI (gtR r low) (gtR r (low + 1))) (low + 1) : Nat))]) ?_
    refine seq_nx (ρ1 := [.v (rowD r), .v (.int low), .no, .no]) (β1 := β) ?_ ?_
    · walk_at "mx"
      rw [decide_eq_false (by omega)]
      rfl
    refine seq_nx (ρ1 := [.v (rowD r), .v (.int low), .v (iT (stepI (gtR r low) (gtR r (low + 1)))), .v (.int (low + 1 : Nat))]) (β1 := β) ?_ ?_
    · walk_at "mx"
      rw [atI_row hl]
      simp only [Option.bind_some, Option.map_some, h1, atI_row hc, ev_step_between _ _ β (ho.gt low)]
    refine seq_nx (ev_run_end r low _ β ho 1000000 (low + 1) hc (by omega)) ?_
    walk_at "mx"
    rw [atI_row hl]
    unfold mkPc
    rw [if_pos hc]
    rfl
  · refine fn_rt (ρ' := [.v (rowD r), .v (.int low), .no, .no]) (seq_rt ?_)
    walk_at "mx"
    rw [decide_eq_true (by omega)]
    simp only [Option.map_some, if_true, atI_row hl, Option.bind_some]
    unfold mkPc
    rw [if_neg hc]
    rfl
theorem p62 : (2 : Int) ^ 62 = 4611686018427387904 := by decide +kernel
theorem in62_nat {i : Int} (h0 : 0 ≤ i) (h : i ≤ 1000000) : in62 i = true := by
  unfold in62
  rw [p62]
  exact decide_eq_true (by omega)
theorem p64 : (2 : Int) ^ 64 = 18446744073709551616 := by decide +kernel
theorem in64_sm {i : Int} (h0 : -1000000000000 ≤ i) (h : i ≤ 1000000000000) : in64 i = true := by
  unfold in64
  rw [p64]
  exact decide_eq_true (by omega)
theorem mRg2_ok {m1 m2 : ME} {ρ : List Slot} {β β1 β2 : Bag} {i j : Int} (h1 : m1 ρ β = some (.int i, β1)) (h2 : m2 ρ β1 = some (.int j, β2)) (hi : in62 i = true) (hj : in62 j = true) : mRg2 m1 m2 ρ β = some (rangeD i j, β2) := by
  simp only [mRg2, h1, h2, Option.bind_some, toI, hi, hj, Bool.and_self, if_true]
theorem mRg1_ok {m1 : ME} {ρ : List Slot} {β β1 : Bag} {i : Int} (h1 : m1 ρ β = some (.int i, β1)) (hi : in62 i = true) : mRg1 m1 ρ β = some (rangeD 0 i, β1) := by
  simp only [mRg1, h1, Option.bind_some, toI, hi, if_true]
theorem mFor_ok {mi : ML} {mg : MG} {mb : MS} {ρ : List Slot} {β β1 : Bag} {ds : List D} (h : mi ρ β = some (ds, β1)) : mFor mi mg mb ρ β = forGo mg mb ds ρ β1 := by
  simp only [mFor, h, Option.bind_some]
theorem mIt_ok {m : ME} {ρ : List Slot} {β β1 : Bag} {d : D} {ds : List D} (h : m ρ β = some (d, β1)) (hs : seqD d = some ds) : mIt m ρ β = some (ds, β1) := by
  simp only [mIt, h, hs, Option.bind_some, Option.map_some]
theorem mIfS_t {mt : MT} {m1 m2 : MS} {ρ : List Slot} {β β1 : Bag} (h : mt ρ β = some (true, β1)) : mIfS mt m1 m2 ρ β = m1 ρ β1 := by
  simp only [mIfS, h, Option.bind_some, if_true]
theorem mIfS_f {mt : MT} {m1 m2 : MS} {ρ : List Slot} {β β1 : Bag} (h : mt ρ β = some (false, β1)) : mIfS mt m1 m2 ρ β = m2 ρ β1 := by
  simp only [mIfS, h, Option.bind_some, Bool.false_eq_true, if_false]
theorem rangeD_at {lo hi : Int} {i : Nat} {d : D} (h : (rangeD lo hi)[i]? = some d) : i < (hi - lo).toNat ∧ d = .int (lo + (i : Nat)) := by
  have h1 := (List.getElem?_eq_some_iff.mp h).1
  rw [rangeD_length] at h1
  unfold rangeD at h
  rw [List.getElem?_map, List.getElem?_range h1] at h
  cases h
  exact ⟨h1, rfl⟩
/-! ### one step at a time -/
theorem mLc_ok {vs : List Nat} {mi : ML} {mg : MG} {mt : MT} {me : ME} {ρ : List Slot} {β β1 β2 : Bag} {ds ys : List D} (h1 : mi ρ β = some (ds, β1)) (h2 : lcGo (wipeR ρ vs) mg mt me ds β1 = some (ys, β2)) (hz : ys.length ≤ sizeLine) : mLc vs mi mg mt me ρ β = some (ys, β2) := by
  simp only [mLc, h1, h2, Option.bind_some, lstG_ok hz, Option.map_some]
theorem mLc2_ok {vs vs1 : List Nat} {mi mi1 : ML} {mg mg1 : MG} {mt mt1 : MT} {me : ME} {ρ : List Slot} {β β1 β2 : Bag} {ds ys : List D} (h1 : mi ρ β = some (ds, β1)) (h2 : lc2Go (wipeR ρ vs) mg mt mi1 vs1 mg1 mt1 me ds β1 = some (ys, β2)) (hz : ys.length ≤ sizeLine) : mLc2 vs mi mg mt mi1 vs1 mg1 mt1 me ρ β = some (ys, β2) := by
  simp only [mLc2, h1, h2, Option.bind_some, lstG_ok hz, Option.map_some]
theorem mFz_ok {ml : ML} {ρ : List Slot} {β β1 : Bag} {ds : List D} (h : ml ρ β = some (ds, β1)) : mFz ml ρ β = some (.list ds, β1) := by
  simp only [mFz, h, Option.map_some]
theorem mF_ok {f : D → Option D} {m : ME} {ρ : List Slot} {β β1 : Bag} {d z : D} (h : m ρ β = some (d, β1)) (hf : f d = some z) : mF f m ρ β = some (z, β1) := by
  simp only [mF, h, hf, Option.bind_some, Option.map_some]
theorem mOp_ok {f : D → D → Option D} {m1 m2 : ME} {ρ : List Slot} {β β1 β2 : Bag} {d e z : D} (h1 : m1 ρ β = some (d, β1)) (h2 : m2 ρ β1 = some (e, β2)) (hf : f d e = some z) : mOp f m1 m2 ρ β = some (z, β2) := by
  simp only [mOp, h1, h2, hf, Option.bind_some, Option.map_some]
theorem mRet_ok {m : ME} {ρ : List Slot} {β β1 : Bag} {d : D} (h : m ρ β = some (d, β1)) : mRet m ρ β = some (.rt d, ρ, β1) := by
  simp only [mRet, h, Option.map_some]
theorem mSet_ok {i : Nat} {m : ME} {ρ : List Slot} {β β1 : Bag} {d : D} (h : m ρ β = some (d, β1)) : mSet i (mXv m) ρ β = some (.nx, ρ.set i (.v d), β1) := by
  simp only [mSet, mXv, h, Option.map_some]
theorem mCall_ok {f : Fn} {ma : MA} {ρ ss : List Slot} {β β1 β2 : Bag} {d : D} (h : ma ρ β = some (ss, β1)) (hf : f ss β1 = some (d, β2)) : mCall f ma ρ β = some (d, β2) := by
  simp only [mCall, h, Option.bind_some, hf]
theorem mAv_ok {m : ME} {ma : MA} {ρ ss : List Slot} {β β1 β2 : Bag} {d : D} (h : m ρ β = some (d, β1)) (hr : ma ρ β1 = some (ss, β2)) : mAv m ma ρ β = some (.v d :: ss, β2) := by
  simp only [mAv, h, hr, Option.bind_some, Option.map_some]
theorem mTup_ok {ml : ML} {ρ : List Slot} {β β1 : Bag} {ds : List D} (h : ml ρ β = some (ds, β1)) (hz : ds.length ≤ sizeLine) : mTup ml ρ β = some (.tuple ds, β1) := by
  simp only [mTup, h, Option.bind_some, tupD_ok hz, Option.map_some]
theorem mLst_ok {ml : ML} {ρ : List Slot} {β β1 : Bag} {ds : List D} (h : ml ρ β = some (ds, β1)) (hz : ds.length ≤ sizeLine) : mLst ml ρ β = some (.list ds, β1) := by
  simp only [mLst, h, Option.bind_some, lstD_ok hz, Option.map_some]
theorem mLc1_ok {m : ME} {ml : ML} {ρ : List Slot} {β β1 β2 : Bag} {d : D} {ds : List D} (h : m ρ β = some (d, β1)) (hr : ml ρ β1 = some (ds, β2)) : mLc1 m ml ρ β = some (d :: ds, β2) := by
  simp only [mLc1, h, hr, Option.bind_some, Option.map_some]
theorem mLs_ok {m : ME} {ml : ML} {ρ : List Slot} {β β1 β2 : Bag} {d : D} {xs ds : List D} (h : m ρ β = some (d, β1)) (hs : seqD d = some xs) (hr : ml ρ β1 = some (ds, β2)) : mLs m ml ρ β = some (xs ++ ds, β2) := by
  simp only [mLs, h, hs, hr, Option.bind_some, Option.map_some]
theorem mZip_ok {m1 m2 : ME} {ρ : List Slot} {β β1 β2 : Bag} {d e : D} {xs ys : List D} (h1 : m1 ρ β = some (d, β1)) (h2 : m2 ρ β1 = some (e, β2)) (s1 : seqD d = some xs) (s2 : seqD e = some ys) : mZip m1 m2 ρ β = some (List.zipWith pairD xs ys, β2) := by
  simp only [mZip, h1, h2, s1, s2, Option.bind_some, Option.map_some]
theorem mSl_ok {m : ME} {ml mh : MO} {ρ : List Slot} {β β1 β2 β3 : Bag} {d z : D} {lo hi : Option Int} (h : m ρ β = some (d, β1)) (hl : ml ρ β1 = some (lo, β2)) (hh : mh ρ β2 = some (hi, β3)) (hs : slD d lo hi = some z) : mSl slD m ml mh ρ β = some (z, β3) := by
  simp only [mSl, h, hl, hh, hs, Option.bind_some, Option.map_some]
theorem mOs_ok {m : ME} {ρ : List Slot} {β β1 : Bag} {i : Int} (h : m ρ β = some (.int i, β1)) : mOs m ρ β = some (some i, β1) := by
  simp only [mOs, h, toI, Option.bind_some, Option.map_some]
theorem mTest_ok {m : ME} {ρ : List Slot} {β β1 : Bag} {c : Bool} (h : m ρ β = some (.bool c, β1)) : mTest m ρ β = some (c, β1) := by
  simp only [mTest, h, toB, Option.bind_some, Option.map_some]
theorem mIf_t {mt : MT} {m1 m2 : ME} {ρ : List Slot} {β β1 : Bag} (h : mt ρ β = some (true, β1)) : mIf mt m1 m2 ρ β = m1 ρ β1 := by
  simp only [mIf, h, Option.bind_some, if_true]
theorem mIf_f {mt : MT} {m1 m2 : ME} {ρ : List Slot} {β β1 : Bag} (h : mt ρ β = some (false, β1)) : mIf mt m1 m2 ρ β = m2 ρ β1 := by
  simp only [mIf, h, Option.bind_some, Bool.false_eq_true, if_false]
/-! ### slices -/
theorem cutD_ab {xs : List D} {a b : Nat} (h : b ≤ xs.length) : M.cutD xs (some (a : Int)) (some (b : Int)) = (xs.drop a).take (b - a) := by
  unfold M.cutD
  rw [HT.sIx_nat, HT.sIx_nat, Nat.min_eq_left h]
  by_cases ha : a ≤ xs.length
  · rw [Nat.min_eq_left ha]
  · rw [Nat.min_eq_right (by omega), List.drop_eq_nil_of_le (Nat.le_refl _), List.drop_eq_nil_of_le (by omega), List.take_nil, List.take_nil]
theorem cutD_a {xs : List D} {a : Nat} : M.cutD xs (some (a : Int)) none = xs.drop a := by
  unfold M.cutD
  rw [HT.sIx_nat, HT.sIx_none]
  by_cases ha : a ≤ xs.length
  · rw [Nat.min_eq_left ha]
    apply List.take_of_length_le
    rw [List.length_drop]
    omega
  · rw [Nat.min_eq_right (by omega), List.drop_eq_nil_of_le (Nat.le_refl _), List.drop_eq_nil_of_le (by omega), List.take_nil]
theorem cutD_b {xs : List D} {b : Nat} (h : b ≤ xs.length) : M.cutD xs none (some (b : Int)) = xs.take b := by
  unfold M.cutD
  rw [HT.sIx_nat, HT.sIx_none, Nat.min_eq_left h, List.drop_zero, Nat.sub_zero]
end K31
namespace K31
open PySem PySem.Spec PyProof.Rows L2 M
theorem runEnd_step (r : List (List Int)) (st : List Int) (h : Nat) : ∀ j, h ≤ j → j < runEnd r st h → stepI (gtR r j) (gtR r (j + 1)) = st := by
  intro j h1 h2
  rw [runEnd] at h2
  by_cases hc : h + 1 < r.length ∧ stepI (gtR r h) (gtR r (h + 1)) = st
  · rw [if_pos hc] at h2
    by_cases e : j = h
    · rw [e]; exact hc.2
    · exact runEnd_step r st (h + 1) j (by omega) h2
  · rw [if_neg hc] at h2
    omega
termination_by r.length - h
theorem runEnd_stop (r : List (List Int)) (st : List Int) (h : Nat) : ¬ (runEnd r st h + 1 < r.length ∧ stepI (gtR r (runEnd r st h)) (gtR r (runEnd r st h + 1)) = st) := by
  rw [runEnd]
  by_cases hc : h + 1 < r.length ∧ stepI (gtR r h) (gtR r (h + 1)) = st
  · rw [if_pos hc]
    exact runEnd_stop r st (h + 1)
  · rw [if_neg hc]
    exact hc
termination_by r.length - h
theorem runEnd_first {r : List (List Int)} {h : Nat} (hc : h + 1 < r.length) : runEnd r (stepI (gtR r h) (gtR r (h + 1))) h = runEnd r (stepI (gtR r h) (gtR r (h + 1))) (h + 1) := by
  rw [runEnd, if_pos ⟨hc, rfl⟩]
/-! ### pieces_of -/
theorem ix_pc1 (p : Pc) : ixD (pcD p) (.int 1) = some (.int p.hi) := rfl
theorem ix_pc0 (p : Pc) : ixD (pcD p) (.int 0) = some (.int p.lo) := rfl
theorem ix_pc2 (p : Pc) : ixD (pcD p) (.int 2) = some (iT p.fi) := rfl
theorem ix_pc3 (p : Pc) : ixD (pcD p) (.int 3) = some (iT p.st) := rfl
theorem ev_po_loop (r : List (List Int)) (β : Bag) (ho : RowOk r) : ∀ (n : Nat) (dn : List Pc) (p : Pc), p.hi < r.length → dn.length ≤ p.hi → r.length - p.hi ≤ n →
    whGo (mTest (mOp ltD (mOp ixD (mOp ixD (mPk 1) (mF negD (mC (.int 1)))) (mC (.int 1))) (mOp subD (mF lenD (mPk 0)) (mC (.int 1))))) (mApp 1 (mCall m_piece_from (mAv (mNm 0) (mAv (mOp addD (mOp ixD (mOp ixD (mPk 1) (mF negD (mC (.int 1)))) (mC (.int 1))) (mC (.int 1))) mAn)))) n
      [.v (rowD r), .own ((dn ++ [p]).map pcD)] β = some (.nx, [.v (rowD r), .own ((dn ++ p :: P r (p.hi + 1)).map pcD)], β)
  | 0, dn, p, h, hd, hn => by omega
  | n + 1, dn, p, h, hd, hn => by
    have hlen := ho.len
    have last : atI ((dn ++ [p]).map pcD) (-1) = some (pcD p) := by rw [List.map_append]; exact atI_last
    by_cases hc : p.hi + 1 < r.length
    · have e1 : ((p.hi : Int) + 1) = ((p.hi + 1 : Nat) : Int) := by omega
      have hp := mkPc_hl r (p.hi + 1) hc
      have hp2 := mkPc_hi r (p.hi + 1)
      rw [whGo_t (ρ' := [.v (rowD r), .own (((dn ++ [p]) ++ [mkPc r (p.hi + 1)]).map pcD)]) (β1 := β) (β' := β) ?_ ?_]
      · rw [ev_po_loop r β ho n (dn ++ [p]) (mkPc r (p.hi + 1)) hp (by rw [List.length_append]; simp; omega) (by omega), P_cons hc]
        simp
      · walk_at "mx"
        rw [last]
        walk_at "mx"
        rw [ix_pc1]
        walk_at "mx"
        rw [decide_eq_true (by omega)]
      · walk_at "mx"
        rw [last]
        walk_at "mx"
        rw [ix_pc1]
        walk_at "mx"
        rw [e1, ev_piece_from r _ β ho hc]
        walk_at "mx"
        rw [if_pos (by rw [List.length_append]; simp; omega)]
        simp
    · rw [whGo_f (β1 := β)]
      · rw [P_nil (by omega)]
      · walk_at "mx"
        rw [last]
        walk_at "mx"
        rw [ix_pc1]
        walk_at "mx"
        rw [decide_eq_false (by omega)]
theorem ev_pieces_of (r : List (List Int)) (β : Bag) (ho : RowOk r) (h0 : 0 < r.length) : m_pieces_of [.v (rowD r)] β = some (pcsD (P r 0), β) := by
  have hlen := ho.len
  unfold m_pieces_of b_pieces_of
  refine fn_rt (ρ' := [.v (rowD r), .own ((P r 0).map pcD)]) ?_
  refine seq_nx (ρ1 := [.v (rowD r), .own ([mkPc r 0].map pcD)]) (β1 := β) ?_ ?_
  · have h := ev_piece_from r 0 β ho h0
    walk_at "mx"
    rw [show ((0 : Nat) : Int) = 0 from rfl] at h
    rw [h]
    rfl
  have h := ev_po_loop r β ho 1000000 [] (mkPc r 0) (mkPc_hl r 0 h0) (Nat.zero_le _) (by omega)
  refine seq_nx h ?_
  walk_at "mx"
  rw [P_cons h0]
  rfl
/-! ### _law_pieces -/
theorem minE {a b : Nat} : min a b = if a ≤ b then a else b := rfl
abbrev lpIn : MS := (mIfS (mAnd (mTest (mOp eqD (mPk 4) (mOp subD (mPk 6) (mC (.int 1))))) (mTest (mOp eqD (mCall m_law_step (mAv (mOp ixD (mPk 0) (mOp subD (mPk 6) (mC (.int 1)))) (mAv (mOp ixD (mPk 0) (mPk 6)) mAn))) (mPk 5)))) (mSet 4 (mXv (mNm 6))) (fun ρ β => some (.nx, ρ, β)))
abbrev lpB : MS := mSeq (mSet 4 (mXv (mNm 2)))
    (mSeq (mSet 5 (mXv (mIf (mTest (mOp ltD (mOp addD (mPk 2) (mC (.int 1))) (mF lenD (mPk 0)))) (mCall m_law_step (mAv (mOp ixD (mPk 0) (mPk 2)) (mAv (mOp ixD (mPk 0) (mOp addD (mPk 2) (mC (.int 1)))) mAn))) (mTup mLn))))
    (mSeq (mFor (mRg2 (mOp addD (mPk 2) (mC (.int 1))) (mF lenD (mPk 0))) (mGn 6) lpIn)
    (mSeq (mApp 1 (mTup (mLc1 (mNm 2) (mLc1 (mNm 4) (mLc1 (mOp ixD (mPk 0) (mPk 2)) (mLc1 (mIf (mTest (mOp gtD (mPk 4) (mPk 2))) (mNm 5) (mTup mLn)) mLn))))))
    (mSet 2 (mXv (mOp addD (mPk 4) (mC (.int 1))))))))
theorem ev_lp_in (r : List (List Int)) (β : Bag) (ho : RowOk r) (low : Nat) (a1 s3 : Slot) (st : List Int) (s6 : Slot) (hl : low + 1 < r.length) :
    ∃ s6', mFor (mRg2 (mOp addD (mPk 2) (mC (.int 1))) (mF lenD (mPk 0))) (mGn 6) lpIn
      [.v (rowD r), a1, .v (.int low), s3, .v (.int low), .v (iT st), s6] β = some (.nx, [.v (rowD r), a1, .v (.int low), s3, .v (.int (runEnd r st low : Nat)), .v (iT st), s6'], β) := by
  have hlen := ho.len
  have hge := runEnd_ge r st low
  have hlt := runEnd_lt r st low (by omega)
  have hn : (rangeD ((low : Int) + 1) (r.length : Int)).length = r.length - (low + 1) := by rw [rangeD_length]; omega
  have hstep : ∀ i d ρ β2, (rangeD ((low : Int) + 1) (r.length : Int))[i]? = some d → (β2 = β ∧ ∃ s, ρ = [Slot.v (rowD r), a1, .v (.int low), s3, .v (.int (min (runEnd r st low) (low + (0 + i)) : Nat)), .v (iT st), s]) →
      ∃ ρ1 ρ' β', mGn 6 d ρ = some ρ1 ∧ lpIn ρ1 β2 = some (.nx, ρ', β') ∧ (β' = β ∧ ∃ s, ρ' = [Slot.v (rowD r), a1, .v (.int low), s3, .v (.int (min (runEnd r st low) (low + (0 + i + 1)) : Nat)), .v (iT st), s]) := by
    intro i d ρ β2 hd hI
    obtain ⟨rfl, s, rfl⟩ := hI
    obtain ⟨hi, rfl⟩ := rangeD_at hd
    have hi' : i < r.length - (low + 1) := by omega
    have e0 : ((low : Int) + 1 + (i : Nat)) = ((low + 1 + i : Nat) : Int) := by omega
    rw [e0, Nat.zero_add]
    have e1 : (((low + 1 + i : Nat) : Int) - 1) = ((low + i : Nat) : Int) := by omega
    have l1 : low + i < r.length := by omega
    have l2 : low + 1 + i < r.length := by omega
    have e2 : low + 1 + i = low + i + 1 := by omega
    refine ⟨_, [.v (rowD r), a1, .v (.int low), s3, .v (.int (min (runEnd r st low) (low + (i + 1)) : Nat)), .v (iT st), .v (.int ((low + 1 + i : Nat) : Int))], β2, rfl, ?_, rfl, _, rfl⟩
    by_cases hc : runEnd r st low < low + i
    · have : min (runEnd r st low) (low + (i + 1)) = min (runEnd r st low) (low + i) := by omega
      rw [this]
      refine mIfS_f (β1 := β2) ?_
      walk_at "mx"
      rw [decide_eq_false (by omega)]
      rfl
    · have hm : min (runEnd r st low) (low + i) = low + i := by omega
      rw [hm]
      have ht : mAnd (mTest (mOp eqD (mPk 4) (mOp subD (mPk 6) (mC (.int 1))))) (mTest (mOp eqD (mCall m_law_step (mAv (mOp ixD (mPk 0) (mOp subD (mPk 6) (mC (.int 1)))) (mAv (mOp ixD (mPk 0) (mPk 6)) mAn))) (mPk 5))) [Slot.v (rowD r), a1, .v (.int low), s3, .v (.int ((low + i : Nat) : Int)), .v (iT st), .v (.int ((low + 1 + i : Nat) : Int))] β2
          = some (decide (stepI (gtR r (low + i)) (gtR r (low + 1 + i)) = st), β2) := by
        walk_at "mx"
        rw [e1]
        simp only [decide_true, if_true, atI_row l1, atI_row l2, Option.bind_some, Option.map_some, ev_law_step _ _ β2 (ho.gt (low + i)), eqD_iT, toB]
      by_cases he : stepI (gtR r (low + i)) (gtR r (low + 1 + i)) = st
      · have : low + i < runEnd r st low := by
          apply Nat.lt_of_le_of_ne (by omega)
          intro z
          have q := runEnd_stop r st low
          rw [← z] at q
          exact q ⟨by omega, by rw [← e2]; exact he⟩
        have e3 : min (runEnd r st low) (low + (i + 1)) = low + 1 + i := by omega
        rw [e3]
        rw [decide_eq_true he] at ht
        refine (mIfS_t ht).trans ?_
        walk_at "mx"
      · have : ¬ low + i < runEnd r st low := by
          intro z
          exact he (by rw [e2]; exact runEnd_step r st low (low + i) (by omega) z)
        have e3 : min (runEnd r st low) (low + (i + 1)) = low + i := by omega
        rw [e3]
        rw [decide_eq_false he] at ht
        exact mIfS_f ht
  obtain ⟨ρ', β', h1, h2, s, h3⟩ := for_inv (mg := mGn 6) (mb := lpIn)
    (fun j ρ β2 => β2 = β ∧ ∃ s, ρ = [Slot.v (rowD r), a1, .v (.int low), s3, .v (.int (min (runEnd r st low) (low + j) : Nat)), .v (iT st), s]) (rangeD ((low : Int) + 1) (r.length : Int)) 0
    [.v (rowD r), a1, .v (.int low), s3, .v (.int low), .v (iT st), s6] β ⟨rfl, s6, by rw [Nat.add_zero, Nat.min_eq_right hge]⟩ hstep
  subst h2 h3
  refine ⟨s, ?_⟩
  have e : min (runEnd r st low) (low + (0 + (rangeD ((low : Int) + 1) (r.length : Int)).length)) = runEnd r st low := by rw [hn]; omega
  rw [e] at h1
  rw [mFor_ok (mRg2_ok (i := (low : Int) + 1) (j := (r.length : Int)) (β1 := β') (β2 := β') (by walk_at "mx") (by walk_at "mx") (in62_nat (by omega) (by omega)) (in62_nat (by omega) (by omega)))]
  exact h1
theorem ev_lpB (r : List (List Int)) (β2 : Bag) (ho : RowOk r) (dn : List Pc) (low : Nat) (s3 s4 s5 s6 : Slot) (hc : low < r.length) (g4 : dn.length ≤ low) :
    ∃ s5' s6', lpB [.v (rowD r), .own (dn.map pcD), .v (.int (low : Nat)), s3, s4, s5, s6] β2 = some (.nx, [.v (rowD r), .own ((dn ++ [mkPc r low]).map pcD), .v (.int ((mkPc r low).hi + 1 : Nat)), s3, .v (.int ((mkPc r low).hi : Nat)), s5', s6'], β2) := by
  have hlen := ho.len
  have e1 : ((low : Int) + 1) = ((low + 1 : Nat) : Int) := by omega
  by_cases hc2 : low + 1 < r.length
  · obtain ⟨s6', hin⟩ := ev_lp_in r β2 ho low (.own (dn.map pcD)) s3 (stepI (gtR r low) (gtR r (low + 1))) s6 hc2
    have em : mkPc r low = ⟨low, runEnd r (stepI (gtR r low) (gtR r (low + 1))) low, gtR r low, stepI (gtR r low) (gtR r (low + 1))⟩ := by
      unfold mkPc
      rw [if_pos hc2, runEnd_first hc2]
    have hgt : low < runEnd r (stepI (gtR r low) (gtR r (low + 1))) low := by
      rw [runEnd_first hc2]
      have := runEnd_ge r (stepI (gtR r low) (gtR r (low + 1))) (low + 1)
      omega
    refine ⟨.v (iT (stepI (gtR r low) (gtR r (low + 1)))), s6', ?_⟩
    refine seq_nx (ρ1 := [.v (rowD r), .own (dn.map pcD), .v (.int (low : Nat)), s3, .v (.int (low : Nat)), s5, s6]) (β1 := β2) (by walk_at "mx") ?_
    refine seq_nx (ρ1 := [.v (rowD r), .own (dn.map pcD), .v (.int (low : Nat)), s3, .v (.int (low : Nat)), .v (iT (stepI (gtR r low) (gtR r (low + 1)))), s6]) (β1 := β2) ?_ ?_
    · walk_at "mx"
      rw [decide_eq_true (by omega)]
      simp only [if_true, atI_row hc, e1, atI_row hc2, Option.bind_some, Option.map_some, ev_law_step _ _ β2 (ho.gt low)]
    refine seq_nx hin ?_
    refine seq_nx (ρ1 := [.v (rowD r), .own ((dn ++ [mkPc r low]).map pcD), .v (.int (low : Nat)), s3, .v (.int ((mkPc r low).hi : Nat)), .v (iT (stepI (gtR r low) (gtR r (low + 1)))), s6']) (β1 := β2) ?_ ?_
    · walk_at "mx"
      rw [atI_row hc, decide_eq_true (by omega)]
      simp only [if_true, Option.bind_some, Option.map_some]
      rw [tupD_ok (by rw [szN]; exact (by decide : 4 ≤ 16777216))]
      simp only [Option.bind_some, Option.map_some]
      rw [if_pos (by omega), em]
      simp [pcD]
    · walk_at "mx"
      rw [em]
      simp
  · have em : mkPc r low = ⟨low, low, gtR r low, []⟩ := by unfold mkPc; rw [if_neg hc2]
    refine ⟨.v (.tuple []), s6, ?_⟩
    refine seq_nx (ρ1 := [.v (rowD r), .own (dn.map pcD), .v (.int (low : Nat)), s3, .v (.int (low : Nat)), s5, s6]) (β1 := β2) (by walk_at "mx") ?_
    refine seq_nx (ρ1 := [.v (rowD r), .own (dn.map pcD), .v (.int (low : Nat)), s3, .v (.int (low : Nat)), .v (.tuple []), s6]) (β1 := β2) ?_ ?_
    · walk_at "mx"
      rw [decide_eq_false (by omega)]
      simp only [Bool.false_eq_true, if_false, Option.map_some]
    refine seq_nx (ρ1 := [.v (rowD r), .own (dn.map pcD), .v (.int (low : Nat)), s3, .v (.int (low : Nat)), .v (.tuple []), s6]) (β1 := β2) ?_ ?_
    · have e0 : rangeD ((low : Int) + 1) (r.length : Int) = [] := by
        apply List.eq_nil_of_length_eq_zero
        rw [rangeD_length]
        omega
      rw [mFor_ok (mRg2_ok (i := (low : Int) + 1) (j := (r.length : Int)) (β1 := β2) (β2 := β2) (by walk_at "mx") (by walk_at "mx") (in62_nat (by omega) (by omega)) (in62_nat (by omega) (by omega))), e0]
      rfl
    refine seq_nx (ρ1 := [.v (rowD r), .own ((dn ++ [mkPc r low]).map pcD), .v (.int (low : Nat)), s3, .v (.int (low : Nat)), .v (.tuple []), s6]) (β1 := β2) ?_ ?_
    · walk_at "mx"
      rw [atI_row hc, decide_eq_false (by omega)]
      simp only [if_true, Option.bind_some, Option.map_some, Bool.false_eq_true, if_false]
      rw [tupD_ok (by rw [szN]; exact (by decide : 4 ≤ 16777216))]
      simp only [Option.bind_some, Option.map_some]
      rw [if_pos (by omega), em]
      simp [pcD]
    · walk_at "mx"
      rw [em]
      simp
theorem ev_law_pieces (r : List (List Int)) (β : Bag) (ho : RowOk r) : m_law_pieces [.v (rowD r)] β = some (pcsD (P r 0), β) := by
  have hlen := ho.len
  unfold m_law_pieces b_law_pieces
  have hn : (rangeD 0 (r.length : Int)).length = r.length := by rw [rangeD_length]; omega
  have hstep : ∀ i d ρ β2, (rangeD 0 (r.length : Int))[i]? = some d → (β2 = β ∧ ∃ (dn : List Pc) (low : Nat) (s3 s4 s5 s6 : Slot), ρ = [.v (rowD r), .own (dn.map pcD), .v (.int (low : Nat)), s3, s4, s5, s6] ∧ dn ++ P r low = P r 0 ∧ 0 + i ≤ low ∧ low ≤ r.length ∧ dn.length ≤ low) →
      ∃ ρ1 ρ' β', mGn 3 d ρ = some ρ1 ∧ mIfS (mTest (mOp ltD (mPk 2) (mF lenD (mPk 0)))) lpB (fun ρ β => some (.nx, ρ, β)) ρ1 β2 = some (.nx, ρ', β') ∧ (β' = β ∧ ∃ (dn : List Pc) (low : Nat) (s3 s4 s5 s6 : Slot), ρ' = [.v (rowD r), .own (dn.map pcD), .v (.int (low : Nat)), s3, s4, s5, s6] ∧ dn ++ P r low = P r 0 ∧ 0 + i + 1 ≤ low ∧ low ≤ r.length ∧ dn.length ≤ low) := by
    intro i d ρ β2 hd hI
    obtain ⟨rfl, dn, low, s3, s4, s5, s6, rfl, g1, g2, g3, g4⟩ := hI
    have hi : i < r.length := by rw [← hn]; exact (List.getElem?_eq_some_iff.mp hd).1
    by_cases hc : low < r.length
    · have hp := mkPc_hl r low hc
      have hp2 := mkPc_hi r low
      obtain ⟨s5', s6', hk⟩ := ev_lpB r β2 ho dn low (.v d) s4 s5 s6 hc g4
      refine ⟨[.v (rowD r), .own (dn.map pcD), .v (.int (low : Nat)), .v d, s4, s5, s6], _, _, rfl, (mIfS_t (β1 := β2) ?_).trans hk, rfl, dn ++ [mkPc r low], (mkPc r low).hi + 1, _, _, _, _, rfl, ?_, by omega, by omega, by rw [List.length_append]; simp; omega⟩
      · walk_at "mx"
        rw [decide_eq_true (by omega)]
      · rw [List.append_assoc, ← g1, P_cons hc]
        rfl
    · refine ⟨[.v (rowD r), .own (dn.map pcD), .v (.int (low : Nat)), .v d, s4, s5, s6], _, _, rfl, mIfS_f (β1 := β2) ?_, rfl, dn, low, _, _, _, _, rfl, g1, by omega, g3, g4⟩
      walk_at "mx"
      rw [decide_eq_false (by omega)]
  obtain ⟨ρ', β', h1, h2, dn, low, s3, s4, s5, s6, h3, g1, g2, g3, g4⟩ := for_inv (mg := mGn 3) (mb := mIfS (mTest (mOp ltD (mPk 2) (mF lenD (mPk 0)))) lpB (fun ρ β => some (.nx, ρ, β)))
    (fun j ρ β2 => β2 = β ∧ ∃ (dn : List Pc) (low : Nat) (s3 s4 s5 s6 : Slot), ρ = [.v (rowD r), .own (dn.map pcD), .v (.int (low : Nat)), s3, s4, s5, s6] ∧ dn ++ P r low = P r 0 ∧ j ≤ low ∧ low ≤ r.length ∧ dn.length ≤ low)
    (rangeD 0 (r.length : Int)) 0 [.v (rowD r), .own [], .v (.int 0), .no, .no, .no, .no] β ⟨rfl, [], 0, .no, .no, .no, .no, rfl, rfl, Nat.le_refl _, Nat.zero_le _, Nat.le_refl _⟩ hstep
  subst h2 h3
  have el : low = r.length := by omega
  subst el
  rw [P_nil (Nat.le_refl _), List.append_nil] at g1
  subst g1
  refine fn_rt (ρ' := [.v (rowD r), .own ((P r 0).map pcD), .v (.int (r.length : Nat)), s3, s4, s5, s6]) ?_
  refine seq_nx (ρ1 := [.v (rowD r), .own [], .v (.int 0), .no, .no, .no, .no]) (β1 := β') (by walk_at "mx") ?_
  refine seq_nx (ρ1 := [.v (rowD r), .own ((P r 0).map pcD), .v (.int (r.length : Nat)), s3, s4, s5, s6]) (β1 := β') ?_ ?_
  · exact (mFor_ok (mRg1_ok (i := (r.length : Int)) (β1 := β') (by walk_at "mx") (in62_nat (by omega) (by omega)))).trans h1
  · walk_at "mx"
end K31
namespace K31
open PySem PySem.Spec PyProof.Rows L2 M
/-! ### members, row_of -/
def mem (p : Pc) (k : Nat) : List Int := if k = 0 then p.fi else addSt p.fi p.st k
def members (p : Pc) : List (List Int) := (List.range (p.hi - p.lo + 1)).map (mem p)
def rowOf (ps : List Pc) : List (List Int) := ps.flatMap members
/-- a piece that the machine can hold -/
structure PcOk (p : Pc) : Prop where
  ord : p.lo ≤ p.hi
  hi : p.hi ≤ 500000
  wid : p.fi.length ≤ 1000
theorem range_succ_map {α : Type} (f : Nat → α) (n : Nat) : (List.range (n + 1)).map f = f 0 :: (List.range n).map fun i => f (i + 1) := by
  rw [List.range_succ_eq_map, List.map_cons, List.map_map]
  rfl
theorem ev_members_of (p : Pc) (β : Bag) (h : PcOk p) : m_members_of [.v (pcD p)] β = some (.list ((members p).map iT), β) := by
  have h1 := h.ord
  have h2 := h.hi
  have h3 := h.wid
  unfold m_members_of b_members_of
  refine fn_rt (ρ' := [.v (pcD p), .v (.int p.lo), .v (.int p.hi), .v (iT p.fi), .v (iT p.st), .no]) ?_
  refine seq_nx (ρ1 := [.v (pcD p), .v (.int p.lo), .v (.int p.hi), .v (iT p.fi), .v (iT p.st), .no]) (β1 := β) ?_ ?_
  · unfold pcD
    walk_at "mx"
  have e1 : (rangeD 1 ((p.hi : Int) - p.lo + 1)) = (List.range (p.hi - p.lo)).map fun k => PyData.int (1 + (k : Nat)) := by
    unfold rangeD
    congr 2
    omega
  have hl : lcGo [.v (pcD p), .v (.int p.lo), .v (.int p.hi), .v (iT p.fi), .v (iT p.st), .no] (mGn 5) mYes (mCall m_with_steps (mAv (mNm 3) (mAv (mNm 4) (mAv (mNm 5) mAn)))) (rangeD 1 ((p.hi : Int) - p.lo + 1)) β = some ((List.range (p.hi - p.lo)).map (fun k => iT (addSt p.fi p.st (1 + (k : Nat)))), β) := by
    rw [e1]
    refine lcGo_map _ _ _ fun k hk => ⟨_, rfl, rfl, ?_⟩
    have hk := List.mem_range.mp hk
    walk_at "mx"
    exact ev_with_steps _ _ _ β (by rw [szN]; omega) (in64_sm (by omega) (by omega))
  have hr : mRg2 (mC (.int 1)) (mOp addD (mOp subD (mPk 2) (mPk 1)) (mC (.int 1))) [.v (pcD p), .v (.int p.lo), .v (.int p.hi), .v (iT p.fi), .v (iT p.st), .no] β = some (rangeD 1 ((p.hi : Int) - p.lo + 1), β) :=
    mRg2_ok (β1 := β) (β2 := β) rfl (by walk_at "mx") (in62_nat (by omega) (by omega)) (in62_nat (by omega) (by omega))
  have hlen : ((List.range (p.hi - p.lo)).map (fun k => iT (addSt p.fi p.st (1 + (k : Nat))))).length ≤ 500000 := by rw [List.length_map, List.length_range]; omega
  refine mRet_ok (mLst_ok (mLc1_ok (β1 := β) (d := iT p.fi) rfl (mLs_ok (β1 := β) (mFz_ok (mLc_ok (vs := [5]) hr hl (by rw [szN]; omega))) rfl rfl)) (by rw [List.append_nil, List.length_cons, szN]; omega)) |>.trans ?_
  rw [List.append_nil]
  unfold members
  rw [range_succ_map, List.map_cons, List.map_map]
  have : (fun k : Nat => iT (addSt p.fi p.st (1 + (k : Nat)))) = iT ∘ fun i => mem p (i + 1) := by
    funext k
    show iT (addSt p.fi p.st (1 + (k : Nat))) = iT (mem p (k + 1))
    unfold mem
    rw [if_neg (by omega), show (1 + (k : Int)) = ((k + 1 : Nat) : Int) by omega]
  rw [this]
  rfl
theorem lc2Go_map {ρ : List Slot} {mg : MG} {mt : MT} {mi1 : ML} {vs1 : List Nat} {mg1 : MG} {mt1 : MT} {me : ME} {β : Bag} {α γ : Type} (e : α → D) (g : α → List γ) (e1 f : γ → D) : ∀ (xs : List α), (∀ x ∈ xs, ∃ ρ2, mg (e x) ρ = some ρ2 ∧ mt ρ2 β = some (true, β) ∧ mi1 ρ2 β = some ((g x).map e1, β) ∧ ∀ y ∈ g x, ∃ ρ3, mg1 (e1 y) (wipeR ρ2 vs1) = some ρ3 ∧ mt1 ρ3 β = some (true, β) ∧ me ρ3 β = some (f y, β)) →
    lc2Go ρ mg mt mi1 vs1 mg1 mt1 me (xs.map e) β = some ((xs.flatMap g).map f, β)
  | [], _ => rfl
  | x :: r, h => by
    obtain ⟨ρ2, h1, h2, h3, h4⟩ := h x List.mem_cons_self
    have ih := lc2Go_map e g e1 f r fun y hy => h y (List.mem_cons_of_mem _ hy)
    simp only [List.map_cons, lc2Go, h1, h2, h3, Option.bind_some, if_true, lcGo_map e1 f (g x) h4, ih, Option.map_some, List.flatMap_cons, List.map_append]
theorem ev_row_of (ps : List Pc) (β : Bag) (h : ∀ p ∈ ps, PcOk p) (hl : (rowOf ps).length ≤ sizeLine) : m_row_of [.v (pcsD ps)] β = some (rowD (rowOf ps), β) := by
  unfold m_row_of b_row_of
  refine fn_rt (ρ' := [.v (pcsD ps), .no, .no]) ?_
  have h1 := lc2Go_map (ρ := [.v (pcsD ps), .no, .no]) (mg := mGn 1) (mt := mYes) (mi1 := mIt (mCall m_members_of (mAv (mNm 1) mAn))) (vs1 := [2]) (mg1 := mGn 2) (mt1 := mYes) (me := mNm 2) (β := β) pcD members iT iT ps (fun p hp => ⟨_, rfl, rfl, mIt_ok (β1 := β) (d := .list ((members p).map iT)) (by walk_at "mx"; exact ev_members_of p β (h p hp)) rfl, fun y _ => ⟨_, rfl, rfl, rfl⟩⟩)
  exact mRet_ok (mF_ok (mFz_ok (mLc2_ok (mIt_ok (β1 := β) (d := pcsD ps) (ds := ps.map pcD) rfl rfl) h1 (by rw [List.length_map]; exact hl))) rfl)
/-! ### the row behind its pieces -/
def Uni (w : Nat) (r : List (List Int)) : Prop := ∀ x ∈ r, x.length = w
theorem Uni.gt {w : Nat} {r : List (List Int)} (h : Uni w r) {i : Nat} (hi : i < r.length) : (gtR r i).length = w := h _ (List.mem_of_getElem? (gtR_some hi))
theorem addSt_zero : ∀ (a s : List Int), a.length = s.length → addSt a s 0 = a
  | [], [], _ => rfl
  | x :: a, y :: s, h => by
    show (x + y * 0) :: addSt a s 0 = x :: a
    rw [addSt_zero a s (by simpa using h), Int.mul_zero, Int.add_zero]
theorem addSt_succ : ∀ (a s b : List Int) (k : Int), a.length = s.length → b.length = s.length → stepI (addSt a s k) b = s → b = addSt a s (k + 1)
  | [], [], [], _, _, _, _ => rfl
  | x :: a, y :: s, z :: b, k, h1, h2, h3 => by
    have h3 : (z - (x + y * k)) :: stepI (addSt a s k) b = y :: s := h3
    injection h3 with e1 e2
    show z :: b = (x + y * (k + 1)) :: addSt a s (k + 1)
    rw [← addSt_succ a s b k (by simpa using h1) (by simpa using h2) e2]
    congr 1
    rw [Int.mul_add, Int.mul_one]
    omega
theorem stepI_len {a b : List Int} : (stepI a b).length = min a.length b.length := List.length_zipWith
theorem addSt_len {a b : List Int} {k : Int} : (addSt a b k).length = min a.length b.length := List.length_zipWith
theorem mem_run {w : Nat} {r : List (List Int)} (hu : Uni w r) {low : Nat} {st : List Int} (hs : st.length = w) (hl : low < r.length) : ∀ k, low + k ≤ runEnd r st low → low + k < r.length → addSt (gtR r low) st k = gtR r (low + k)
  | 0, _, _ => by
    rw [show ((0 : Nat) : Int) = 0 from rfl, addSt_zero _ _ ((hu.gt hl).trans hs.symm)]
    rfl
  | k + 1, h1, h2 => by
    have ih := mem_run hu hs hl k (by omega) (by omega)
    have hst := runEnd_step r st low (low + k) (by omega) (by omega)
    rw [← ih] at hst
    rw [show ((k + 1 : Nat) : Int) = (k : Int) + 1 from rfl]
    exact (addSt_succ _ _ _ _ ((hu.gt hl).trans hs.symm) ((hu.gt (i := low + k + 1) (by omega)).trans hs.symm) hst).symm
theorem mem_mk {w : Nat} {r : List (List Int)} (hu : Uni w r) {low : Nat} (hl : low < r.length) {k : Nat} (hk : low + k ≤ (mkPc r low).hi) : mem (mkPc r low) k = gtR r (low + k) := by
  have hh := mkPc_hl r low hl
  unfold mem
  by_cases h0 : k = 0
  · subst h0
    rw [if_pos rfl, mkPc_fi]
    rfl
  · rw [if_neg h0]
    unfold mkPc at hk ⊢
    by_cases hc : low + 1 < r.length
    · rw [if_pos hc] at hk ⊢
      have hk : low + k ≤ runEnd r (stepI (gtR r low) (gtR r (low + 1))) (low + 1) := hk
      rw [← runEnd_first hc] at hk
      have hlt := runEnd_lt r (stepI (gtR r low) (gtR r (low + 1))) low hl
      exact mem_run hu (by rw [stepI_len, hu.gt hl, hu.gt hc, Nat.min_self]) hl k hk (by omega)
    · rw [if_neg hc] at hk
      have hk : low + k ≤ low := hk
      omega
theorem range_gt (r : List (List Int)) (low n : Nat) (h : low + n ≤ r.length) : (List.range n).map (fun k => gtR r (low + k)) = (r.drop low).take n := by
  apply List.ext_getElem?
  intro i
  rw [List.getElem?_map, List.getElem?_take]
  by_cases hi : i < n
  · rw [List.getElem?_range hi, if_pos hi, List.getElem?_drop, gtR_some (by omega)]
    rfl
  · rw [if_neg hi, List.getElem?_eq_none (by rw [List.length_range]; omega)]
    rfl
theorem members_mk {w : Nat} {r : List (List Int)} (hu : Uni w r) {low : Nat} (hl : low < r.length) : members (mkPc r low) = (r.drop low).take ((mkPc r low).hi + 1 - low) := by
  have hh := mkPc_hl r low hl
  have h2 := mkPc_hi r low
  unfold members
  rw [mkPc_lo, ← range_gt r low _ (by omega)]
  rw [show (mkPc r low).hi - low + 1 = (mkPc r low).hi + 1 - low by omega]
  apply List.map_congr_left
  intro k hk
  have := List.mem_range.mp hk
  exact mem_mk hu hl (by omega)
theorem rowOf_P {w : Nat} {r : List (List Int)} (hu : Uni w r) (low : Nat) : rowOf (P r low) = r.drop low := by
  by_cases hl : low < r.length
  · have h2 := mkPc_hi r low
    rw [P_cons hl]
    show members (mkPc r low) ++ rowOf (P r ((mkPc r low).hi + 1)) = r.drop low
    rw [members_mk hu hl, rowOf_P hu ((mkPc r low).hi + 1)]
    have e : r.drop ((mkPc r low).hi + 1) = (r.drop low).drop ((mkPc r low).hi + 1 - low) := by
      rw [List.drop_drop]
      congr 1
      omega
    rw [e, List.take_append_drop]
  · rw [P_nil (by omega), List.drop_eq_nil_of_le (by omega)]
    rfl
termination_by r.length - low
decreasing_by have := mkPc_hi r low; omega
theorem rowOf_P0 {w : Nat} {r : List (List Int)} (hu : Uni w r) : rowOf (P r 0) = r := rowOf_P hu 0
theorem P_inj {w w' : Nat} {r s : List (List Int)} (hu : Uni w r) (hv : Uni w' s) (h : P r 0 = P s 0) : r = s := by
  rw [← rowOf_P0 hu, ← rowOf_P0 hv, h]
/-- what holds of each piece of a row -/
theorem P_all {r : List (List Int)} {Q : Pc → Prop} (h : ∀ low, low < r.length → Q (mkPc r low)) : ∀ low, ∀ p ∈ P r low, Q p := by
  intro low p hp
  by_cases hl : low < r.length
  · rw [P_cons hl] at hp
    rcases List.mem_cons.mp hp with e | hp
    · rw [e]; exact h low hl
    · exact P_all h _ p hp
  · rw [P_nil (by omega)] at hp
    cases hp
termination_by low => r.length - low
decreasing_by have := mkPc_hi r low; omega
theorem P_ok {r : List (List Int)} (ho : RowOk r) : ∀ p ∈ P r 0, PcOk p := P_all (fun low hl => by
  have h1 := ho.len
  have h2 := mkPc_hl r low hl
  refine ⟨by rw [mkPc_lo]; exact mkPc_hi r low, by omega, ?_⟩
  rw [mkPc_fi]
  exact ho.wid _ (List.mem_of_getElem? (gtR_some hl))) 0
theorem ev_row_of_P {w : Nat} {r : List (List Int)} (hu : Uni w r) (ho : RowOk r) (β : Bag) : m_row_of [.v (pcsD (P r 0))] β = some (rowD r, β) := by
  have := ev_row_of (P r 0) β (P_ok ho) (by rw [rowOf_P0 hu, szN]; have := ho.len; omega)
  rw [rowOf_P0 hu] at this
  exact this
/-! ### turns_of, cut, joined, added, column, member_at -/
theorem slD_a {α : Type} (f : α → D) (xs : List α) (a : Nat) : slD (.tuple (xs.map f)) (some (a : Int)) none = some (.tuple ((xs.drop a).map f)) := by
  unfold slD
  simp only [cutD_a, List.map_drop]
theorem slD_b {α : Type} (f : α → D) (xs : List α) (b : Nat) (h : b ≤ xs.length) : slD (.tuple (xs.map f)) none (some (b : Int)) = some (.tuple ((xs.take b).map f)) := by
  unfold slD
  simp only
  rw [cutD_b (by rw [List.length_map]; exact h), List.map_take]
theorem slD_ab {α : Type} (f : α → D) (xs : List α) (a b : Nat) (h : b ≤ xs.length) : slD (.tuple (xs.map f)) (some (a : Int)) (some (b : Int)) = some (.tuple (((xs.drop a).take (b - a)).map f)) := by
  unfold slD
  simp only
  rw [cutD_ab (by rw [List.length_map]; exact h), List.map_take, List.map_drop]
theorem ev_turns_of (ps : List Pc) (β : Bag) (hl : ps.length ≤ 500000) : m_turns_of [.v (pcsD ps)] β = some (.tuple ((ps.drop 1).map fun p => .int p.lo), β) := by
  unfold m_turns_of b_turns_of
  refine fn_rt (ρ' := [.v (pcsD ps), .no]) ?_
  refine mRet_ok (mF_ok (mFz_ok (mLc_ok (β1 := β) (mIt_ok (β1 := β) (mSl_ok (β1 := β) (β2 := β) (β3 := β) (d := pcsD ps) rfl (mOs_ok (β1 := β) (i := ((1 : Nat) : Int)) rfl) rfl (slD_a pcD ps 1)) rfl) (lcGo_map pcD (fun p => .int p.lo) (ps.drop 1) fun p _ => ⟨_, rfl, rfl, mOp_ok (β1 := β) rfl rfl (ix_pc0 p)⟩) ?_)) rfl)
  rw [List.length_map, List.length_drop, szN]
  omega
theorem RowOk.sub {r s : List (List Int)} (h : RowOk r) (hs : ∀ x ∈ s, x ∈ r) (hl : s.length ≤ 500000) : RowOk s := ⟨hl, fun x hx => h.wid x (hs x hx)⟩
theorem mem_cut {α : Type} {r : List α} {a b : Nat} : ∀ x ∈ (r.drop a).take b, x ∈ r := fun x hx => List.mem_of_mem_drop (List.mem_of_mem_take hx)
theorem ev_cut {w : Nat} {r : List (List Int)} (hu : Uni w r) (ho : RowOk r) (lo hi : Nat) (β : Bag) (h1 : lo ≤ hi) (h2 : hi < r.length) : m_cut [.v (pcsD (P r 0)), .v (.int lo), .v (.int hi)] β = some (pcsD (P ((r.drop lo).take (hi + 1 - lo)) 0), β) := by
  have hlen := ho.len
  unfold m_cut b_cut
  refine fn_rt (ρ' := [.v (pcsD (P r 0)), .v (.int lo), .v (.int hi)]) ?_
  have e : ((hi : Int) + 1) = ((hi + 1 : Nat) : Int) := by omega
  refine mRet_ok (mCall_ok (mAv_ok (β1 := β) (mSl_ok (β1 := β) (β2 := β) (β3 := β) (mCall_ok (β1 := β) (mAv_ok (β1 := β) rfl rfl) (ev_row_of_P hu ho β)) (mOs_ok (β1 := β) (i := (lo : Int)) rfl) (mOs_ok (β1 := β) (i := ((hi + 1 : Nat) : Int)) (mOp_ok (β1 := β) (β2 := β) rfl rfl (by rw [← e]; rfl))) (slD_ab iT r lo (hi + 1) (by omega))) rfl) (ev_pieces_of _ β (ho.sub mem_cut (by rw [List.length_take]; omega)) (by rw [List.length_take, List.length_drop]; omega)))
theorem ev_joined {w : Nat} {r s : List (List Int)} (hu : Uni w r) (ho : RowOk r) (hv : Uni w s) (hp : RowOk s) (hl : r.length + s.length ≤ 500000) (h0 : 0 < r.length) (β : Bag) : m_joined [.v (pcsD (P r 0)), .v (pcsD (P s 0))] β = some (pcsD (P (r ++ s) 0), β) := by
  unfold m_joined b_joined
  refine fn_rt (ρ' := [.v (pcsD (P r 0)), .v (pcsD (P s 0))]) ?_
  have hok : RowOk (r ++ s) := ⟨by rw [List.length_append]; exact hl, fun x hx => (List.mem_append.mp hx).elim (ho.wid x) (hp.wid x)⟩
  have hm : mTup (mLs (mCall m_row_of (mAv (mNm 0) mAn)) (mLs (mCall m_row_of (mAv (mNm 1) mAn)) mLn)) [.v (pcsD (P r 0)), .v (pcsD (P s 0))] β = some (rowD (r ++ s), β) := by
    refine (mTup_ok (mLs_ok (β1 := β) (mCall_ok (β1 := β) (mAv_ok (β1 := β) rfl rfl) (ev_row_of_P hu ho β)) rfl (mLs_ok (β1 := β) (mCall_ok (β1 := β) (mAv_ok (β1 := β) rfl rfl) (ev_row_of_P hv hp β)) rfl rfl)) ?_).trans ?_
    · rw [List.append_nil, List.length_append, List.length_map, List.length_map, szN]
      omega
    · rw [List.append_nil, ← List.map_append]
  exact mRet_ok (mCall_ok (mAv_ok (β1 := β) hm rfl) (ev_pieces_of _ β hok (by rw [List.length_append]; omega)))
theorem zipR_map (r s : List (List Int)) : List.zipWith pairD (r.map iT) (s.map iT) = (r.zip s).map fun p => pairD (iT p.1) (iT p.2) := by
  induction r generalizing s with
  | nil => rfl
  | cons x r ih =>
    cases s with
    | nil => rfl
    | cons y s => simp only [List.map_cons, List.zipWith_cons_cons, List.zip_cons_cons, ih]
def sumR (r s : List (List Int)) : List (List Int) := List.zipWith (fun a b => List.zipWith (fun x y => x + y) a b) r s
theorem addSt_one (a b : List Int) : addSt a b 1 = List.zipWith (fun x y => x + y) a b := by
  unfold addSt
  congr 1
  funext x y
  rw [Int.mul_one]
theorem sumR_map (r s : List (List Int)) (g : List Int × List Int → D) (hg : ∀ p, g p = iT (List.zipWith (fun x y => x + y) p.1 p.2)) : (r.zip s).map g = (sumR r s).map iT := by
  unfold sumR
  induction r generalizing s with
  | nil => rfl
  | cons x r ih =>
    cases s with
    | nil => rfl
    | cons y s => simp only [List.map_cons, List.zipWith_cons_cons, List.zip_cons_cons, ih, hg]
theorem sumR_ok {r s : List (List Int)} (ho : RowOk r) (hs : s.length ≤ 500000) : RowOk (sumR r s) := by
  have h1 := ho.len
  refine ⟨by unfold sumR; rw [List.length_zipWith]; omega, fun x hx => ?_⟩
  unfold sumR at hx
  rw [← List.map_uncurry_zip_eq_zipWith] at hx
  obtain ⟨p, hp, rfl⟩ := List.mem_map.mp hx
  have := ho.wid p.1 (List.of_mem_zip (a := p.1) (b := p.2) hp).1
  show (List.zipWith _ p.1 p.2).length ≤ 1000
  rw [List.length_zipWith]
  omega
theorem ev_added {w : Nat} {r s : List (List Int)} (hu : Uni w r) (ho : RowOk r) (hv : Uni w s) (hp : RowOk s) (h0 : 0 < r.length) (h1 : 0 < s.length) (β : Bag) : m_added [.v (pcsD (P r 0)), .v (pcsD (P s 0))] β = some (pcsD (P (sumR r s) 0), β) := by
  have l1 := ho.len
  have l2 := hp.len
  unfold m_added b_added
  refine fn_rt (ρ' := [.v (pcsD (P r 0)), .v (pcsD (P s 0)), .v (.list ((sumR r s).map iT)), .no, .no]) ?_
  refine seq_nx (ρ1 := [.v (pcsD (P r 0)), .v (pcsD (P s 0)), .v (.list ((sumR r s).map iT)), .no, .no]) (β1 := β) ?_ ?_
  · refine mSet_ok (mFz_ok (mLc_ok (β1 := β) (mZip_ok (β1 := β) (mCall_ok (β1 := β) (mAv_ok (β1 := β) rfl rfl) (ev_row_of_P hu ho β)) (mCall_ok (β1 := β) (mAv_ok (β1 := β) rfl rfl) (ev_row_of_P hv hp β)) rfl rfl) ?_ (by rw [List.length_map]; unfold sumR; rw [List.length_zipWith, szN]; omega)))
    rw [zipR_map, ← sumR_map r s (fun p => iT (addSt p.1 p.2 1)) (fun p => by rw [addSt_one])]
    refine lcGo_map _ _ _ fun p hq => ⟨_, rfl, rfl, mCall_ok (β1 := β) (mAv_ok (β1 := β) rfl (mAv_ok (β1 := β) rfl (mAv_ok (β1 := β) rfl rfl))) (ev_with_steps _ _ 1 β ?_ (in64_sm (by decide) (by decide)))⟩
    have := ho.wid p.1 (List.of_mem_zip (a := p.1) (b := p.2) hq).1
    rw [szN]
    omega
  · exact mRet_ok (mCall_ok (mAv_ok (β1 := β) (mF_ok (β1 := β) (d := .list ((sumR r s).map iT)) rfl rfl) rfl) (ev_pieces_of _ β (sumR_ok ho l2) (by unfold sumR; rw [List.length_zipWith]; omega)))
def colR (r : List (List Int)) (at_ : Nat) : List (List Int) := r.map fun x => [x[at_]?.getD 0]
theorem colR_ok {r : List (List Int)} (ho : RowOk r) (k : Nat) : RowOk (colR r k) := ⟨by unfold colR; rw [List.length_map]; exact ho.len, fun x hx => by
  unfold colR at hx
  obtain ⟨y, _, rfl⟩ := List.mem_map.mp hx
  exact (by decide : 1 ≤ 1000)⟩
theorem ix_iT {x : List Int} {k : Nat} (h : k < x.length) : ixD (iT x) (.int (k : Int)) = some (.int (x[k]?.getD 0)) := by
  show atI (x.map PyData.int) (k : Int) = _
  refine atI_nat' ?_
  rw [List.getElem?_map, List.getElem?_eq_getElem h]
  rfl
theorem ev_column {w : Nat} {r : List (List Int)} (hu : Uni w r) (ho : RowOk r) (k : Nat) (hk : k < w) (h0 : 0 < r.length) (β : Bag) : m_column [.v (pcsD (P r 0)), .v (.int k)] β = some (pcsD (P (colR r k) 0), β) := by
  have l1 := ho.len
  unfold m_column b_column
  refine fn_rt (ρ' := [.v (pcsD (P r 0)), .v (.int k), .no]) ?_
  have hl : lcGo [.v (pcsD (P r 0)), .v (.int k), .no] (mGn 2) mYes (mTup (mLc1 (mOp ixD (mPk 2) (mPk 1)) mLn)) (r.map iT) β = some ((colR r k).map iT, β) := by
    unfold colR
    rw [List.map_map]
    refine lcGo_map _ _ _ fun x hx => ⟨_, rfl, rfl, mTup_ok (mLc1_ok (β1 := β) (mOp_ok (β1 := β) rfl rfl (ix_iT (by rw [hu x hx]; exact hk))) rfl) (by rw [szN]; exact (by decide : 1 ≤ 16777216))⟩
  exact mRet_ok (mCall_ok (mAv_ok (β1 := β) (mF_ok (β1 := β) (mFz_ok (mLc_ok (β1 := β) (mIt_ok (β1 := β) (mCall_ok (β1 := β) (mAv_ok (β1 := β) rfl rfl) (ev_row_of_P hu ho β)) rfl) hl (by rw [List.length_map]; unfold colR; rw [List.length_map, szN]; omega))) rfl) rfl) (ev_pieces_of _ β (colR_ok ho k) (by unfold colR; rw [List.length_map]; exact h0)))
theorem P_lo (r : List (List Int)) : ∀ low, ∀ p ∈ P r low, low ≤ p.lo := by
  intro low p hp
  have hh := mkPc_hi r low
  by_cases hl : low < r.length
  · rw [P_cons hl] at hp
    rcases List.mem_cons.mp hp with e | hp
    · rw [e, mkPc_lo]; exact Nat.le_refl _
    · have := P_lo r _ p hp
      omega
  · rw [P_nil (by omega)] at hp
    cases hp
termination_by low => r.length - low
decreasing_by have := mkPc_hi r low; omega
/-- the last piece that begins at or before i -/
theorem last_lo {w : Nat} {r : List (List Int)} (hu : Uni w r) (i : Nat) (hi : i < r.length) : ∀ low, low ≤ i → ∃ qs p, (P r low).filter (fun p => decide ((p.lo : Int) ≤ (i : Int))) = qs ++ [p] ∧ True ∧ p.lo ≤ i ∧ mem p (i - p.lo) = gtR r i := by
  intro low hl
  have hh := mkPc_hi r low
  rw [P_cons (by omega)]
  by_cases hc : (mkPc r low).hi + 1 ≤ i
  · obtain ⟨qs, p, h1, h2⟩ := last_lo hu i hi ((mkPc r low).hi + 1) hc
    refine ⟨mkPc r low :: qs, p, ?_, h2⟩
    rw [List.filter_cons_of_pos (by rw [mkPc_lo]; exact decide_eq_true (by omega)), h1]
    rfl
  · refine ⟨[], mkPc r low, ?_, ?_, by rw [mkPc_lo]; exact hl, ?_⟩
    · rw [List.filter_cons_of_pos (by rw [mkPc_lo]; exact decide_eq_true (by omega))]
      have : (P r ((mkPc r low).hi + 1)).filter (fun p => decide ((p.lo : Int) ≤ (i : Int))) = [] := by
        apply List.filter_eq_nil_iff.mpr
        intro p hp
        have := P_lo r ((mkPc r low).hi + 1) p hp
        simp
        omega
      rw [this]
      rfl
    · trivial
    · rw [mkPc_lo]
      have := mem_mk hu (low := low) (by omega) (k := i - low) (by omega)
      rw [this]
      congr 1
      omega
termination_by low => r.length - low
decreasing_by have := mkPc_hi r low; omega
theorem ev_member_at {w : Nat} {r : List (List Int)} (hu : Uni w r) (ho : RowOk r) (i : Nat) (hi : i < r.length) (β : Bag) : m_member_at [.v (pcsD (P r 0)), .v (.int i)] β = some (iT (gtR r i), β) := by
  have l1 := ho.len
  obtain ⟨qs, p, h1, _, h3, h4⟩ := last_lo hu i hi 0 (Nat.zero_le _)
  have hp : PcOk p := P_ok ho p (List.mem_filter.mp (by rw [h1]; simp : p ∈ (P r 0).filter (fun p => decide ((p.lo : Int) ≤ (i : Int))))).1
  have e1 : ((i : Int) - (p.lo : Int)) = ((i - p.lo : Nat) : Int) := by omega
  unfold m_member_at b_member_at
  refine fn_rt (ρ' := [.v (pcsD (P r 0)), .v (.int i), .v (pcD p), .v (.int (i - p.lo : Nat)), .no]) ?_
  refine seq_nx (ρ1 := [.v (pcsD (P r 0)), .v (.int i), .v (pcD p), .no, .no]) (β1 := β) ?_ ?_
  · have hl : lcGo [.v (pcsD (P r 0)), .v (.int i), .no, .no, .no] (mGn 4) (mTest (mOp leD (mOp ixD (mPk 4) (mC (.int 0))) (mPk 1))) (mNm 4) ((P r 0).map pcD) β = some ((qs ++ [p]).map pcD, β) := by
      rw [← h1]
      refine lcGo_filter pcD pcD (fun p => decide ((p.lo : Int) ≤ (i : Int))) _ fun q _ => ⟨_, rfl, mTest_ok (mOp_ok (β1 := β) (mOp_ok (β1 := β) rfl rfl (ix_pc0 q)) rfl rfl), fun _ => rfl⟩
    refine mSet_ok (mOp_ok (β1 := β) (mFz_ok (mLc_ok (β1 := β) (mIt_ok (β1 := β) (d := pcsD (P r 0)) rfl rfl) hl ?_)) (mF_ok (β1 := β) rfl rfl) ?_)
    · have := P_length r 0
      have h5 : (qs ++ [p]).length ≤ (P r 0).length := by rw [← h1]; exact List.length_filter_le _ _
      rw [List.length_map, szN]
      omega
    · rw [List.map_append]
      exact atI_last
  refine seq_nx (ρ1 := [.v (pcsD (P r 0)), .v (.int i), .v (pcD p), .v (.int (i - p.lo : Nat)), .no]) (β1 := β) (mSet_ok (mOp_ok (β1 := β) rfl (mOp_ok (β1 := β) rfl rfl (ix_pc0 p)) (by rw [← e1]; rfl))) ?_
  refine mRet_ok ?_
  by_cases h0 : i - p.lo = 0
  · rw [mIf_t (mTest_ok (mOp_ok (β1 := β) rfl rfl ((eqD_int _ _).trans (by rw [decide_eq_true (by omega)]))))]
    rw [← h4]
    unfold mem
    rw [if_pos h0]
    exact mOp_ok (β1 := β) rfl rfl (ix_pc2 p)
  · rw [mIf_f (mTest_ok (mOp_ok (β1 := β) rfl rfl ((eqD_int _ _).trans (by rw [decide_eq_false (by omega)]))))]
    rw [← h4]
    unfold mem
    rw [if_neg h0]
    have := hp.wid
    exact mCall_ok (β1 := β) (mAv_ok (β1 := β) (mOp_ok (β1 := β) rfl rfl (ix_pc2 p)) (mAv_ok (β1 := β) (mOp_ok (β1 := β) rfl rfl (ix_pc3 p)) (mAv_ok (β1 := β) rfl rfl))) (ev_with_steps _ _ _ β (by rw [szN]; omega) (in64_sm (by omega) (by omega)))
end K31
namespace K31
open PySem PySem.Spec PyProof.Rows L2 M
/-! ### data compared node by node -/
mutual
def nd : D → Nat
  | .list xs => ndA xs + 1
  | .tuple xs => ndA xs + 1
  | _ => 1
def ndA : List D → Nat
  | [] => 0
  | x :: r => nd x + ndA r
end
theorem nd_pos (d : D) : 0 < nd d := by cases d <;> unfold nd <;> omega
mutual
/-- no dict, texts as they may be -/
def pb : D → Bool
  | .none => true
  | .bool _ => true
  | .int _ => true
  | .str x => PyData.strOk x
  | .list xs => pbA xs
  | .tuple xs => pbA xs
  | .dict _ => false
def pbA : List D → Bool
  | [] => true
  | x :: r => pb x && pbA r
end
def sqB (d : D) : Bool := isT d || isL d
def kids : D → List D
  | .list xs => xs
  | .tuple xs => xs
  | _ => []
theorem lenD_sq {d : D} (h : sqB d = true) : lenD d = some (.int (kids d).length) := by cases d <;> first | rfl | cases h
theorem seqD_sq {d : D} (h : sqB d = true) : seqD d = some (kids d) := by cases d <;> first | rfl | cases h
theorem nd_sq {d : D} (h : sqB d = true) : nd d = ndA (kids d) + 1 := by cases d <;> first | (unfold nd kids; rfl) | cases h
theorem pb_kids {d : D} (h : pb d = true) : pbA (kids d) = true := by cases d <;> first | (unfold pb at h; exact h) | rfl
theorem sq_eq {d e : D} (h : sqB d = true) (h' : sqB e = true) (ht : isT d = isT e) (hk : kids d = kids e) : d = e := by
  cases d <;> cases e <;> first | (cases hk; rfl) | exact absurd h Bool.false_ne_true | exact absurd h' Bool.false_ne_true | exact absurd ht Bool.false_ne_true | exact absurd ht.symm Bool.false_ne_true
abbrev pr (p : D × D) : D := pairD p.1 p.2
def sumN : List (D × D) → Nat
  | [] => 0
  | p :: r => nd p.1 + sumN r
theorem sumN_app (a b : List (D × D)) : sumN (a ++ b) = sumN a + sumN b := by
  induction a with
  | nil => simp [sumN]
  | cons p r ih => simp only [List.cons_append, sumN, ih]; omega
theorem sumN_zip : ∀ (a b : List D), sumN (a.zip b) ≤ ndA a
  | [], _ => by simp [sumN]
  | _ :: _, [] => by simp [sumN]
  | x :: a, y :: b => by
    have := sumN_zip a b
    simp only [List.zip_cons_cons, sumN, ndA]
    omega
theorem sumN_len : ∀ (a : List (D × D)), a.length ≤ sumN a
  | [] => Nat.zero_le _
  | p :: r => by
    have := sumN_len r
    have := nd_pos p.1
    simp only [List.length_cons, sumN]
    omega
theorem zip_pr (a b : List D) : List.zipWith pairD a b = (a.zip b).map pr := by
  induction a generalizing b with
  | nil => rfl
  | cons x a ih =>
    cases b with
    | nil => rfl
    | cons y b => simp only [List.zipWith_cons_cons, List.zip_cons_cons, List.map_cons, ih]
theorem zip_all_eq : ∀ {a b : List D}, a.length = b.length → ((∀ p ∈ a.zip b, p.1 = p.2) ↔ a = b)
  | [], [], _ => by simp
  | x :: a, y :: b, h => by
    have ih := zip_all_eq (a := a) (b := b) (by simpa using h)
    simp only [List.zip_cons_cons, List.mem_cons, List.cons.injEq]
    constructor
    · intro q
      exact ⟨q (x, y) (.inl rfl), ih.mp fun p hp => q p (.inr hp)⟩
    · rintro ⟨rfl, rfl⟩ p (rfl | hp)
      · rfl
      · exact ih.mpr rfl p hp
theorem pbA_mem : ∀ {xs : List D}, pbA xs = true → ∀ x ∈ xs, pb x = true
  | y :: r, h, x, hx => by
    unfold pbA at h
    obtain ⟨h1, h2⟩ := Bool.and_eq_true_iff.mp h
    rcases List.mem_cons.mp hx with e | hx
    · rw [e]; exact h1
    · exact pbA_mem h2 x hx
theorem pb_zip {a b : List D} (ha : pbA a = true) (hb : pbA b = true) : ∀ p ∈ a.zip b, pb p.1 = true ∧ pb p.2 = true := fun p hp =>
  ⟨pbA_mem ha _ (List.of_mem_zip (a := p.1) (b := p.2) hp).1, pbA_mem hb _ (List.of_mem_zip (a := p.1) (b := p.2) hp).2⟩
open Classical in
/-- != of things that are no lists, of one kind -/
theorem ne_flat {d e : D} (h : pb d = true) (h' : pb e = true) (hb : isB d = isB e) (hs : sqB d = false) (hs' : sqB e = false) : neD d e = some (.bool (!decide (d = e))) := by
  cases d with
  | bool x =>
    cases e <;> first
      | (rename_i y
         rw [neD_bool]
         congr 2
         have : (PyData.bool x = PyData.bool y) = (x = y) := propext ⟨fun q => by injection q, fun q => by rw [q]⟩
         simp only [this])
      | cases hb
  | dict _ => cases h
  | list _ => cases hs
  | tuple _ => cases hs
  | none =>
    cases e <;> first
      | (exact neD_pn ⟨rfl, Nat.zero_le _⟩ ⟨by first | rfl | exact h', Nat.zero_le _⟩)
      | exact absurd hb Bool.false_ne_true
      | exact absurd h' Bool.false_ne_true
      | exact absurd hs'.symm Bool.false_ne_true
  | int i =>
    cases e <;> first
      | (exact neD_pn ⟨rfl, Nat.zero_le _⟩ ⟨by first | rfl | exact h', Nat.zero_le _⟩)
      | exact absurd hb Bool.false_ne_true
      | exact absurd h' Bool.false_ne_true
      | exact absurd hs'.symm Bool.false_ne_true
  | str x =>
    cases e <;> first
      | (exact neD_pn ⟨h, Nat.zero_le _⟩ ⟨by first | rfl | exact h', Nat.zero_le _⟩)
      | exact absurd hb Bool.false_ne_true
      | exact absurd h' Bool.false_ne_true
      | exact absurd hs'.symm Bool.false_ne_true
/-! ### _law_alike -/
abbrev alB : MS := (mSeq (mAsg (mOp ixD (mPk 2) (mPk 3)) (mGt 2 (mGcons (mGn 4) (mGcons (mGn 5) mGnil))))
    (mSeq (mAug 3 (i2 fun a b => .int (a + b)) (mC (.int 1)))
    (mSeq (mIfS (mOr (mTest (mOp neD (mIs isB (mPk 4)) (mIs isB (mPk 5)))) (mTest (mOp neD (mIs isS (mPk 4)) (mIs isS (mPk 5))))) (mRet (mC (.bool false))) (fun ρ β => some (.nx, ρ, β)))
    (mSeq (mIfS (mTest (mOp neD (mIs (fun d => isT d || isL d) (mPk 4)) (mIs (fun d => isT d || isL d) (mPk 5)))) (mRet (mC (.bool false))) (fun ρ β => some (.nx, ρ, β)))
    (mIfS (mTru (mIs (fun d => isT d || isL d) (mPk 4))) (mSeq (mIfS (mOr (mTest (mOp neD (mIs isT (mPk 4)) (mIs isT (mPk 5)))) (mTest (mOp neD (mF lenD (mPk 4)) (mF lenD (mPk 5))))) (mRet (mC (.bool false))) (fun ρ β => some (.nx, ρ, β)))
    (mExt 2 (mLzV (mPk 4) (mPk 5)))) (mIfS (mTest (mOp neD (mPk 4) (mPk 5))) (mRet (mC (.bool false))) (fun ρ β => some (.nx, ρ, β))))))))
abbrev alR (d0 e0 : D) (ps : List (D × D)) (n : Nat) (d e : D) : List Slot := [.v d0, .v e0, .own (ps.map pr), .v (.int (n : Nat)), .v d, .v e]
theorem mIs_ok {f : D → Bool} {m : ME} {ρ : List Slot} {β β1 : Bag} {d : D} (h : m ρ β = some (d, β1)) : mIs f m ρ β = some (.bool (f d), β1) := by
  simp only [mIs, h, Option.map_some]
theorem mOr_t {m1 m2 : MT} {ρ : List Slot} {β β1 : Bag} (h : m1 ρ β = some (true, β1)) : mOr m1 m2 ρ β = some (true, β1) := by
  simp only [mOr, h, Option.bind_some, if_true]
theorem mOr_f {m1 m2 : MT} {ρ : List Slot} {β β1 : Bag} (h : m1 ρ β = some (false, β1)) : mOr m1 m2 ρ β = m2 ρ β1 := by
  simp only [mOr, h, Option.bind_some, Bool.false_eq_true, if_false]
theorem mAnd_t {m1 m2 : MT} {ρ : List Slot} {β β1 : Bag} (h : m1 ρ β = some (true, β1)) : mAnd m1 m2 ρ β = m2 ρ β1 := by
  simp only [mAnd, h, Option.bind_some, if_true]
theorem mAnd_f {m1 m2 : MT} {ρ : List Slot} {β β1 : Bag} (h : m1 ρ β = some (false, β1)) : mAnd m1 m2 ρ β = some (false, β1) := by
  simp only [mAnd, h, Option.bind_some, Bool.false_eq_true, if_false]
theorem mNot_ok {m1 : MT} {ρ : List Slot} {β β1 : Bag} {c : Bool} (h : m1 ρ β = some (c, β1)) : mNot m1 ρ β = some (!c, β1) := by
  simp only [mNot, h, Option.map_some]
theorem mTru_b {m : ME} {ρ : List Slot} {β β1 : Bag} {c : Bool} (h : m ρ β = some (.bool c, β1)) : mTru m ρ β = some (c, β1) := by
  simp only [mTru, h, truD, Option.bind_some, Option.map_some]
open Classical in
theorem ev_alike (d0 e0 : D) (β : Bag) (hd : pb d0 = true) (he : pb e0 = true) (hn : nd d0 ≤ 900000) : ∃ c : Bool, m_law_alike [.v d0, .v e0] β = some (.bool c, β) ∧ (c = true ↔ d0 = e0) := by
  unfold m_law_alike b_law_alike
  let I : Nat → List Slot → Bag → Prop := fun k ρ β2 => β2 = β ∧ ∃ (dn rs : List (D × D)) (s4 s5 : Slot), ρ = [.v d0, .v e0, .own ((dn ++ rs).map pr), .v (.int (dn.length : Nat)), s4, s5] ∧ (∀ p ∈ rs, pb p.1 = true ∧ pb p.2 = true) ∧ ((∀ p ∈ rs, p.1 = p.2) ↔ d0 = e0) ∧ k = sumN rs ∧ dn.length + sumN rs ≤ 900000
  let post : Out → List Slot → Bag → Prop := fun o ρ β2 => β2 = β ∧ ((o = .nx ∧ d0 = e0) ∨ (o = .rt (.bool false) ∧ d0 ≠ e0))
  have step : ∀ k ρ β2, I k ρ β2 → (∃ β1, mTest (mOp ltD (mPk 3) (mF lenD (mPk 2))) ρ β2 = some (false, β1) ∧ post .nx ρ β1) ∨ ∃ β1 ρ' β', mTest (mOp ltD (mPk 3) (mF lenD (mPk 2))) ρ β2 = some (true, β1) ∧ ((alB ρ β1 = some (.nx, ρ', β') ∧ ∃ k', k' < k ∧ I k' ρ' β') ∨ ∃ d, alB ρ β1 = some (.rt d, ρ', β') ∧ post (.rt d) ρ' β') := by
    rintro k ρ β2 ⟨rfl, dn, rs, s4, s5, rfl, hpb, hiff, rfl, hsz⟩
    cases rs with
    | nil =>
      refine .inl ⟨β2, mTest_ok (mOp_ok (β1 := β2) rfl (mF_ok (β1 := β2) rfl rfl) ?_), rfl, .inl ⟨rfl, hiff.mp fun p hp => nomatch hp⟩⟩
      rw [ltD_int, List.length_map, List.append_nil, decide_eq_false (by omega)]
    | cons q rs =>
      obtain ⟨d, e⟩ := q
      obtain ⟨pd, pe⟩ := hpb (d, e) List.mem_cons_self
      have hd1 := nd_pos d
      have hsz : dn.length + (nd d + sumN rs) ≤ 900000 := hsz
      have htest : mTest (mOp ltD (mPk 3) (mF lenD (mPk 2))) [.v d0, .v e0, .own ((dn ++ (d, e) :: rs).map pr), .v (.int (dn.length : Nat)), s4, s5] β2 = some (true, β2) := by
        refine mTest_ok (mOp_ok (β1 := β2) rfl (mF_ok (β1 := β2) rfl rfl) ?_)
        rw [ltD_int, List.length_map, List.length_append, List.length_cons, decide_eq_true (by omega)]
      have hget : atI ((dn ++ (d, e) :: rs).map pr) (dn.length : Int) = some (pairD d e) := by
        refine atI_nat' ?_
        rw [List.getElem?_map, List.getElem?_append_right (Nat.le_refl _), Nat.sub_self]
        rfl
      have h1 : mAsg (mOp ixD (mPk 2) (mPk 3)) (mGt 2 (mGcons (mGn 4) (mGcons (mGn 5) mGnil))) [.v d0, .v e0, .own ((dn ++ (d, e) :: rs).map pr), .v (.int (dn.length : Nat)), s4, s5] β2 = some (.nx, [.v d0, .v e0, .own ((dn ++ (d, e) :: rs).map pr), .v (.int (dn.length : Nat)), .v d, .v e], β2) := by
        unfold mAsg
        rw [mOp_ok (β1 := β2) (β2 := β2) (d := .list ((dn ++ (d, e) :: rs).map pr)) (e := .int (dn.length : Nat)) (z := pairD d e) rfl rfl hget]
        rfl
      have h2 : mAug 3 (i2 fun a b => .int (a + b)) (mC (.int 1)) [.v d0, .v e0, .own ((dn ++ (d, e) :: rs).map pr), .v (.int (dn.length : Nat)), .v d, .v e] β2 = some (.nx, (alR d0 e0 (dn ++ (d, e) :: rs) (dn.length + 1) d e), β2) := rfl
      have H : (alB [.v d0, .v e0, .own ((dn ++ (d, e) :: rs).map pr), .v (.int (dn.length : Nat)), s4, s5] β2 = some (.rt (.bool false), alR d0 e0 (dn ++ (d, e) :: rs) (dn.length + 1) d e, β2) ∧ d ≠ e) ∨ ∃ ns : List (D × D), (∀ p ∈ ns, pb p.1 = true ∧ pb p.2 = true) ∧ ((∀ p ∈ ns, p.1 = p.2) ↔ d = e) ∧ sumN ns < nd d ∧ alB [.v d0, .v e0, .own ((dn ++ (d, e) :: rs).map pr), .v (.int (dn.length : Nat)), s4, s5] β2 = some (.nx, alR d0 e0 (dn ++ (d, e) :: rs ++ ns) (dn.length + 1) d e, β2) := by
        have hB : mTest (mOp neD (mIs isB (mPk 4)) (mIs isB (mPk 5))) (alR d0 e0 (dn ++ (d, e) :: rs) (dn.length + 1) d e) β2 = some (!decide (isB d = isB e), β2) := mTest_ok (mOp_ok (β1 := β2) (mIs_ok rfl) (mIs_ok rfl) (neD_bool _ _))
        have hS : mTest (mOp neD (mIs isS (mPk 4)) (mIs isS (mPk 5))) (alR d0 e0 (dn ++ (d, e) :: rs) (dn.length + 1) d e) β2 = some (!decide (isS d = isS e), β2) := mTest_ok (mOp_ok (β1 := β2) (mIs_ok rfl) (mIs_ok rfl) (neD_bool _ _))
        have hQ : mTest (mOp neD (mIs (fun d => isT d || isL d) (mPk 4)) (mIs (fun d => isT d || isL d) (mPk 5))) (alR d0 e0 (dn ++ (d, e) :: rs) (dn.length + 1) d e) β2 = some (!decide (sqB d = sqB e), β2) := mTest_ok (mOp_ok (β1 := β2) (mIs_ok rfl) (mIs_ok rfl) (neD_bool _ _))
        by_cases b1 : isB d = isB e
        · rw [decide_eq_true b1] at hB
          by_cases b2 : isS d = isS e
          · rw [decide_eq_true b2] at hS
            by_cases b3 : sqB d = sqB e
            · rw [decide_eq_true b3] at hQ
              have pre : ∀ {m : MS} {r : Option (Out × List Slot × Bag)}, m (alR d0 e0 (dn ++ (d, e) :: rs) (dn.length + 1) d e) β2 = r → mSeq (mAsg (mOp ixD (mPk 2) (mPk 3)) (mGt 2 (mGcons (mGn 4) (mGcons (mGn 5) mGnil)))) (mSeq (mAug 3 (i2 fun a b => .int (a + b)) (mC (.int 1))) (mSeq (mIfS (mOr (mTest (mOp neD (mIs isB (mPk 4)) (mIs isB (mPk 5)))) (mTest (mOp neD (mIs isS (mPk 4)) (mIs isS (mPk 5))))) (mRet (mC (.bool false))) (fun ρ β => some (.nx, ρ, β))) (mSeq (mIfS (mTest (mOp neD (mIs (fun d => isT d || isL d) (mPk 4)) (mIs (fun d => isT d || isL d) (mPk 5)))) (mRet (mC (.bool false))) (fun ρ β => some (.nx, ρ, β))) m))) [.v d0, .v e0, .own ((dn ++ (d, e) :: rs).map pr), .v (.int (dn.length : Nat)), s4, s5] β2 = r := fun hm =>
                seq_nx h1 (seq_nx h2 (seq_nx (mIfS_f ((mOr_f hB).trans hS)) (seq_nx (mIfS_f hQ) hm)))
              cases hsq : sqB d with
              | true =>
                have hsq' : sqB e = true := by rw [← b3]; exact hsq
                have hT : mTest (mOp neD (mIs isT (mPk 4)) (mIs isT (mPk 5))) (alR d0 e0 (dn ++ (d, e) :: rs) (dn.length + 1) d e) β2 = some (!decide (isT d = isT e), β2) := mTest_ok (mOp_ok (β1 := β2) (mIs_ok rfl) (mIs_ok rfl) (neD_bool _ _))
                have hL : mTest (mOp neD (mF lenD (mPk 4)) (mF lenD (mPk 5))) (alR d0 e0 (dn ++ (d, e) :: rs) (dn.length + 1) d e) β2 = some (!decide (((kids d).length : Int) = ((kids e).length : Int)), β2) := mTest_ok (mOp_ok (β1 := β2) (mF_ok (β1 := β2) rfl (lenD_sq hsq)) (mF_ok (β1 := β2) rfl (lenD_sq hsq')) (neD_int _ _))
                have hq2 : mTru (mIs (fun d => isT d || isL d) (mPk 4)) (alR d0 e0 (dn ++ (d, e) :: rs) (dn.length + 1) d e) β2 = some (true, β2) := mTru_b (by rw [← hsq]; exact mIs_ok rfl)
                by_cases b4 : isT d = isT e
                · rw [decide_eq_true b4] at hT
                  by_cases b5 : (kids d).length = (kids e).length
                  · rw [decide_eq_true (by rw [b5])] at hL
                    have hz := sumN_zip (kids d) (kids e)
                    have hnd := nd_sq hsq
                    have hzl := sumN_len ((kids d).zip (kids e))
                    refine .inr ⟨(kids d).zip (kids e), pb_zip (pb_kids pd) (pb_kids pe), (zip_all_eq b5).trans ⟨sq_eq hsq hsq' b4, fun q => by rw [q]⟩, by omega, pre ((mIfS_t hq2).trans (seq_nx (mIfS_f ((mOr_f hT).trans hL)) ?_))⟩
                    unfold mExt mLzV
                    rw [mZip_ok (β1 := β2) (β2 := β2) (d := d) (e := e) rfl rfl (seqD_sq hsq) (seqD_sq hsq')]
                    simp only [Option.map_some, Option.bind_some]
                    show (slotO (some (Slot.own ((dn ++ (d, e) :: rs).map pr)))).bind _ = _
                    simp only [slotO, Option.bind_some]
                    have l1 := sumN_len rs
                    rw [zip_pr, if_pos (by rw [List.length_map, List.length_map, List.length_append, List.length_cons, szN]; omega), ← List.map_append]
                    rfl
                  · rw [decide_eq_false (by omega)] at hL
                    exact .inl ⟨(pre ((mIfS_t hq2).trans (seq_rt ((mIfS_t ((mOr_f hT).trans hL)).trans rfl)))), (fun q => b5 (by rw [q]))⟩
                · rw [decide_eq_false b4] at hT
                  exact .inl ⟨(pre ((mIfS_t hq2).trans (seq_rt ((mIfS_t (mOr_t hT)).trans rfl)))), (fun q => b4 (by rw [q]))⟩
              | false =>
                have hsq' : sqB e = false := by rw [← b3]; exact hsq
                have hq2 : mTru (mIs (fun d => isT d || isL d) (mPk 4)) (alR d0 e0 (dn ++ (d, e) :: rs) (dn.length + 1) d e) β2 = some (false, β2) := mTru_b (by rw [← hsq]; exact mIs_ok rfl)
                have hne := ne_flat pd pe b1 hsq hsq'
                by_cases b6 : d = e
                · rw [decide_eq_true b6] at hne
                  refine .inr ⟨[], fun p hp => (by cases hp), ⟨fun _ => b6, fun _ p hp => (by cases hp)⟩, hd1, pre ((mIfS_f hq2).trans ((mIfS_f (mTest_ok (mOp_ok (β1 := β2) rfl rfl hne))).trans ?_))⟩
                  rw [List.append_nil]
                · rw [decide_eq_false b6] at hne
                  exact .inl ⟨(pre ((mIfS_f hq2).trans ((mIfS_t (mTest_ok (mOp_ok (β1 := β2) rfl rfl hne))).trans rfl))), b6⟩
            · rw [decide_eq_false b3] at hQ
              exact .inl ⟨(seq_nx h1 (seq_nx h2 (seq_nx (mIfS_f ((mOr_f hB).trans hS)) (seq_rt ((mIfS_t hQ).trans rfl))))), (fun q => b3 (by rw [q]))⟩
          · rw [decide_eq_false b2] at hS
            exact .inl ⟨(seq_nx h1 (seq_nx h2 (seq_rt ((mIfS_t ((mOr_f hB).trans hS)).trans rfl)))), (fun q => b2 (by rw [q]))⟩
        · rw [decide_eq_false b1] at hB
          exact .inl ⟨(seq_nx h1 (seq_nx h2 (seq_rt ((mIfS_t (mOr_t hB)).trans rfl)))), (fun q => b1 (by rw [q]))⟩
      rcases H with ⟨hr, hne⟩ | ⟨ns, g1, g2, g3, hr⟩
      · exact .inr ⟨β2, _, β2, htest, .inr ⟨_, hr, rfl, .inr ⟨rfl, fun q => hne (hiff.mpr q (d, e) List.mem_cons_self)⟩⟩⟩
      · refine .inr ⟨β2, _, β2, htest, .inl ⟨hr, sumN (rs ++ ns), ?_, rfl, dn ++ [(d, e)], rs ++ ns, .v d, .v e, ?_, ?_, ?_, rfl, ?_⟩⟩
        · rw [sumN_app]
          show _ < nd d + sumN rs
          omega
        · rw [List.length_append]
          simp [alR]
        · intro p hp
          rcases List.mem_append.mp hp with hp | hp
          · exact hpb p (List.mem_cons_of_mem _ hp)
          · exact g1 p hp
        · rw [← hiff]
          constructor
          · intro q p hp
            rcases List.mem_cons.mp hp with e' | hp
            · rw [e']; exact g2.mp fun p hp => q p (List.mem_append_right _ hp)
            · exact q p (List.mem_append_left _ hp)
          · intro q p hp
            rcases List.mem_append.mp hp with hp | hp
            · exact q p (List.mem_cons_of_mem _ hp)
            · exact g2.mpr (q (d, e) List.mem_cons_self) p hp
        · rw [List.length_append, sumN_app]
          simp
          omega
  have h0 : mPar2 2 3 (mXn (mLd (mLc1 (mTup (mLc1 (mNm 0) (mLc1 (mNm 1) mLn))) mLn))) (mXv (mC (.int 0))) ([.v d0, .v e0] ++ List.replicate 4 .no) β = some (.nx, [.v d0, .v e0, .own ([(d0, e0)].map pr), .v (.int (0 : Nat)), .no, .no], β) := by
    walk_at "mx"
    rfl
  obtain ⟨o, ρ', β', h3, h4, h5⟩ := wh_ind I post step 1000000 (nd d0) [.v d0, .v e0, .own ([(d0, e0)].map pr), .v (.int (0 : Nat)), .no, .no] β (by omega) ⟨rfl, [], [(d0, e0)], .no, .no, rfl, fun p hp => by
    have : p = (d0, e0) := by simpa using hp
    rw [this]; exact ⟨hd, he⟩, by simp, by simp [sumN], by simp [sumN]; omega⟩
  subst h4
  rcases h5 with ⟨rfl, heq⟩ | ⟨rfl, hne⟩
  · exact ⟨true, fn_rt (ρ' := ρ') (seq_nx h0 (seq_nx h3 rfl)), by simp [heq]⟩
  · exact ⟨false, fn_rt (ρ' := ρ') (seq_nx h0 (seq_rt h3)), by simp [hne]⟩
end K31
namespace K31
open PySem PySem.Spec PyProof.Rows L2 M
/-! ### are_same -/
def sortS (d : D) : Str := if isB d = true then "truth" else if sqB d = true then (if isT d = true then "tuple" else "list") else if isDi d = true then "dict" else "other"
theorem ev_sort_of (d : D) (β : Bag) : m_sort_of [.v d] β = some (.str (sortS d), β) := by
  unfold m_sort_of b_sort_of sortS
  cases d <;> rfl
theorem sortS_ok (d : D) : PyData.strOk (sortS d) = true := by
  unfold sortS
  split
  · decide +kernel
  split
  · split <;> decide +kernel
  split <;> decide +kernel
abbrev saB : MS := (mSeq (mPopTo 2 (mGt 2 (mGcons (mGn 3) (mGcons (mGn 4) mGnil))))
    (mSeq (mIfS (mOr (mTest (mOp neD (mCall m_sort_of (mAv (mNm 3) mAn)) (mCall m_sort_of (mAv (mNm 4) mAn)))) (mTest (mOp neD (mPk 3) (mPk 4)))) (mRet (mC (.bool false))) (fun ρ β => some (.nx, ρ, β)))
    (mExt 2 (mCall m_part_pairs (mAv (mNm 3) (mAv (mNm 4) mAn))))))
abbrev saR (d0 e0 : D) (ps : List (D × D)) (d e : D) : List Slot := [.v d0, .v e0, .own (ps.map pr), .v d, .v e]
theorem sa_pop (d0 e0 : D) (ps : List (D × D)) (d e : D) (s3 s4 : Slot) (β : Bag) : mPopTo 2 (mGt 2 (mGcons (mGn 3) (mGcons (mGn 4) mGnil))) [.v d0, .v e0, .own ((ps ++ [(d, e)]).map pr), s3, s4] β = some (.nx, saR d0 e0 ps d e, β) := by
  unfold mPopTo
  show (slotO (some (Slot.own ((ps ++ [(d, e)]).map pr)))).bind _ = _
  simp only [slotO, Option.bind_some]
  have e1 : ((ps ++ [(d, e)]).map pr)[((ps ++ [(d, e)]).map pr).length - 1]? = some (pairD d e) := by
    rw [List.map_append, List.length_append]
    simp [pr]
  have e2 : ((ps ++ [(d, e)]).map pr).dropLast = ps.map pr := by
    rw [List.map_append]
    simp
  rw [e1, e2]
  rfl
open Classical in
theorem sa_test {d e : D} (hd : pn d) (he : pn e) (d0 e0 : D) (ps : List (D × D)) (β : Bag) : mOr (mTest (mOp neD (mCall m_sort_of (mAv (mNm 3) mAn)) (mCall m_sort_of (mAv (mNm 4) mAn)))) (mTest (mOp neD (mPk 3) (mPk 4))) (saR d0 e0 ps d e) β = some (!decide (d = e), β) := by
  have h1 : mTest (mOp neD (mCall m_sort_of (mAv (mNm 3) mAn)) (mCall m_sort_of (mAv (mNm 4) mAn))) (saR d0 e0 ps d e) β = some (!decide (sortS d = sortS e), β) :=
    mTest_ok (mOp_ok (β1 := β) (mCall_ok (β1 := β) (mAv_ok (β1 := β) rfl rfl) (ev_sort_of d β)) (mCall_ok (β1 := β) (mAv_ok (β1 := β) rfl rfl) (ev_sort_of e β)) (neD_str (sortS_ok d) (sortS_ok e)))
  have h2 : mTest (mOp neD (mPk 3) (mPk 4)) (saR d0 e0 ps d e) β = some (!decide (d = e), β) := mTest_ok (mOp_ok (β1 := β) rfl rfl (neD_pn hd he))
  by_cases hs : sortS d = sortS e
  · rw [decide_eq_true hs] at h1
    exact (mOr_f h1).trans h2
  · rw [decide_eq_false hs] at h1
    rw [decide_eq_false (fun q => hs (by rw [q]))]
    exact mOr_t h1
theorem ev_part_pairs {d : D} (hd : nb d = true) (β : Bag) (hz : (kids d).length ≤ sizeLine) : m_part_pairs [.v d, .v d] β = some (.list (((kids d).zip (kids d)).map pr), β) := by
  unfold m_part_pairs b_part_pairs
  refine fn_rt (ρ' := [.v d, .v d, .no, .no, .no]) ?_
  have hdi : isDi d = false := by cases d <;> first | rfl | (unfold nb at hd; cases hd)
  refine seq_nx (ρ1 := [.v d, .v d, .no, .no, .no]) (β1 := β) (mIfS_f (mTru_b (by rw [← hdi]; exact mIs_ok rfl))) ?_
  cases hs : sqB d with
  | true =>
    refine mRet_ok ((mIf_t (mTru_b (c := true) (by rw [← hs]; exact mIs_ok rfl))).trans ?_)
    unfold mLzV
    rw [mZip_ok (β1 := β) (β2 := β) (d := d) (e := d) rfl rfl (seqD_sq hs) (seqD_sq hs), zip_pr]
    rfl
  | false =>
    have hk : kids d = [] := by cases d <;> first | rfl | cases hs
    rw [hk]
    exact mRet_ok ((mIf_f (mTru_b (c := false) (by rw [← hs]; exact mIs_ok rfl))).trans rfl)
theorem nd_kids (d : D) : ndA (kids d) < nd d := by cases d <;> (unfold nd kids; simp only [ndA]; omega)
theorem pn_kids {d : D} (h : pn d) : ∀ x ∈ kids d, pn x := by
  have key : ∀ xs : List D, nbA xs = true → ∀ x ∈ xs, nb x = true ∧ x.depth ≤ PyData.depthAll xs := by
    intro xs
    induction xs with
    | nil => intro _ x hx; cases hx
    | cons y r ih =>
      intro hn x hx
      unfold nbA at hn
      obtain ⟨h1, h2⟩ := Bool.and_eq_true_iff.mp hn
      unfold PyData.depthAll
      rcases List.mem_cons.mp hx with e | hx
      · rw [e]; exact ⟨h1, Nat.le_max_left _ _⟩
      · have := ih h2 x hx
        exact ⟨this.1, Nat.le_trans this.2 (Nat.le_max_right _ _)⟩
  intro x hx
  obtain ⟨h1, h2⟩ := h
  cases d <;> first
    | (cases hx; done)
    | (unfold nb at h1
       unfold PyData.depth at h2
       have := key _ h1 x hx
       exact ⟨this.1, by omega⟩)
theorem zip_self_eq (xs : List D) : ∀ p ∈ xs.zip xs, p.1 = p.2 := by
  induction xs with
  | nil => intro p hp; cases hp
  | cons x r ih =>
    intro p hp
    rw [List.zip_cons_cons] at hp
    rcases List.mem_cons.mp hp with e | hp
    · rw [e]
    · exact ih p hp
theorem ev_are_same (d0 e0 : D) (β : Bag) (hd : pn d0) (he : pn e0) (hn : nd d0 ≤ 900000) : ∃ c : Bool, m_are_same [.v d0, .v e0] β = some (.bool c, β) ∧ (c = true ↔ d0 = e0) := by
  unfold m_are_same b_are_same
  have h0 : mSet 2 (mXn (mLd (mLc1 (mTup (mLc1 (mNm 0) (mLc1 (mNm 1) mLn))) mLn))) ([.v d0, .v e0] ++ List.replicate 3 .no) β = some (.nx, [.v d0, .v e0, .own (([] ++ [(d0, e0)]).map pr), .no, .no], β) := by
    walk_at "mx"
  have htru : ∀ (ps : List (D × D)) (q : D × D) (s3 s4 : Slot), mTru (mPk 2) [.v d0, .v e0, .own ((ps ++ [q]).map pr), s3, s4] β = some (true, β) := by
    intro ps q s3 s4
    unfold mTru
    show Option.bind (some (PyData.list ((ps ++ [q]).map pr), β)) _ = _
    simp [truD]
  by_cases hne : d0 = e0
  · subst hne
    let I : Nat → List Slot → Bag → Prop := fun k ρ β2 => β2 = β ∧ ∃ (ps : List (D × D)) (s3 s4 : Slot), ρ = [.v d0, .v d0, .own (ps.map pr), s3, s4] ∧ (∀ p ∈ ps, p.1 = p.2 ∧ pn p.1) ∧ k = sumN ps ∧ sumN ps ≤ 900000
    let post : Out → List Slot → Bag → Prop := fun o ρ β2 => β2 = β ∧ o = .nx
    have step : ∀ k ρ β2, I k ρ β2 → (∃ β1, mTru (mPk 2) ρ β2 = some (false, β1) ∧ post .nx ρ β1) ∨ ∃ β1 ρ' β', mTru (mPk 2) ρ β2 = some (true, β1) ∧ ((saB ρ β1 = some (.nx, ρ', β') ∧ ∃ k', k' < k ∧ I k' ρ' β') ∨ ∃ d, saB ρ β1 = some (.rt d, ρ', β') ∧ post (.rt d) ρ' β') := by
      rintro k ρ β2 ⟨rfl, ps, s3, s4, rfl, hp, rfl, hsz⟩
      rcases List.eq_nil_or_concat ps with rfl | ⟨qs, ⟨d, e⟩, rfl⟩
      · exact .inl ⟨β2, rfl, rfl, rfl⟩
      · rw [List.concat_eq_append] at *
        obtain ⟨hde, hpn⟩ := hp (d, e) (List.mem_append_right _ List.mem_cons_self)
        have hde : d = e := hde
        subst hde
        rw [sumN_app] at hsz
        have hsz : sumN qs + (nd d + 0) ≤ 900000 := hsz
        have hk := nd_kids d
        have hkl := sumN_len ((kids d).zip (kids d))
        have hkz := sumN_zip (kids d) (kids d)
        have hkl2 : (kids d).length ≤ ndA (kids d) := by
          have : ((kids d).zip (kids d)).length = (kids d).length := by rw [List.length_zip, Nat.min_self]
          omega
        have hql := sumN_len qs
        refine .inr ⟨β2, saR d0 d0 (qs ++ (kids d).zip (kids d)) d d, β2, htru qs (d, d) s3 s4, .inl ⟨?_, sumN (qs ++ (kids d).zip (kids d)), ?_, rfl, qs ++ (kids d).zip (kids d), .v d, .v d, rfl, ?_, rfl, ?_⟩⟩
        · refine seq_nx (sa_pop d0 d0 qs d d s3 s4 β2) (seq_nx (ρ1 := saR d0 d0 qs d d) (β1 := β2) (mIfS_f ((sa_test hpn hpn d0 d0 qs β2).trans (by simp))) ?_)
          unfold mExt
          rw [mCall_ok (β1 := β2) (ma := mAv (mNm 3) (mAv (mNm 4) mAn)) (ss := [.v d, .v d]) rfl (ev_part_pairs hpn.1 β2 (by rw [szN]; show (kids d).length ≤ _; omega))]
          simp only [Option.bind_some]
          show (slotO (some (Slot.own (qs.map pr)))).bind _ = _
          simp only [slotO, Option.bind_some]
          have hl1 : (List.map pr qs).length ≤ sumN qs := by rw [List.length_map]; exact hql
          have hl2 : (List.map pr ((kids d).zip (kids d))).length ≤ sumN ((kids d).zip (kids d)) := by rw [List.length_map]; exact hkl
          rw [if_pos (by rw [szN]; omega), ← List.map_append]
          rfl
        · rw [sumN_app, sumN_app]
          show _ < sumN qs + (nd d + 0)
          omega
        · intro p hp'
          rcases List.mem_append.mp hp' with hp' | hp'
          · exact hp p (List.mem_append_left _ hp')
          · exact ⟨zip_self_eq _ p hp', pn_kids hpn _ (List.of_mem_zip (a := p.1) (b := p.2) hp').1⟩
        · rw [sumN_app]
          omega
    obtain ⟨o, ρ', β', h3, rfl, rfl⟩ := wh_ind I post step 1000000 (nd d0) [.v d0, .v d0, .own (([] ++ [(d0, d0)]).map pr), .no, .no] β (by omega) ⟨rfl, [(d0, d0)], .no, .no, rfl, fun p hp => by
      have : p = (d0, d0) := by simpa using hp
      rw [this]; exact ⟨rfl, hd⟩, by simp [sumN], by simp [sumN]; omega⟩
    exact ⟨true, fn_rt (ρ' := ρ') (seq_nx h0 (seq_nx h3 rfl)), by simp⟩
  · refine ⟨false, fn_rt (ρ' := saR d0 e0 [] d0 e0) (seq_nx h0 (seq_rt ?_)), by simp [hne]⟩
    have : saB [.v d0, .v e0, .own (([] ++ [(d0, e0)]).map pr), .no, .no] β = some (.rt (.bool false), saR d0 e0 [] d0 e0, β) :=
      seq_nx (sa_pop d0 e0 [] d0 e0 .no .no β) (seq_rt ((mIfS_t ((sa_test hd he d0 e0 [] β).trans (by simp [hne]))).trans rfl))
    show whGo (mTru (mPk 2)) saB (999999 + 1) _ _ = _
    unfold whGo
    rw [htru [] (d0, e0) .no .no]
    simp only [Option.bind_some, if_true, this]
/-! ### pieces as plain data -/
theorem nb_pcD (p : Pc) : nb (pcD p) = true := by
  unfold pcD nb
  simp only [nbA, nb, Bool.true_and, Bool.and_true]
  have h1 := nb_iT p.fi
  have h2 := nb_iT p.st
  unfold iT nb at h1 h2
  rw [h1, h2]
  rfl
theorem depth_pcD (p : Pc) : (pcD p).depth ≤ 2 := by
  unfold pcD PyData.depth
  simp only [PyData.depthAll, depth_iT]
  simp [PyData.depth]
theorem pn_pcsD (ps : List Pc) : pn (pcsD ps) := by
  refine ⟨?_, ?_⟩
  · unfold nb
    exact nbA_of ps fun p _ => nb_pcD p
  · unfold PyData.depth
    have := depthA_of (k := 2) ps fun p _ => depth_pcD p
    omega
theorem nb_pb : ∀ d : D, nb d = true → pb d = true := by
  intro d
  exact (nb_pb' d)
where
  nb_pb' : ∀ d : D, nb d = true → pb d = true
    | .none, _ => rfl
    | .bool _, h => by unfold nb at h; cases h
    | .int _, _ => rfl
    | .str x, h => by unfold nb at h; unfold pb; exact h
    | .list xs, h => by unfold nb at h; unfold pb; exact nbA_pbA xs h
    | .tuple xs, h => by unfold nb at h; unfold pb; exact nbA_pbA xs h
    | .dict _, h => by unfold nb at h; cases h
  nbA_pbA : ∀ ds : List D, nbA ds = true → pbA ds = true
    | [], _ => rfl
    | x :: r, h => by
      unfold nbA at h
      obtain ⟨h1, h2⟩ := Bool.and_eq_true_iff.mp h
      unfold pbA
      rw [nb_pb' x h1, nbA_pbA r h2]
      rfl
theorem pcD_inj {p q : Pc} (h : pcD p = pcD q) : p = q := by
  obtain ⟨a, b, c, d⟩ := p
  obtain ⟨a', b', c', d'⟩ := q
  unfold pcD at h
  injection h with h
  injection h with h1 h
  injection h with h2 h
  injection h with h3 h
  injection h with h4 h
  injection h1 with h1
  injection h2 with h2
  have h3 := iT_inj h3
  have h4 := iT_inj h4
  have h1 : a = a' := Int.ofNat.inj h1
  have h2 : b = b' := Int.ofNat.inj h2
  have h3 : c = c' := h3
  have h4 : d = d' := h4
  rw [h1, h2, h3, h4]
theorem pcsD_inj {ps qs : List Pc} (h : pcsD ps = pcsD qs) : ps = qs := map_inj (f := pcD) (fun _ _ e => pcD_inj e) (by injection h)
end K31
namespace K31
open PySem PySem.Spec PyProof.Rows L2 M
/-! ### values of any kind -/
def isN (d : D) : Bool := isI d && !isB d
theorem isN_int (i : Int) : isN (.int i) = true := rfl
theorem isN_ex {d : D} (h : isN d = true) : ∃ i, d = .int i := by
  cases d <;> first | exact ⟨_, rfl⟩ | cases h
theorem allN_ex : ∀ {xs : List D}, xs.all isN = true → ∃ l : List Int, xs = l.map .int
  | [], _ => ⟨[], rfl⟩
  | x :: r, h => by
    rw [List.all_cons] at h
    obtain ⟨h1, h2⟩ := Bool.and_eq_true_iff.mp h
    obtain ⟨i, rfl⟩ := isN_ex h1
    obtain ⟨l, rfl⟩ := allN_ex h2
    exact ⟨i :: l, rfl⟩
theorem allN_iT (l : List Int) : (l.map PyData.int).all isN = true := by
  rw [List.all_map]
  exact List.all_eq_true.mpr fun _ _ => rfl
theorem ev_is_integer (d : D) (β : Bag) : m_is_integer [.v d] β = some (.bool (isN d), β) := by
  unfold m_is_integer b_is_integer
  cases d <;> rfl
theorem ev_law_is_int (d : D) (β : Bag) : m_law_is_int [.v d] β = some (.bool (isN d), β) := by
  unfold m_law_is_int b_law_is_int
  cases d <;> rfl
theorem ev_is_tuple_of (d : D) (n : Int) (β : Bag) : m_is_tuple_of [.v d, .v (.int n)] β = some (.bool (isT d && decide (((kids d).length : Int) = n)), β) := by
  unfold m_is_tuple_of b_is_tuple_of
  refine fn_rt (ρ' := [.v d, .v (.int n)]) (mRet_ok ?_)
  cases d <;> first
    | rfl
    | (unfold mAndV
       rw [mIs_ok (β1 := β) (d := .tuple _) rfl]
       exact mOp_ok (β1 := β) rfl rfl (eqD_int _ _))
def witB (d : D) (a b : Int) : Bool := match d with
  | .int i => decide (a ≤ i ∧ i ≤ b)
  | _ => false
theorem mChain_t {f g : D → D → Option D} {m1 m2 m3 : ME} {ρ : List Slot} {β β1 β2 β3 : Bag} {d e x z : D} (h1 : m1 ρ β = some (d, β1)) (h2 : m2 ρ β1 = some (e, β2)) (hf : f d e = some (.bool true)) (h3 : m3 ρ β2 = some (x, β3)) (hg : g e x = some z) : mChain f g m1 m2 m3 ρ β = some (z, β3) := by
  simp only [mChain, h1, h2, hf, h3, hg, toB, Option.bind_some, Option.map_some, if_true]
theorem mChain_f {f g : D → D → Option D} {m1 m2 m3 : ME} {ρ : List Slot} {β β1 β2 : Bag} {d e : D} (h1 : m1 ρ β = some (d, β1)) (h2 : m2 ρ β1 = some (e, β2)) (hf : f d e = some (.bool false)) : mChain f g m1 m2 m3 ρ β = some (.bool false, β2) := by
  simp only [mChain, h1, h2, hf, toB, Option.bind_some, Bool.false_eq_true, if_false]
theorem mCallS_ok {i : Nat} {x : Str} {f : Fn} {ma : MA} {ρ : List Slot} {β : Bag} {r : Option (D × Bag)} (h : ρ[i]? = some (.fn x)) (hc : mCall f ma ρ β = r) : mCallS i x f ma ρ β = r := by
  simp only [mCallS, h, if_true, hc]
theorem ev_is_within (d : D) (a b : Int) (β : Bag) : m_is_within [.v d, .v (.int a), .v (.int b)] β = some (.bool (witB d a b), β) := by
  unfold m_is_within b_is_within
  refine fn_rt (ρ' := [.v d, .v (.int a), .v (.int b)]) (mRet_ok ?_)
  unfold mAndV
  rw [mCall_ok (β1 := β) (ma := mAv (mNm 0) mAn) (ss := [.v d]) rfl (ev_is_integer d β)]
  cases d with
  | int i =>
    simp only [Option.bind_some, toB, isN_int, if_true]
    by_cases h : a ≤ i
    · refine (mChain_t (β1 := β) (β2 := β) (β3 := β) (m1 := mPk 1) (m2 := mPk 0) (m3 := mPk 2) rfl rfl ((leD_int _ _).trans (by rw [decide_eq_true h])) rfl (leD_int _ _)).trans ?_
      unfold witB
      simp [h]
    · refine (mChain_f (β1 := β) (β2 := β) (m1 := mPk 1) (m2 := mPk 0) (m3 := mPk 2) rfl rfl ((leD_int _ _).trans (by rw [decide_eq_false h]))).trans ?_
      unfold witB
      simp [h]
  | _ => rfl
theorem boolsD_map (xs : List D) (f : D → Bool) : boolsD (xs.map fun d => .bool (f d)) = some (xs.map f) := by
  induction xs with
  | nil => rfl
  | cons x r ih =>
    simp only [List.map_cons, boolsD, ih, Option.map_some]
theorem allD_map (xs : List D) (f : D → Bool) : allD (.list (xs.map fun d => .bool (f d))) = some (.bool (xs.all f)) := by
  show (boolsD (xs.map fun d => .bool (f d))).map _ = _
  rw [boolsD_map, Option.map_some, List.all_map]
  rfl
theorem ev_are_integers (d : D) (β : Bag) (hz : (kids d).length ≤ sizeLine) : m_are_integers [.v d] β = some (.bool (isT d && (kids d).all isN), β) := by
  unfold m_are_integers b_are_integers
  refine fn_rt (ρ' := [.v d]) (mRet_ok ?_)
  refine mCall_ok (β1 := β) (ss := [.v d, .fn "is_integer"]) rfl ?_
  unfold m_are_all b_are_all
  refine fn_rt (ρ' := [.v d, .fn "is_integer", .no]) (mRet_ok ?_)
  unfold mAndV
  rw [mIs_ok (β1 := β) (d := d) rfl]
  cases hd : isT d with
  | false => rfl
  | true =>
    have hsq : sqB d = true := by unfold sqB; rw [hd]; rfl
    simp only [Option.bind_some, toB, if_true, Bool.true_and]
    have hl : lcGo [.v d, .fn "is_integer", .no] (mGn 2) mYes (mCallS 1 "is_integer" m_is_integer (mAv (mNm 2) mAn)) ((kids d).map id) β = some ((kids d).map fun x => .bool (isN x), β) :=
      lcGo_map id (fun x => .bool (isN x)) (kids d) fun x _ => ⟨_, rfl, rfl, mCallS_ok rfl (mCall_ok (β1 := β) (ss := [.v x]) rfl (ev_is_integer x β))⟩
    rw [List.map_id] at hl
    exact mF_ok (β1 := β) (mFz_ok (mLc_ok (β1 := β) (mIt_ok (β1 := β) (d := d) rfl (seqD_sq hsq)) hl (by rw [List.length_map]; exact hz))) (allD_map _ _)
/-! ### is_piece -/
structure PcW (w : Nat) (p : Pc) : Prop where
  ord : p.lo ≤ p.hi
  fi : p.fi.length = w
  st : p.st.length = if p.lo = p.hi then 0 else w
theorem guard_t {mt : MT} {ρ : List Slot} {β β1 : Bag} (h : mt ρ β = some (true, β1)) : (mIfS mt (mRet (mC (.bool false))) (fun ρ β => some (.nx, ρ, β))) ρ β = some (.rt (.bool false), ρ, β1) := (mIfS_t h).trans rfl
theorem guard_f {mt : MT} {ρ : List Slot} {β β1 : Bag} (h : mt ρ β = some (false, β1)) : (mIfS mt (mRet (mC (.bool false))) (fun ρ β => some (.nx, ρ, β))) ρ β = some (.nx, ρ, β1) := mIfS_f h
theorem tup_kids {d : D} (h : isT d = true) : d = .tuple (kids d) := by cases d <;> first | rfl | cases h
theorem len4 {α : Type} {xs : List α} (h : xs.length = 4) : ∃ a b c d, xs = [a, b, c, d] := by
  match xs, h with
  | [a, b, c, d], _ => exact ⟨a, b, c, d, rfl⟩
/-- a tuple of four, or none -/
theorem tup4 (d : D) : (∃ a b c e, d = .tuple [a, b, c, e]) ∨ (isT d && decide (((kids d).length : Int) = 4)) = false := by
  cases h : (isT d && decide (((kids d).length : Int) = 4)) with
  | false => exact .inr rfl
  | true =>
    obtain ⟨h1, h2⟩ := Bool.and_eq_true_iff.mp h
    obtain ⟨a, b, c, e, hk⟩ := len4 (xs := kids d) (by have := of_decide_eq_true h2; omega)
    exact .inl ⟨a, b, c, e, by rw [tup_kids h1, hk]⟩
/-- a tuple of integers, or none -/
theorem tupN (d : D) : (∃ l : List Int, d = iT l) ∨ (isT d && (kids d).all isN) = false := by
  cases h : (isT d && (kids d).all isN) with
  | false => exact .inr rfl
  | true =>
    obtain ⟨h1, h2⟩ := Bool.and_eq_true_iff.mp h
    obtain ⟨l, hl⟩ := allN_ex h2
    exact .inl ⟨l, by rw [tup_kids h1, hl]⟩
theorem kids_le (d : D) : (kids d).length ≤ nd d := by
  have : ∀ xs : List D, xs.length ≤ ndA xs := by
    intro xs
    induction xs with
    | nil => exact Nat.zero_le _
    | cons x r ih =>
      have := nd_pos x
      unfold ndA
      rw [List.length_cons]
      omega
  have h1 := this (kids d)
  have h2 := nd_kids d
  omega
theorem witB_ex {d : D} {a b : Int} (h : witB d a b = true) : ∃ i, d = .int i ∧ a ≤ i ∧ i ≤ b := by
  cases d <;> first
    | cases h
    | exact ⟨_, rfl, (of_decide_eq_true h).1, (of_decide_eq_true h).2⟩
theorem witB_int {i a b : Int} : witB (.int i) a b = decide (a ≤ i ∧ i ≤ b) := rfl
theorem pcD_eq {y : D} {p : Pc} {a b f s : D} (h : PyData.tuple [a, b, f, s] = pcD p) : a = .int p.lo ∧ b = .int p.hi ∧ f = iT p.fi ∧ s = iT p.st := by
  unfold pcD at h
  injection h with h
  injection h with h1 h
  injection h with h2 h
  injection h with h3 h
  injection h with h4 h
  exact ⟨h1, h2, h3, h4⟩
theorem ev_is_piece (y : D) (w : Nat) (β : Bag) (hz : nd y ≤ 900000) : ∃ c, m_is_piece [.v y, .v (.int w)] β = some (.bool c, β) ∧ (c = true ↔ ∃ p, y = pcD p ∧ p.hi ≤ 65535 ∧ PcW w p) := by
  unfold m_is_piece b_is_piece
  rcases tup4 y with ⟨a, b, f, s, rfl⟩ | h4
  rotate_left
  · refine ⟨false, fn_rt (ρ' := [.v y, .v (.int w)]) (seq_rt (guard_t (mOr_t ((mNot_ok (mTru_b (mCall_ok (mAv_ok (β1 := β) rfl (mAv_ok (β1 := β) rfl rfl)) (ev_is_tuple_of y 4 β)))).trans (by rw [h4]; rfl))))), by simp only [Bool.false_eq_true, false_iff]; rintro ⟨p, rfl, _⟩; cases h4⟩
  have nda : nd (.tuple [a, b, f, s]) = nd a + (nd b + (nd f + (nd s + 0))) + 1 := rfl
  rw [nda] at hz
  have kf := kids_le f
  have ks := kids_le s
  have g1 : mNot (mTru (mCall m_is_tuple_of (mAv (mNm 0) (mAv (mC (.int 4)) mAn)))) [.v (.tuple [a, b, f, s]), .v (.int w)] β = some (false, β) :=
    mNot_ok (c := true) (mTru_b (mCall_ok (mAv_ok (β1 := β) rfl (mAv_ok (β1 := β) rfl rfl)) (ev_is_tuple_of _ 4 β)))
  have g2 : mNot (mTru (mCall m_is_within (mAv (mOp ixD (mPk 0) (mC (.int 0))) (mAv (mC (.int 0)) (mAv (mC (.int 65535)) mAn))))) [.v (.tuple [a, b, f, s]), .v (.int w)] β = some (!witB a 0 65535, β) :=
    mNot_ok (mTru_b (mCall_ok (mAv_ok (β1 := β) rfl (mAv_ok (β1 := β) rfl (mAv_ok (β1 := β) rfl rfl))) (ev_is_within a 0 65535 β)))
  cases ha : witB a 0 65535 with
  | false =>
    refine ⟨false, fn_rt (ρ' := [.v (.tuple [a, b, f, s]), .v (.int w)]) (seq_rt (guard_t ((mOr_f g1).trans (g2.trans (by rw [ha]; rfl))))), by
      simp only [Bool.false_eq_true, false_iff]
      rintro ⟨p, hp, h1, h2⟩
      obtain ⟨rfl, _⟩ := pcD_eq (y := a) hp
      rw [witB_int] at ha
      have := of_decide_eq_false ha
      have := h2.ord
      omega⟩
  | true =>
  obtain ⟨i, rfl, i0, i1⟩ := witB_ex ha
  have G1 := guard_f ((mOr_f g1).trans (g2.trans (by rw [ha]; rfl)))
  have g3 : mNot (mTru (mCall m_is_within (mAv (mOp ixD (mPk 0) (mC (.int 1))) (mAv (mOp ixD (mPk 0) (mC (.int 0))) (mAv (mC (.int 65535)) mAn))))) [.v (.tuple [.int i, b, f, s]), .v (.int w)] β = some (!witB b i 65535, β) :=
    mNot_ok (mTru_b (mCall_ok (mAv_ok (β1 := β) rfl (mAv_ok (β1 := β) rfl (mAv_ok (β1 := β) rfl rfl))) (ev_is_within b i 65535 β)))
  have g4 : mNot (mTru (mCall m_are_integers (mAv (mOp ixD (mPk 0) (mC (.int 2))) mAn))) [.v (.tuple [.int i, b, f, s]), .v (.int w)] β = some (!(isT f && (kids f).all isN), β) :=
    mNot_ok (mTru_b (mCall_ok (mAv_ok (β1 := β) rfl rfl) (ev_are_integers f β (by rw [szN]; omega))))
  have g5 : mNot (mTru (mCall m_is_tuple_of (mAv (mOp ixD (mPk 0) (mC (.int 2))) (mAv (mNm 1) mAn)))) [.v (.tuple [.int i, b, f, s]), .v (.int w)] β = some (!(isT f && decide (((kids f).length : Int) = (w : Int))), β) :=
    mNot_ok (mTru_b (mCall_ok (mAv_ok (β1 := β) rfl (mAv_ok (β1 := β) rfl rfl)) (ev_is_tuple_of f w β)))
  have g6 : mNot (mTru (mCall m_are_integers (mAv (mOp ixD (mPk 0) (mC (.int 3))) mAn))) [.v (.tuple [.int i, b, f, s]), .v (.int w)] β = some (!(isT s && (kids s).all isN), β) :=
    mNot_ok (mTru_b (mCall_ok (mAv_ok (β1 := β) rfl rfl) (ev_are_integers s β (by rw [szN]; omega))))
  cases hb : witB b i 65535 with
  | false =>
    refine ⟨false, fn_rt (ρ' := [.v (.tuple [.int i, b, f, s]), .v (.int w)]) (seq_nx G1 (seq_rt (guard_t (mOr_t (g3.trans (by rw [hb]; rfl)))))), by
      simp only [Bool.false_eq_true, false_iff]
      rintro ⟨p, hp, h1, h2⟩
      obtain ⟨e1, rfl, _⟩ := pcD_eq (y := b) hp
      injection e1 with e1
      rw [witB_int] at hb
      have := of_decide_eq_false hb
      have := h2.ord
      omega⟩
  | true =>
  obtain ⟨j, rfl, j0, j1⟩ := witB_ex hb
  rcases tupN f with ⟨l, rfl⟩ | hf
  rotate_left
  · refine ⟨false, fn_rt (ρ' := [.v (.tuple [.int i, .int j, f, s]), .v (.int w)]) (seq_nx G1 (seq_rt (guard_t ((mOr_f (g3.trans (by rw [hb]; rfl))).trans (g4.trans (by rw [hf]; rfl)))))), by
      simp only [Bool.false_eq_true, false_iff]
      rintro ⟨p, hp, h1, h2⟩
      obtain ⟨_, _, rfl, _⟩ := pcD_eq (y := f) hp
      rw [show kids (iT p.fi) = p.fi.map .int from rfl, allN_iT] at hf
      cases hf⟩
  have hf : (isT (iT l) && (kids (iT l)).all isN) = true := by rw [show kids (iT l) = l.map .int from rfl, allN_iT]; rfl
  have G2 := guard_f ((mOr_f (g3.trans (by rw [hb]; rfl))).trans (g4.trans (by rw [hf]; rfl)))
  have hkl : (kids (iT l)).length = l.length := by show (l.map PyData.int).length = _; rw [List.length_map]
  by_cases hw : l.length = w
  rotate_left
  · refine ⟨false, fn_rt (ρ' := [.v (.tuple [.int i, .int j, iT l, s]), .v (.int w)]) (seq_nx G1 (seq_nx G2 (seq_rt (guard_t (mOr_t (g5.trans (by rw [hkl, decide_eq_false (by omega)]; rfl))))))), by
      simp only [Bool.false_eq_true, false_iff]
      rintro ⟨p, hp, h1, h2⟩
      obtain ⟨_, _, e3, _⟩ := pcD_eq (y := s) hp
      rw [iT_inj e3] at hw
      exact hw h2.fi⟩
  have g5' := g5.trans (by rw [hkl, decide_eq_true (by omega)]; rfl : _ = some (false, β))
  rcases tupN s with ⟨m, rfl⟩ | hs
  rotate_left
  · refine ⟨false, fn_rt (ρ' := [.v (.tuple [.int i, .int j, iT l, s]), .v (.int w)]) (seq_nx G1 (seq_nx G2 (seq_rt (guard_t ((mOr_f g5').trans (g6.trans (by rw [hs]; rfl))))))), by
      simp only [Bool.false_eq_true, false_iff]
      rintro ⟨p, hp, h1, h2⟩
      obtain ⟨_, _, _, rfl⟩ := pcD_eq (y := s) hp
      rw [show kids (iT p.st) = p.st.map .int from rfl, allN_iT] at hs
      cases hs⟩
  have hs : (isT (iT m) && (kids (iT m)).all isN) = true := by rw [show kids (iT m) = m.map .int from rfl, allN_iT]; rfl
  have G3 := guard_f ((mOr_f g5').trans (g6.trans (by rw [hs]; rfl)))
  have hkm : (kids (iT m)).length = m.length := by show (m.map PyData.int).length = _; rw [List.length_map]
  have fin : ∀ n : Nat, (mIf (mTest (mOp eqD (mOp ixD (mPk 0) (mC (.int 0))) (mOp ixD (mPk 0) (mC (.int 1))))) (mC (.int 0)) (mNm 1)) [.v (.tuple [.int i, .int j, iT l, iT m]), .v (.int w)] β = some (.int n, β) → ∃ c, (mRet (mCall m_is_tuple_of (mAv (mOp ixD (mPk 0) (mC (.int 3))) (mAv (mIf (mTest (mOp eqD (mOp ixD (mPk 0) (mC (.int 0))) (mOp ixD (mPk 0) (mC (.int 1))))) (mC (.int 0)) (mNm 1)) mAn)))) [.v (.tuple [.int i, .int j, iT l, iT m]), .v (.int w)] β = some (.rt (.bool c), [.v (.tuple [.int i, .int j, iT l, iT m]), .v (.int w)], β) ∧ (c = true ↔ m.length = n) := fun n hn => by
    refine ⟨_, mRet_ok (mCall_ok (mAv_ok (β1 := β) rfl (mAv_ok (β1 := β) hn rfl)) (ev_is_tuple_of (iT m) n β)), ?_⟩
    rw [hkm, Bool.and_eq_true_iff, decide_eq_true_iff]
    constructor
    · intro h; have := h.2; omega
    · intro h; exact ⟨rfl, by omega⟩
  have hT : mTest (mOp eqD (mOp ixD (mPk 0) (mC (.int 0))) (mOp ixD (mPk 0) (mC (.int 1)))) [.v (.tuple [.int i, .int j, iT l, iT m]), .v (.int w)] β = some (decide (i = j), β) :=
    mTest_ok (mOp_ok (β1 := β) rfl rfl (eqD_int i j))
  obtain ⟨c, h1, h2⟩ := fin (if i = j then 0 else w) (by
    by_cases hij : i = j
    · rw [if_pos hij]
      exact (mIf_t (hT.trans (by rw [decide_eq_true hij]))).trans rfl
    · rw [if_neg hij]
      exact (mIf_f (hT.trans (by rw [decide_eq_false hij]))).trans rfl)
  refine ⟨c, fn_rt (ρ' := [.v (.tuple [.int i, .int j, iT l, iT m]), .v (.int w)]) (seq_nx G1 (seq_nx G2 (seq_nx G3 h1))), h2.trans ?_⟩
  have ei : ((i.toNat : Nat) : Int) = i := by omega
  have ej : ((j.toNat : Nat) : Int) = j := by omega
  constructor
  · intro hm
    refine ⟨⟨i.toNat, j.toNat, l, m⟩, by unfold pcD; simp only [ei, ej], by show j.toNat ≤ _; omega, ⟨by show i.toNat ≤ j.toNat; omega, hw, ?_⟩⟩
    show m.length = if i.toNat = j.toNat then 0 else w
    rw [hm]
    by_cases hij : i = j
    · rw [if_pos hij, if_pos (by omega)]
    · rw [if_neg hij, if_neg (by omega)]
  · rintro ⟨p, hp, _, h3⟩
    obtain ⟨e1, e2, e3, e4⟩ := pcD_eq (y := .none) hp
    injection e1 with e1
    injection e2 with e2
    rw [iT_inj e4, h3.st]
    by_cases hij : i = j
    · rw [if_pos hij, if_pos (by omega)]
    · rw [if_neg hij, if_neg (by omega)]
end K31
namespace K31
open PySem PySem.Spec PyProof.Rows L2 M
/-! ### are_pieces, for any value -/
def Ctg : Nat → List Pc → Prop
  | _, [] => True
  | n, p :: r => p.lo = n ∧ Ctg (p.hi + 1) r
structure IsPs (ps : List Pc) : Prop where
  ne : ps ≠ []
  wid : ∃ w, 0 < w ∧ ∀ p ∈ ps, PcW w p
  ctg : Ctg 0 ps
  hi : ∀ p ∈ ps, p.hi ≤ 65535
  P : P (rowOf ps) 0 = ps
def IsP (d : D) : Prop := ∃ ps, d = pcsD ps ∧ IsPs ps
theorem all_ex {α : Type} {f : α → D} {Q : α → Prop} : ∀ {xs : List D}, (∀ y ∈ xs, ∃ p, y = f p ∧ Q p) → ∃ ps : List α, xs = ps.map f ∧ ∀ p ∈ ps, Q p
  | [], _ => ⟨[], rfl, fun _ h => nomatch h⟩
  | x :: r, h => by
    obtain ⟨p, rfl, hq⟩ := h x List.mem_cons_self
    obtain ⟨ps, rfl, hp⟩ := all_ex (xs := r) fun y hy => h y (List.mem_cons_of_mem _ hy)
    exact ⟨p :: ps, rfl, fun q hq' => (List.mem_cons.mp hq').elim (fun e => e ▸ hq) (hp q)⟩
open Classical in
noncomputable def pcB (w : Nat) (y : D) : Bool := decide (∃ p, y = pcD p ∧ p.hi ≤ 65535 ∧ PcW w p)
open Classical in
theorem ev_is_pieceB (y : D) (w : Nat) (β : Bag) (hz : nd y ≤ 900000) : m_is_piece [.v y, .v (.int w)] β = some (.bool (pcB w y), β) := by
  obtain ⟨c, h1, h2⟩ := ev_is_piece y w β hz
  rw [h1]
  have : c = pcB w y := by
    unfold pcB
    cases c with
    | true => exact (decide_eq_true (h2.mp rfl)).symm
    | false => exact (decide_eq_false fun h => Bool.false_ne_true (h2.mpr h)).symm
  rw [this]
theorem nd_mem {xs : List D} {x : D} (h : x ∈ xs) : nd x ≤ ndA xs := by
  induction xs with
  | nil => cases h
  | cons y r ih =>
    unfold ndA
    rcases List.mem_cons.mp h with e | h
    · rw [e]; omega
    · have := ih h; omega
theorem ndA_len : ∀ xs : List D, xs.length ≤ ndA xs
  | [] => Nat.zero_le _
  | x :: r => by
    have := nd_pos x
    have := ndA_len r
    unfold ndA
    rw [List.length_cons]
    omega
theorem ctg_zip : ∀ (ps : List Pc) (n : Nat), ((ps.zip (n :: ps.map fun p => p.hi + 1)).all fun q => decide ((q.1.lo : Int) = (q.2 : Int))) = true ↔ Ctg n ps
  | [], n => by simp [Ctg]
  | p :: r, n => by
    rw [List.map_cons, List.zip_cons_cons, List.all_cons, Bool.and_eq_true_iff, ctg_zip r (p.hi + 1), decide_eq_true_iff]
    show _ ↔ p.lo = n ∧ Ctg (p.hi + 1) r
    constructor
    · rintro ⟨h1, h2⟩; exact ⟨by show p.lo = n; have h1 : (p.lo : Int) = (n : Int) := h1; omega, h2⟩
    · rintro ⟨h1, h2⟩; exact ⟨by show (p.lo : Int) = (n : Int); omega, h2⟩
theorem zipL_map : ∀ (ps : List Pc) (ns : List Nat), List.zipWith pairD (ps.map pcD) (ns.map fun (n : Nat) => PyData.int n) = (ps.zip ns).map fun q => pairD (pcD q.1) (.int (q.2 : Nat))
  | [], _ => rfl
  | p :: r, [] => rfl
  | p :: r, n :: ns => by simp only [List.map_cons, List.zipWith_cons_cons, List.zip_cons_cons, zipL_map r ns]
theorem rowOf_len : ∀ (ps : List Pc) (n : Nat), Ctg n ps → (∀ p ∈ ps, p.lo ≤ p.hi ∧ p.hi ≤ 65535) → n ≤ 65536 → n + (rowOf ps).length ≤ 65536
  | [], n, _, _, h => h
  | p :: r, n, hc, hp, h => by
    obtain ⟨h1, h2⟩ := hc
    have h3 := hp p List.mem_cons_self
    have h4 := rowOf_len r (p.hi + 1) h2 (fun q hq => hp q (List.mem_cons_of_mem _ hq)) (by omega)
    show n + (members p ++ rowOf r).length ≤ 65536
    rw [List.length_append]
    have : (members p).length = p.hi - p.lo + 1 := by unfold members; rw [List.length_map, List.length_range]
    omega
theorem mem_wid {w : Nat} {p : Pc} (h : PcW w p) : ∀ k, k < p.hi - p.lo + 1 → (mem p k).length = w := fun k hk => by
  unfold mem
  split
  · exact h.fi
  · unfold addSt
    rw [List.length_zipWith, h.fi, h.st, if_neg (by omega), Nat.min_self]
theorem rowOf_uni {w : Nat} {ps : List Pc} (h : ∀ p ∈ ps, PcW w p) : Uni w (rowOf ps) := fun x hx => by
  obtain ⟨p, hp, hx⟩ := List.mem_flatMap.mp hx
  obtain ⟨k, hk, rfl⟩ := List.mem_map.mp hx
  exact mem_wid (h p hp) k (List.mem_range.mp hk)
theorem nd_iT (l : List Int) : l.length ≤ nd (iT l) := by
  have := ndA_len (l.map PyData.int)
  rw [List.length_map] at this
  unfold nd
  omega
theorem rowOf_pos {ps : List Pc} (h : ps ≠ []) : 0 < (rowOf ps).length := by
  cases ps with
  | nil => exact absurd rfl h
  | cons p r =>
    show 0 < (members p ++ rowOf r).length
    have : (members p).length = p.hi - p.lo + 1 := by unfold members; rw [List.length_map, List.length_range]
    rw [List.length_append]
    omega
/-- what the program and the law both want of pieces -/
theorem PcW.ok {w : Nat} {p : Pc} (h : PcW w p) (hw : w ≤ 1000) (hh : p.hi ≤ 65535) : PcOk p := ⟨h.ord, by omega, by rw [h.fi]; exact hw⟩
theorem ix_hd (x : D) (xs : List D) : ixD (.tuple (x :: xs)) (.int 0) = some x := atI_nat' (n := 0) rfl
open Classical in
theorem ev_are_pieces (d : D) (β : Bag) (hz : nd d ≤ 1000) : ∃ c, m_are_pieces [.v d] β = some (.bool c, β) ∧ (c = true ↔ IsP d) := by
  unfold m_are_pieces b_are_pieces
  have no : ∀ {ms : MS} {ρ' : List Slot}, ms [.v d, .no, .no, .no, .no] β = some (.rt (.bool false), ρ', β) → ¬ IsP d → ∃ c, fnM 1 4 ms [.v d] β = some (.bool c, β) ∧ (c = true ↔ IsP d) := fun h1 h2 => ⟨false, fn_rt h1, by simp [h2]⟩
  have t1 : mNot (mTru (mIs isT (mPk 0))) [.v d, .no, .no, .no, .no] β = some (!isT d, β) := mNot_ok (mTru_b (mIs_ok rfl))
  cases hd : isT d with
  | false => exact no (seq_rt (guard_t (mOr_t (t1.trans (by rw [hd]; rfl))))) (by rintro ⟨ps, rfl, _⟩; cases hd)
  | true =>
  have t1 := t1.trans (by rw [hd]; rfl : _ = some (false, β))
  have hde := tup_kids hd
  generalize hk : kids d = xs at hde
  subst hde
  have e1 : mTest (mOp eqD (mPk 0) (mTup mLn)) [.v (.tuple xs), .no, .no, .no, .no] β = some (xs.isEmpty, β) := mTest_ok (mOp_ok (β1 := β) rfl rfl (eqD_nil xs))
  cases xs with
  | nil => exact no (seq_rt (guard_t ((mOr_f t1).trans (mOr_t e1)))) (by
      rintro ⟨ps, h1, h2⟩
      cases ps with
      | nil => exact h2.ne rfl
      | cons p r => injection h1 with h1; cases h1)
  | cons x xs =>
  have hnd : nd (PyData.tuple (x :: xs)) = nd x + ndA xs + 1 := rfl
  have hxl := ndA_len xs
  have hx0 := nd_pos x
  have e2 : mNot (mTru (mCall m_is_tuple_of (mAv (mOp ixD (mPk 0) (mC (.int 0))) (mAv (mC (.int 4)) mAn)))) [.v (.tuple (x :: xs)), .no, .no, .no, .no] β = some (!(isT x && decide (((kids x).length : Int) = 4)), β) :=
    mNot_ok (mTru_b (mCall_ok (mAv_ok (β1 := β) (mOp_ok (β1 := β) (β2 := β) rfl rfl (ix_hd x xs)) (mAv_ok (β1 := β) rfl rfl)) (ev_is_tuple_of x 4 β)))
  rcases tup4 x with ⟨a, b, f, s, rfl⟩ | h4
  rotate_left
  · exact no (seq_rt (guard_t ((mOr_f t1).trans ((mOr_f e1).trans (e2.trans (by rw [h4]; rfl)))))) (by
      rintro ⟨ps, h1, h2⟩
      cases ps with
      | nil => exact h2.ne rfl
      | cons p r =>
        injection h1 with h1
        injection h1 with h1 _
        rw [h1] at h4
        cases h4)
  have G1 := guard_f ((mOr_f t1).trans ((mOr_f e1).trans e2))
  have t2 : mNot (mTru (mIs isT (mOp ixD (mOp ixD (mPk 0) (mC (.int 0))) (mC (.int 2))))) [.v (.tuple (.tuple [a, b, f, s] :: xs)), .no, .no, .no, .no] β = some (!isT f, β) := mNot_ok (mTru_b (mIs_ok (mOp_ok (β1 := β) (mOp_ok (β1 := β) (β2 := β) rfl rfl (ix_hd _ xs)) rfl rfl)))
  have first : IsP (.tuple (.tuple [a, b, f, s] :: xs)) → ∃ l : List Int, f = iT l ∧ 0 < l.length := by
    rintro ⟨ps, h1, h2⟩
    cases ps with
    | nil => exact absurd rfl h2.ne
    | cons p r =>
      injection h1 with h1
      injection h1 with h1 _
      obtain ⟨_, _, e3, _⟩ := pcD_eq (y := .none) h1
      obtain ⟨w, hw, hp⟩ := h2.wid
      exact ⟨p.fi, e3, by rw [(hp p List.mem_cons_self).fi]; exact hw⟩
  cases hf : isT f with
  | false => exact no (seq_nx G1 (seq_rt (guard_t (mOr_t (t2.trans (by rw [hf]; rfl)))))) (fun h => by
      obtain ⟨l, rfl, _⟩ := first h
      cases hf)
  | true =>
  have t2 := t2.trans (by rw [hf]; rfl : _ = some (false, β))
  have hfe := tup_kids hf
  generalize hkf : kids f = fs at hfe
  subst hfe
  have e3 : mTest (mOp eqD (mOp ixD (mOp ixD (mPk 0) (mC (.int 0))) (mC (.int 2))) (mTup mLn)) [.v (.tuple (.tuple [a, b, .tuple fs, s] :: xs)), .no, .no, .no, .no] β = some (fs.isEmpty, β) := mTest_ok (mOp_ok (β1 := β) (mOp_ok (β1 := β) (mOp_ok (β1 := β) (β2 := β) rfl rfl (ix_hd _ xs)) rfl rfl) rfl (eqD_nil fs))
  cases hfs : fs.isEmpty with
  | true => exact no (seq_nx G1 (seq_rt (guard_t ((mOr_f t2).trans (e3.trans (by rw [hfs])))))) (fun h => by
      obtain ⟨l, h1, h2⟩ := first h
      injection h1 with h1
      rw [h1] at hfs
      cases l with
      | nil => exact absurd h2 (by decide)
      | cons _ _ => cases hfs)
  | false =>
  have G2 := guard_f ((mOr_f t2).trans (e3.trans (by rw [hfs])))
  have hw0 : 0 < fs.length := by
    cases fs with
    | nil => cases hfs
    | cons _ _ => exact Nat.succ_pos _
  generalize hys : PyData.tuple [a, b, .tuple fs, s] :: xs = ys at *
  have hyl := ndA_len ys
  have hyz : ndA ys ≤ 1000 := by
    have : nd (PyData.tuple ys) = ndA ys + 1 := rfl
    omega
  have hl : lcGo [.v (.tuple ys), .no, .no, .no, .no] (mGn 2) mYes (mCall m_is_piece (mAv (mNm 2) (mAv (mF lenD (mOp ixD (mOp ixD (mPk 0) (mC (.int 0))) (mC (.int 2)))) mAn))) (ys.map id) β = some (ys.map fun y => .bool (pcB fs.length y), β) :=
    lcGo_map id (fun y => .bool (pcB fs.length y)) ys fun y hy => ⟨_, rfl, rfl, mCall_ok (β1 := β) (ss := [.v y, .v (.int fs.length)]) (mAv_ok (β1 := β) rfl (mAv_ok (β1 := β) (mF_ok (β1 := β) (d := .tuple fs) (by rw [← hys]; exact mOp_ok (β1 := β) (mOp_ok (β1 := β) (β2 := β) rfl rfl (ix_hd _ xs)) rfl rfl) rfl) rfl)) (ev_is_pieceB y fs.length β (by have := nd_mem hy; omega))⟩
  rw [List.map_id] at hl
  have t3 : mNot (mTru (mF allD (mFz (mLc [2] (mIt (mNm 0)) (mGn 2) mYes (mCall m_is_piece (mAv (mNm 2) (mAv (mF lenD (mOp ixD (mOp ixD (mPk 0) (mC (.int 0))) (mC (.int 2)))) mAn))))))) [.v (.tuple ys), .no, .no, .no, .no] β = some (!(ys.all (pcB fs.length)), β) :=
    mNot_ok (mTru_b (mF_ok (β1 := β) (mFz_ok (mLc_ok (β1 := β) (mIt_ok (β1 := β) (d := .tuple ys) rfl rfl) hl (by rw [List.length_map, szN]; omega))) (allD_map _ _)))
  have widE : ∀ ps, PyData.tuple ys = pcsD ps → IsPs ps → ∀ p ∈ ps, PcW fs.length p := by
    intro ps h1 h2
    obtain ⟨w, hw, hp⟩ := h2.wid
    cases ps with
    | nil => exact absurd rfl h2.ne
    | cons p r =>
      have h1' : PyData.tuple ys = pcsD (p :: r) := h1
      rw [← hys] at h1'
      injection h1' with h1'
      injection h1' with h1' _
      obtain ⟨_, _, e3, _⟩ := pcD_eq (y := .none) h1'
      have : fs.length = w := by
        rw [← (hp p List.mem_cons_self).fi]
        injection e3 with e3
        rw [e3, List.length_map]
      rw [this]
      exact hp
  cases hall : ys.all (pcB fs.length) with
  | false => exact no (seq_nx G1 (seq_nx G2 (seq_rt (guard_t (t3.trans (by rw [hall]; rfl)))))) (by
      rintro ⟨ps, h1, h2⟩
      have hp := widE ps h1 h2
      have : ys.all (pcB fs.length) = true := by
        refine List.all_eq_true.mpr fun y hy => ?_
        injection h1 with h1
        rw [h1] at hy
        obtain ⟨p, hpm, rfl⟩ := List.mem_map.mp hy
        unfold pcB
        exact decide_eq_true ⟨p, rfl, h2.hi p hpm, hp p hpm⟩
      rw [this] at hall
      cases hall)
  | true =>
  have G3 := guard_f (t3.trans (by rw [hall]; rfl))
  obtain ⟨ps, hps, hpq⟩ := all_ex (f := pcD) (Q := fun p => p.hi ≤ 65535 ∧ PcW fs.length p) (xs := ys) fun y hy => of_decide_eq_true (List.all_eq_true.mp hall y hy)
  have hne : ps ≠ [] := by
    rintro rfl
    rw [hps] at hys
    cases hys
  have hpl : ps.length ≤ 1000 := by
    have : ys.length = ps.length := by rw [hps, List.length_map]
    omega
  have hfl : fs.length ≤ 1000 := by
    have h1 : nd (PyData.tuple [a, b, .tuple fs, s]) ≤ ndA ys := nd_mem (by rw [← hys]; exact List.mem_cons_self)
    have h2 : nd (PyData.tuple [a, b, .tuple fs, s]) = nd a + (nd b + ((ndA fs + 1) + (nd s + 0))) + 1 := rfl
    have := ndA_len fs
    omega
  have hord : ∀ p ∈ ps, p.lo ≤ p.hi ∧ p.hi ≤ 65535 := fun p hp => ⟨(hpq p hp).2.ord, (hpq p hp).1⟩
  have G123 : ∀ {ms : MS}, ms [.v (.tuple ys), .no, .no, .no, .no] β = ms [.v (pcsD ps), .no, .no, .no, .no] β := by rw [hps]; exact rfl
  let lows : List Nat := 0 :: ps.map fun p => p.hi + 1
  let r4 : List Slot := [.v (pcsD ps), .v (.list (lows.map fun (n : Nat) => PyData.int n)), .no, .no, .no]
  have S4 : mSet 1 (mXv (mLst (mLc1 (mC (.int 0)) (mLs (mFz (mLc [3] (mIt (mNm 0)) (mGn 3) mYes (mOp addD (mOp ixD (mPk 3) (mC (.int 1))) (mC (.int 1))))) mLn)))) [.v (.tuple ys), .no, .no, .no, .no] β = some (.nx, r4, β) := by
    rw [hps]
    have hl4 : lcGo [.v (pcsD ps), .no, .no, .no, .no] (mGn 3) mYes (mOp addD (mOp ixD (mPk 3) (mC (.int 1))) (mC (.int 1))) (ps.map pcD) β = some (ps.map (fun p => .int (p.hi + 1 : Nat)), β) :=
      lcGo_map pcD (fun p => .int (p.hi + 1 : Nat)) ps fun p _ => ⟨_, rfl, rfl, rfl⟩
    refine (mSet_ok (mLst_ok (mLc1_ok (β1 := β) (d := .int 0) rfl (mLs_ok (β1 := β) (mFz_ok (mLc_ok (vs := [3]) (ρ := [.v (pcsD ps), .no, .no, .no, .no]) (β1 := β) (mIt_ok (β1 := β) (d := pcsD ps) rfl rfl) hl4 (by rw [List.length_map, szN]; omega))) rfl rfl)) ?_)).trans ?_
    · rw [List.append_nil, List.length_cons, List.length_map, szN]; omega
    · rw [List.append_nil]
      show some (Out.nx, [Slot.v (pcsD ps), Slot.v (.list (.int 0 :: ps.map fun p => .int (p.hi + 1 : Nat))), .no, .no, .no], β) = some (Out.nx, r4, β)
      have : (lows.map fun (n : Nat) => PyData.int n) = .int 0 :: ps.map fun p => .int (p.hi + 1 : Nat) := by
        show PyData.int 0 :: (ps.map fun p => p.hi + 1).map _ = _
        rw [List.map_map]
        rfl
      rw [← this]
  have t5 : mNot (mTru (mF allD (mFz (mLc [3, 4] (mZip (mNm 0) (mNm 1)) (mGt 2 (mGcons (mGn 3) (mGcons (mGn 4) mGnil))) mYes (mOp eqD (mOp ixD (mPk 3) (mC (.int 0))) (mPk 4)))))) r4 β = some (!((ps.zip lows).all fun q => decide ((q.1.lo : Int) = (q.2 : Int))), β) := by
    have hl5 : lcGo r4 (mGt 2 (mGcons (mGn 3) (mGcons (mGn 4) mGnil))) mYes (mOp eqD (mOp ixD (mPk 3) (mC (.int 0))) (mPk 4)) ((ps.zip lows).map fun q => pairD (pcD q.1) (.int (q.2 : Nat))) β = some ((ps.zip lows).map (fun q => .bool (decide ((q.1.lo : Int) = (q.2 : Int)))), β) :=
      lcGo_map _ _ _ fun q _ => ⟨_, rfl, rfl, mOp_ok (β1 := β) (mOp_ok (β1 := β) rfl rfl (ix_pc0 q.1)) rfl (eqD_int _ _)⟩
    refine mNot_ok (mTru_b (mF_ok (β1 := β) (mFz_ok (mLc_ok (β1 := β) ((mZip_ok (β1 := β) (β2 := β) (d := pcsD ps) rfl rfl rfl rfl).trans (by rw [zipL_map])) hl5 (by rw [List.length_map, List.length_zip, szN]; omega))) ?_))
    show (boolsD ((ps.zip lows).map fun q => .bool (decide ((q.1.lo : Int) = (q.2 : Int))))).map _ = _
    have hb : ∀ zs : List (Pc × Nat), boolsD (zs.map fun q => .bool (decide ((q.1.lo : Int) = (q.2 : Int)))) = some (zs.map fun q => decide ((q.1.lo : Int) = (q.2 : Int))) := by
      intro zs
      induction zs with
      | nil => rfl
      | cons z r ih => simp only [List.map_cons, boolsD, ih, Option.map_some]
    rw [hb, Option.map_some, List.all_map]
    rfl
  have G12 : ∀ {ms : MS} {ρ' : List Slot} {c : Bool}, ms r4 β = some (.rt (.bool c), ρ', β) → fnM 1 4 _ [.v (.tuple ys)] β = some (.bool c, β) := fun h => fn_rt (seq_nx G1 (seq_nx G2 (seq_nx G3 (seq_nx S4 h))))
  cases hct : (ps.zip lows).all fun q => decide ((q.1.lo : Int) = (q.2 : Int)) with
  | false =>
    refine ⟨false, G12 (seq_rt (guard_t (t5.trans (by rw [hct]; rfl)))), by
      simp only [Bool.false_eq_true, false_iff]
      rintro ⟨ps', h1, h2⟩
      rw [hps] at h1
      have := pcsD_inj h1
      subst this
      rw [(ctg_zip ps 0).mpr h2.ctg] at hct
      cases hct⟩
  | true =>
  have hctg := (ctg_zip ps 0).mp hct
  have G4 := guard_f (t5.trans (by rw [hct]; rfl))
  have hlen := rowOf_len ps 0 hctg hord (by omega)
  have huni := rowOf_uni fun p hp => (hpq p hp).2
  have hok : RowOk (rowOf ps) := ⟨by omega, fun x hx => by rw [huni x hx]; exact hfl⟩
  have ev1 := ev_row_of ps β (fun p hp => (hpq p hp).2.ok hfl (hpq p hp).1) (by rw [szN]; omega)
  have ev2 := ev_pieces_of (rowOf ps) β hok (rowOf_pos hne)
  obtain ⟨c, hs1, hs2⟩ := ev_are_same (pcsD ps) (pcsD (P (rowOf ps) 0)) β (pn_pcsD _) (pn_pcsD _) (by rw [hps] at hz; exact Nat.le_trans hz (by decide))
  refine ⟨c, G12 (seq_nx G4 (mRet_ok (mCall_ok (mAv_ok (β1 := β) rfl (mAv_ok (β1 := β) (mCall_ok (β1 := β) (mAv_ok (β1 := β) (mCall_ok (β1 := β) (mAv_ok (β1 := β) rfl rfl) ev1) rfl) ev2) rfl)) hs1))), hs2.trans ⟨fun h => ⟨ps, by rw [hps], hne, ⟨fs.length, hw0, fun p hp => (hpq p hp).2⟩, hctg, fun p hp => (hpq p hp).1, (pcsD_inj h).symm⟩, ?_⟩⟩
  rintro ⟨ps', h1, h2⟩
  rw [hps] at h1
  have := pcsD_inj h1
  subst this
  rw [h2.P]
end K31
namespace K31
open PySem PySem.Spec PyProof.Rows L2 M
/-! ### _law_is_pieces, for any value with small numbers -/
/-- the second of four is small, or very large -/
def HB (d : D) : Prop := ∀ y ∈ kids d, ∀ a j f s, y = PyData.tuple [a, .int j, f, s] → j ≤ 150 ∨ 100000 < j
theorem rowOf_app (a b : List Pc) : rowOf (a ++ b) = rowOf a ++ rowOf b := List.flatMap_append
theorem rowOf_lenB (B : Nat) : ∀ (ps : List Pc) (n : Nat), Ctg n ps → (∀ p ∈ ps, p.lo ≤ p.hi ∧ p.hi ≤ B) → n ≤ B + 1 → n + (rowOf ps).length ≤ B + 1
  | [], n, _, _, h => h
  | p :: r, n, hc, hp, h => by
    obtain ⟨h1, h2⟩ := hc
    have h3 := hp p List.mem_cons_self
    have h4 := rowOf_lenB B r (p.hi + 1) h2 (fun q hq => hp q (List.mem_cons_of_mem _ hq)) (by omega)
    show n + (members p ++ rowOf r).length ≤ B + 1
    rw [List.length_append]
    have : (members p).length = p.hi - p.lo + 1 := by unfold members; rw [List.length_map, List.length_range]
    omega
theorem members_len (p : Pc) : (members p).length = p.hi - p.lo + 1 := by unfold members; rw [List.length_map, List.length_range]
theorem ctg_app : ∀ (ps : List Pc) (n : Nat) (q : Pc), Ctg n ps → (∀ p ∈ ps, p.lo ≤ p.hi) → q.lo = n + (rowOf ps).length → Ctg n (ps ++ [q])
  | [], n, q, _, _, h => ⟨h, trivial⟩
  | p :: r, n, q, hc, hp, h => by
    obtain ⟨h1, h2⟩ := hc
    have h3 := hp p List.mem_cons_self
    refine ⟨h1, ctg_app r (p.hi + 1) q h2 (fun q hq => hp q (List.mem_cons_of_mem _ hq)) ?_⟩
    have h : q.lo = n + (members p ++ rowOf r).length := h
    rw [List.length_append, members_len] at h
    omega
theorem ctg_at : ∀ (ps : List Pc) (n : Nat) (k : Nat) (q : Pc), Ctg n ps → (∀ p ∈ ps, p.lo ≤ p.hi) → ps[k]? = some q → q.lo = n + (rowOf (ps.take k)).length
  | [], n, k, q, _, _, h => nomatch h
  | p :: r, n, 0, q, hc, hp, h => by
    cases h
    exact hc.1
  | p :: r, n, k + 1, q, hc, hp, h => by
    obtain ⟨h1, h2⟩ := hc
    have h3 := hp p List.mem_cons_self
    have h4 := ctg_at r (p.hi + 1) k q h2 (fun q hq => hp q (List.mem_cons_of_mem _ hq)) (by simpa using h)
    show q.lo = n + (members p ++ rowOf (r.take k)).length
    rw [List.length_append, members_len]
    omega
/-- the place of a piece among pieces -/
theorem isP_at {xs : List D} {k : Nat} {x : D} {dn : List Pc} (h : IsP (.tuple xs)) (hx : xs[k]? = some x) (hd : xs.take k = dn.map pcD) : ∃ q w, x = pcD q ∧ 0 < w ∧ PcW w q ∧ (∀ p ∈ dn, PcW w p) ∧ q.lo = (rowOf dn).length ∧ q.hi ≤ 65535 := by
  obtain ⟨ps, h1, h2⟩ := h
  injection h1 with h1
  subst h1
  obtain ⟨w, hw, hp⟩ := h2.wid
  rw [List.getElem?_map] at hx
  obtain ⟨q, hq, rfl⟩ := Option.map_eq_some_iff.mp hx
  rw [← List.map_take] at hd
  have hd := map_inj (f := pcD) (fun _ _ e => pcD_inj e) hd
  subst hd
  refine ⟨q, w, rfl, hw, hp q (List.mem_of_getElem? hq), fun p hp' => hp p (List.mem_of_mem_take hp'), ?_, h2.hi q (List.mem_of_getElem? hq)⟩
  have := ctg_at ps 0 k q h2.ctg (fun p hq => (hp p hq).ord) hq
  omega
abbrev liG1 : MS := (mIfS (mOr (mNot (mTru (mIs isT (mPk 3)))) (mOr (mTest (mOp neD (mF lenD (mPk 3)) (mC (.int 4)))) (mOr (mNot (mTru (mCall m_law_is_int (mAv (mOp ixD (mPk 3) (mC (.int 0))) mAn)))) (mNot (mTru (mCall m_law_is_int (mAv (mOp ixD (mPk 3) (mC (.int 1))) mAn))))))) (mRet (mC (.bool false))) (fun ρ β => some (.nx, ρ, β)))
abbrev liG2 : MS := (mIfS (mOr (mTest (mOp neD (mPk 4) (mF lenD (mPk 1)))) (mOr (mNot (mTest (mChain leD ltD (mPk 4) (mPk 5) (mOp addD (mPk 4) (mC (.int 200)))))) (mOr (mNot (mTru (mIs isT (mPk 6)))) (mNot (mTru (mIs isT (mPk 7))))))) (mRet (mC (.bool false))) (fun ρ β => some (.nx, ρ, β)))
abbrev liOnes : ME := (mFz (mLc [8] (mIt (mOp addD (mPk 6) (mPk 7))) (mGn 8) (mNot (mTru (mCall m_law_is_int (mAv (mNm 8) mAn)))) (mC (.int 1))))
abbrev liG3 : MS := (mIfS (mOr (mTest (mOp eqD (mPk 6) (mTup mLn))) (mOr (mTest (mOp neD liOnes (mLst mLn))) (mTest (mOp (inD true) (mPk 2) (mTup (mLc1 (mC .none) (mLc1 (mF lenD (mPk 6)) mLn))))))) (mRet (mC (.bool false))) (fun ρ β => some (.nx, ρ, β)))
abbrev liG4 : MS := (mIfS (mTest (mOp neD (mF lenD (mPk 7)) (mIf (mTest (mOp gtD (mPk 5) (mPk 4))) (mNm 2) (mC (.int 0))))) (mRet (mC (.bool false))) (fun ρ β => some (.nx, ρ, β)))
abbrev liRow : MS := (mSet 1 (mXv (mOp addD (mPk 1) (mF tupOfD (mFz (mLc [9] (mRg1 (mOp addD (mOp subD (mPk 5) (mPk 4)) (mC (.int 1)))) (mGn 9) mYes (mIf (mTest (mOp gtD (mPk 5) (mPk 4))) (mF tupOfD (mFz (mLc [8, 10] (mZip (mNm 6) (mNm 7)) (mGt 2 (mGcons (mGn 8) (mGcons (mGn 10) mGnil))) mYes (mOp addD (mPk 8) (mOp mulD (mPk 9) (mPk 10)))))) (mNm 6))))))))
abbrev liB : MS := mSeq liG1 (mSeq (mAsg (mNm 3) (mGt 4 (mGcons (mGn 4) (mGcons (mGn 5) (mGcons (mGn 6) (mGcons (mGn 7) mGnil))))))
    (mSeq liG2 (mSeq liG3 (mSeq (mSet 2 (mXv (mF lenD (mPk 6)))) (mSeq liG4 liRow)))))
abbrev liR (t : D) (dn : List Pc) (mny x s4 s5 s6 s7 : Slot) : List Slot := [.v t, .v (rowD (rowOf dn)), mny, x, s4, s5, s6, s7, .no, .no, .no]
def liM (o : Option Nat) : D := match o with
  | none => .none
  | some w => .int w
theorem flat_liM (o : Option Nat) : flatD (liM o) = true := by cases o <;> rfl
theorem eqvI (i j : Int) : PyData.eqv (.int i) (.int j) = decide (i = j) := by
  rw [Bool.eq_iff_iff, nb_eqv _ _ rfl rfl]
  simp
theorem inN (o : Option Nat) (n : Nat) : inD true (liM o) (.tuple [.none, .int n]) = some (.bool (!decide (o = none ∨ o = some n))) := by
  unfold inD
  show (if (flatD (liM o) && true) = true then some (PyData.bool (!inB (liM o) [.none, .int n])) else none) = _
  rw [flat_liM]
  cases o with
  | none => rfl
  | some w =>
    show some (PyData.bool (!(PyData.eqv .none (.int w) || (PyData.eqv (.int n) (.int w) || false)))) = _
    rw [eqvI]
    have : PyData.eqv .none (.int (w : Int)) = false := by simp [PyData.eqv]
    rw [this, Bool.false_or, Bool.or_false]
    congr 3
    rw [Bool.eq_iff_iff, decide_eq_true_iff, decide_eq_true_iff]
    simp
    omega
theorem neL0 {α : Type} (xs : List α) : neD (.list (xs.map fun _ => .int 1)) (.list []) = some (.bool (!xs.isEmpty)) := by
  have h1 : pn (.list (xs.map fun _ => .int 1)) := ⟨by unfold nb; exact nbA_of xs fun _ _ => rfl, by
    unfold PyData.depth
    have := depthA_of (k := 0) (f := fun _ : α => PyData.int 1) xs fun _ _ => Nat.le_refl _
    omega⟩
  have h2 : pn (.list []) := ⟨rfl, by decide⟩
  rw [neD_pn h1 h2]
  cases xs with
  | nil => simp
  | cons x r => simp
theorem filt_all {xs : List D} : (xs.filter fun x => !isN x).isEmpty = xs.all isN := by
  induction xs with
  | nil => rfl
  | cons x r ih =>
    rw [List.all_cons]
    cases h : isN x with
    | true => rw [List.filter_cons_of_neg (by rw [h]; decide), ih]; rfl
    | false => rw [List.filter_cons_of_pos (by rw [h]; rfl)]; rfl
/-- the invariant of the law's loop over pieces -/
structure LiI (xs : List D) (k : Nat) (dn : List Pc) (o : Option Nat) : Prop where
  tk : xs.take k = dn.map pcD
  on : o = none → dn = []
  os : ∀ w, o = some w → dn ≠ [] ∧ 0 < w ∧ w ≤ 1000 ∧ ∀ p ∈ dn, PcW w p
  ctg : Ctg 0 dn
  hi : ∀ p ∈ dn, p.hi ≤ 150
open Classical in
theorem li_step {xs : List D} {k : Nat} {dn : List Pc} {o : Option Nat} {x : D} (h : LiI xs k dn o) (hx : xs[k]? = some x) (hb : HB (.tuple xs)) (hz : ndA xs ≤ 1000) (s4 s5 s6 s7 : Slot) (β : Bag) :
    ∃ ρ', (liB (liR (.tuple xs) dn (.v (liM o)) (.v x) s4 s5 s6 s7) β = some (.rt (.bool false), ρ', β) ∧ ¬ IsP (.tuple xs)) ∨ (liB (liR (.tuple xs) dn (.v (liM o)) (.v x) s4 s5 s6 s7) β = some (.nx, ρ', β) ∧ ∃ dn' w t4 t5 t6 t7, ρ' = liR (.tuple xs) dn' (.v (liM (some w))) (.v x) t4 t5 t6 t7 ∧ LiI xs (k + 1) dn' (some w)) := by
  have hxm := List.mem_of_getElem? hx
  have hxz := nd_mem hxm
  have ord : ∀ p ∈ dn, p.lo ≤ p.hi := fun p hp => by
    cases o with
    | none => rw [h.on rfl] at hp; cases hp
    | some w => exact ((h.os w rfl).2.2.2 p hp).ord
  have hrl := rowOf_lenB 150 dn 0 h.ctg (fun p hp => ⟨ord p hp, h.hi p hp⟩) (by omega)
  let ρ := liR (.tuple xs) dn (.v (liM o)) (.v x) s4 s5 s6 s7
  have t1 : mNot (mTru (mIs isT (mPk 3))) ρ β = some (!isT x, β) := mNot_ok (mTru_b (mIs_ok rfl))
  cases hT : isT x with
  | false => exact ⟨ρ, .inl ⟨seq_rt (guard_t (mOr_t (t1.trans (by rw [hT]; rfl)))), fun hp => by
      obtain ⟨q, w, rfl, _⟩ := isP_at hp hx h.tk
      cases hT⟩⟩
  | true =>
  have t1 := t1.trans (by rw [hT]; rfl : _ = some (false, β))
  have t2 : mTest (mOp neD (mF lenD (mPk 3)) (mC (.int 4))) ρ β = some (!decide (((kids x).length : Int) = 4), β) :=
    mTest_ok (mOp_ok (β1 := β) (mF_ok (β1 := β) (d := x) rfl (lenD_sq (by unfold sqB; rw [hT]; rfl))) rfl (neD_int _ _))
  rcases tup4 x with ⟨a, b, f, s, rfl⟩ | h4
  rotate_left
  · rw [hT, Bool.true_and] at h4
    exact ⟨ρ, .inl ⟨seq_rt (guard_t ((mOr_f t1).trans (mOr_t (t2.trans (by rw [h4]; rfl))))), fun hp => by
      obtain ⟨q, w, rfl, _⟩ := isP_at hp hx h.tk
      cases h4⟩⟩
  have nda : nd (.tuple [a, b, f, s]) = nd a + (nd b + (nd f + (nd s + 0))) + 1 := rfl
  rw [nda] at hxz
  have kf := kids_le f
  have ks := kids_le s
  have t3 : mNot (mTru (mCall m_law_is_int (mAv (mOp ixD (mPk 3) (mC (.int 0))) mAn))) ρ β = some (!isN a, β) := mNot_ok (mTru_b (mCall_ok (mAv_ok (β1 := β) rfl rfl) (ev_law_is_int a β)))
  have t4 : mNot (mTru (mCall m_law_is_int (mAv (mOp ixD (mPk 3) (mC (.int 1))) mAn))) ρ β = some (!isN b, β) := mNot_ok (mTru_b (mCall_ok (mAv_ok (β1 := β) rfl rfl) (ev_law_is_int b β)))
  cases ha : isN a with
  | false => exact ⟨ρ, .inl ⟨seq_rt (guard_t ((mOr_f t1).trans ((mOr_f t2).trans (mOr_t (t3.trans (by rw [ha]; rfl)))))), fun hp => by
      obtain ⟨q, w, e, _⟩ := isP_at hp hx h.tk
      obtain ⟨rfl, _⟩ := pcD_eq (y := .none) e
      cases ha⟩⟩
  | true =>
  have t3 := t3.trans (by rw [ha]; rfl : _ = some (false, β))
  cases hbN : isN b with
  | false => exact ⟨ρ, .inl ⟨seq_rt (guard_t ((mOr_f t1).trans ((mOr_f t2).trans ((mOr_f t3).trans (t4.trans (by rw [hbN]; rfl)))))), fun hp => by
      obtain ⟨q, w, e, _⟩ := isP_at hp hx h.tk
      obtain ⟨_, rfl, _⟩ := pcD_eq (y := .none) e
      cases hbN⟩⟩
  | true =>
  have G1 := guard_f ((mOr_f t1).trans ((mOr_f t2).trans ((mOr_f t3).trans (t4.trans (by rw [hbN]; rfl)))))
  obtain ⟨i, rfl⟩ := isN_ex ha
  obtain ⟨j, rfl⟩ := isN_ex hbN
  have hj := hb _ hxm _ _ _ _ rfl
  let ρ2 := liR (.tuple xs) dn (.v (liM o)) (.v (.tuple [.int i, .int j, f, s])) (.v (.int i)) (.v (.int j)) (.v f) (.v s)
  have A2 : mAsg (mNm 3) (mGt 4 (mGcons (mGn 4) (mGcons (mGn 5) (mGcons (mGn 6) (mGcons (mGn 7) mGnil))))) ρ β = some (.nx, ρ2, β) := rfl
  have no : ∀ {ms : MS} {ρ' : List Slot}, ms ρ2 β = some (.rt (.bool false), ρ', β) → ¬ IsP (.tuple xs) → mSeq liG1 (mSeq _ ms) ρ β = some (.rt (.bool false), ρ', β) ∧ ¬ IsP (.tuple xs) := fun h1 h2 => ⟨seq_nx G1 (seq_nx A2 h1), h2⟩
  have u1 : mTest (mOp neD (mPk 4) (mF lenD (mPk 1))) ρ2 β = some (!decide (i = ((rowOf dn).length : Int)), β) := by
    have e : mF lenD (mPk 1) ρ2 β = some (.int ((rowOf dn).length : Nat), β) := mF_ok (β1 := β) (d := rowD (rowOf dn)) rfl (by rw [lenD_tup, List.length_map])
    exact mTest_ok (mOp_ok (β1 := β) (d := .int i) rfl e (neD_int _ _))
  by_cases hi : i = ((rowOf dn).length : Int)
  rotate_left
  · exact ⟨ρ2, .inl (no (seq_rt (guard_t (mOr_t (u1.trans (by rw [decide_eq_false hi]; rfl))))) fun hp => by
      obtain ⟨q, w, e, _, _, _, hq, _⟩ := isP_at hp hx h.tk
      obtain ⟨e1, _⟩ := pcD_eq (y := .none) e
      injection e1 with e1
      omega)⟩
  have u1 := u1.trans (by rw [decide_eq_true hi]; rfl : _ = some (false, β))
  by_cases hij : i ≤ j ∧ j < i + 200
  rotate_left
  · have u2 : mNot (mTest (mChain leD ltD (mPk 4) (mPk 5) (mOp addD (mPk 4) (mC (.int 200))))) ρ2 β = some (true, β) := by
      by_cases hle : i ≤ j
      · exact mNot_ok (c := false) (mTest_ok (mChain_t (β1 := β) (β2 := β) (β3 := β) rfl rfl ((leD_int _ _).trans (by rw [decide_eq_true hle])) rfl ((ltD_int _ _).trans (by rw [decide_eq_false (by omega)]))))
      · exact mNot_ok (c := false) (mTest_ok (mChain_f (β1 := β) (β2 := β) rfl rfl ((leD_int _ _).trans (by rw [decide_eq_false hle]))))
    exact ⟨ρ2, .inl (no (seq_rt (guard_t ((mOr_f u1).trans (mOr_t u2)))) fun hp => by
      obtain ⟨q, w, e, _, h3, _, hq, h5⟩ := isP_at hp hx h.tk
      obtain ⟨e1, e2, _⟩ := pcD_eq (y := .none) e
      injection e1 with e1
      injection e2 with e2
      have := h3.ord
      omega)⟩
  have u2 : mNot (mTest (mChain leD ltD (mPk 4) (mPk 5) (mOp addD (mPk 4) (mC (.int 200))))) ρ2 β = some (false, β) :=
    mNot_ok (c := true) (mTest_ok (mChain_t (β1 := β) (β2 := β) (β3 := β) rfl rfl ((leD_int _ _).trans (by rw [decide_eq_true hij.1])) rfl ((ltD_int _ _).trans (by rw [decide_eq_true hij.2]))))
  have u3 : mNot (mTru (mIs isT (mPk 6))) ρ2 β = some (!isT f, β) := mNot_ok (mTru_b (mIs_ok rfl))
  have u4 : mNot (mTru (mIs isT (mPk 7))) ρ2 β = some (!isT s, β) := mNot_ok (mTru_b (mIs_ok rfl))
  cases hf : isT f with
  | false => exact ⟨ρ2, .inl (no (seq_rt (guard_t ((mOr_f u1).trans ((mOr_f u2).trans (mOr_t (u3.trans (by rw [hf]; rfl))))))) fun hp => by
      obtain ⟨q, w, e, _⟩ := isP_at hp hx h.tk
      obtain ⟨_, _, rfl, _⟩ := pcD_eq (y := .none) e
      cases hf)⟩
  | true =>
  have u3 := u3.trans (by rw [hf]; rfl : _ = some (false, β))
  cases hs : isT s with
  | false => exact ⟨ρ2, .inl (no (seq_rt (guard_t ((mOr_f u1).trans ((mOr_f u2).trans ((mOr_f u3).trans (u4.trans (by rw [hs]; rfl))))))) fun hp => by
      obtain ⟨q, w, e, _⟩ := isP_at hp hx h.tk
      obtain ⟨_, _, _, rfl⟩ := pcD_eq (y := .none) e
      cases hs)⟩
  | true =>
  have G2 := guard_f ((mOr_f u1).trans ((mOr_f u2).trans ((mOr_f u3).trans (u4.trans (by rw [hs]; rfl)))))
  have hfe := tup_kids hf
  have hse := tup_kids hs
  generalize hkf : kids f = fs at hfe kf
  generalize hks : kids s = ss at hse ks
  subst hfe hse
  have no3 : ∀ {ms : MS} {ρ' : List Slot}, ms ρ2 β = some (.rt (.bool false), ρ', β) → ¬ IsP (.tuple xs) → mSeq liG1 (mSeq _ (mSeq liG2 ms)) ρ β = some (.rt (.bool false), ρ', β) ∧ ¬ IsP (.tuple xs) := fun h1 h2 => no (seq_nx G2 h1) h2
  have v1 : mTest (mOp eqD (mPk 6) (mTup mLn)) ρ2 β = some (fs.isEmpty, β) := mTest_ok (mOp_ok (β1 := β) rfl rfl (eqD_nil fs))
  cases hfn : fs.isEmpty with
  | true => exact ⟨ρ2, .inl (no3 (seq_rt (guard_t (mOr_t (v1.trans (by rw [hfn]))))) fun hp => by
      obtain ⟨q, w, e, hw, h3, _⟩ := isP_at hp hx h.tk
      obtain ⟨_, _, e3, _⟩ := pcD_eq (y := .none) e
      injection e3 with e3
      have := h3.fi
      rw [e3] at hfn
      cases hq : q.fi with
      | nil => rw [hq] at this; exact absurd this (by show ¬ 0 = w; omega)
      | cons _ _ => rw [hq] at hfn; cases hfn)⟩
  | false =>
  have v1 := v1.trans (by rw [hfn])
  have ones : liOnes ρ2 β = some (.list (((fs ++ ss).filter fun x => !isN x).map fun _ => .int 1), β) := by
    have hl := lcGo_filter (ρ := ρ2) (mg := mGn 8) (mt := mNot (mTru (mCall m_law_is_int (mAv (mNm 8) mAn)))) (me := mC (.int 1)) (β := β) id (fun _ => .int 1) (fun x => !isN x) (fs ++ ss) fun x _ => ⟨_, rfl, mNot_ok (mTru_b (mCall_ok (β1 := β) (ss := [.v x]) rfl (ev_law_is_int x β))), fun _ => rfl⟩
    rw [List.map_id] at hl
    refine mFz_ok (mLc_ok (β1 := β) (mIt_ok (β1 := β) (d := .tuple (fs ++ ss)) (mOp_ok (β1 := β) (β2 := β) rfl rfl (addD_tup (by rw [szN]; omega))) rfl) hl ?_)
    have := List.length_filter_le (fun x => !isN x) (fs ++ ss)
    rw [List.length_append] at this
    rw [List.length_map, szN]
    omega
  have v2 : mTest (mOp neD liOnes (mLst mLn)) ρ2 β = some (!((fs ++ ss).all isN), β) := by
    refine mTest_ok (mOp_ok (β1 := β) ones rfl ?_)
    rw [neL0, filt_all]
  cases hall : (fs ++ ss).all isN with
  | false => exact ⟨ρ2, .inl (no3 (seq_rt (guard_t ((mOr_f v1).trans (mOr_t (v2.trans (by rw [hall]; rfl)))))) fun hp => by
      obtain ⟨q, w, e, hw, h3, _⟩ := isP_at hp hx h.tk
      obtain ⟨_, _, e3, e4⟩ := pcD_eq (y := .none) e
      injection e3 with e3
      injection e4 with e4
      rw [e3, e4, List.all_append, allN_iT, allN_iT] at hall
      cases hall)⟩
  | true =>
  have v2 := v2.trans (by rw [hall]; rfl : _ = some (false, β))
  rw [List.all_append] at hall
  obtain ⟨hal1, hal2⟩ := Bool.and_eq_true_iff.mp hall
  obtain ⟨l, rfl⟩ := allN_ex hal1
  obtain ⟨m, rfl⟩ := allN_ex hal2
  rw [List.length_map] at kf ks
  have hl0 : 0 < l.length := by
    cases l with
    | nil => cases hfn
    | cons _ _ => exact Nat.succ_pos _
  have v3 : mTest (mOp (inD true) (mPk 2) (mTup (mLc1 (mC .none) (mLc1 (mF lenD (mPk 6)) mLn)))) ρ2 β = some (!decide (o = none ∨ o = some l.length), β) := by
    refine mTest_ok (mOp_ok (β1 := β) (d := liM o) rfl (mTup_ok (β1 := β) (mLc1_ok (β1 := β) (β2 := β) rfl (mLc1_ok (β1 := β) (β2 := β) (d := .int l.length) (mF_ok (β1 := β) (d := iT l) rfl ?_) rfl)) (by rw [szN]; exact (by decide : 2 ≤ 16777216))) (inN o l.length))
    rw [lenD_tup, List.length_map]
  by_cases ho : o = none ∨ o = some l.length
  rotate_left
  · exact ⟨ρ2, .inl (no3 (seq_rt (guard_t ((mOr_f v1).trans ((mOr_f v2).trans (v3.trans (by rw [decide_eq_false ho]; rfl)))))) fun hp => by
      obtain ⟨q, w, e, hw, h3, h5, _⟩ := isP_at hp hx h.tk
      obtain ⟨_, _, e3, e4⟩ := pcD_eq (y := .none) e
      have e3 := iT_inj e3
      refine ho ?_
      cases o with
      | none => exact .inl rfl
      | some w' =>
        obtain ⟨g1, _, _, g4⟩ := h.os w' rfl
        obtain ⟨p, hp⟩ := List.exists_mem_of_ne_nil _ g1
        refine .inr ?_
        rw [e3, h3.fi, ← (h5 p hp).fi, (g4 p hp).fi])⟩
  have G3 := guard_f ((mOr_f v1).trans ((mOr_f v2).trans (v3.trans (by rw [decide_eq_true ho]; rfl))))
  let ρ3 := liR (.tuple xs) dn (.v (.int l.length)) (.v (.tuple [.int i, .int j, iT l, iT m])) (.v (.int i)) (.v (.int j)) (.v (iT l)) (.v (iT m))
  have S2 : mSet 2 (mXv (mF lenD (mPk 6))) ρ2 β = some (.nx, ρ3, β) := mSet_ok (mF_ok (β1 := β) (d := iT l) rfl (by rw [lenD_tup, List.length_map]))
  have no4 : ∀ {ms : MS} {ρ' : List Slot} {r : Out}, ms ρ3 β = some (r, ρ', β) → mSeq liG1 (mSeq (mAsg (mNm 3) (mGt 4 (mGcons (mGn 4) (mGcons (mGn 5) (mGcons (mGn 6) (mGcons (mGn 7) mGnil)))))) (mSeq liG2 (mSeq liG3 (mSeq (mSet 2 (mXv (mF lenD (mPk 6)))) ms)))) ρ β = some (r, ρ', β) := fun h1 => seq_nx G1 (seq_nx A2 (seq_nx G2 (seq_nx G3 (seq_nx S2 h1))))
  have gt : mTest (mOp gtD (mPk 5) (mPk 4)) ρ3 β = some (decide (i < j), β) := mTest_ok (mOp_ok (β1 := β) (d := .int j) (e := .int i) rfl rfl (gtD_int j i))
  have ml : mF lenD (mPk 7) ρ3 β = some (.int (m.length : Nat), β) := mF_ok (β1 := β) (d := iT m) rfl (by rw [lenD_tup, List.length_map])
  have me : (mIf (mTest (mOp gtD (mPk 5) (mPk 4))) (mNm 2) (mC (.int 0))) ρ3 β = some (.int ((if i < j then l.length else 0 : Nat) : Int), β) := by
    by_cases hl : i < j
    · rw [if_pos hl]; exact (mIf_t (gt.trans (by rw [decide_eq_true hl]))).trans rfl
    · rw [if_neg hl]; exact (mIf_f (gt.trans (by rw [decide_eq_false hl]))).trans rfl
  have w1 : mTest (mOp neD (mF lenD (mPk 7)) (mIf (mTest (mOp gtD (mPk 5) (mPk 4))) (mNm 2) (mC (.int 0)))) ρ3 β = some (!decide ((m.length : Int) = ((if i < j then l.length else 0 : Nat) : Int)), β) := mTest_ok (mOp_ok (β1 := β) ml me (neD_int _ _))
  by_cases hm : m.length = if i < j then l.length else 0
  rotate_left
  · exact ⟨ρ3, .inl ⟨no4 (seq_rt (guard_t (w1.trans (by rw [decide_eq_false (by omega)]; rfl)))), fun hp => by
      obtain ⟨q, w, e, hw, h3, h5, _⟩ := isP_at hp hx h.tk
      obtain ⟨e1, e2, e3, e4⟩ := pcD_eq (y := .none) e
      injection e1 with e1
      injection e2 with e2
      refine hm ?_
      rw [iT_inj e4, h3.st, iT_inj e3, h3.fi]
      by_cases hl : i < j
      · rw [if_pos hl, if_neg (by omega)]
      · rw [if_neg hl, if_pos (by omega)]⟩⟩
  have G4 := guard_f (w1.trans (by rw [decide_eq_true (by omega)]; rfl))
  let p : Pc := ⟨i.toNat, j.toNat, l, m⟩
  have ei : ((i.toNat : Nat) : Int) = i := by omega
  have ej : ((j.toNat : Nat) : Int) = j := by omega
  have hpw : PcW l.length p := ⟨by show i.toNat ≤ j.toNat; omega, rfl, by
    show m.length = if i.toNat = j.toNat then 0 else l.length
    rw [hm]
    by_cases hl : i < j
    · rw [if_pos hl, if_neg (by omega)]
    · rw [if_neg hl, if_pos (by omega)]⟩
  have hpD : pcD p = .tuple [.int i, .int j, iT l, iT m] := by
    unfold pcD
    simp only [p, ei, ej]
  have hrg : rangeD 0 (j - i + 1) = (List.range (p.hi - p.lo + 1)).map fun k => PyData.int (0 + (k : Nat)) := by
    unfold rangeD
    congr 2
    show (j - i + 1 - 0).toNat = j.toNat - i.toNat + 1
    omega
  have hel : ∀ k, k < p.hi - p.lo + 1 → (mIf (mTest (mOp gtD (mPk 5) (mPk 4))) (mF tupOfD (mFz (mLc [8, 10] (mZip (mNm 6) (mNm 7)) (mGt 2 (mGcons (mGn 8) (mGcons (mGn 10) mGnil))) mYes (mOp addD (mPk 8) (mOp mulD (mPk 9) (mPk 10)))))) (mNm 6)) (ρ3.set 9 (.v (.int (0 + (k : Nat))))) β = some (iT (mem p k), β) := by
    intro k hk
    have hk : k < j.toNat - i.toNat + 1 := hk
    have gt2 : mTest (mOp gtD (mPk 5) (mPk 4)) (ρ3.set 9 (.v (.int (0 + (k : Nat))))) β = some (decide (i < j), β) := mTest_ok (mOp_ok (β1 := β) (d := .int j) (e := .int i) rfl rfl (gtD_int j i))
    by_cases hl : i < j
    · rw [mIf_t (gt2.trans (by rw [decide_eq_true hl]))]
      have hz2 : lcGo (ρ3.set 9 (.v (.int (0 + (k : Nat))))) (mGt 2 (mGcons (mGn 8) (mGcons (mGn 10) mGnil))) mYes (mOp addD (mPk 8) (mOp mulD (mPk 9) (mPk 10))) ((l.zip m).map fun p => pairD (.int p.1) (.int p.2)) β = some ((l.zip m).map (fun p => .int (p.1 + p.2 * (k : Nat))), β) :=
        lcGo_map _ _ _ fun p _ => ⟨_, rfl, rfl, mOp_ok (β1 := β) (β2 := β) (d := .int p.1) (e := .int (p.2 * (k : Nat))) rfl (mOp_ok (β1 := β) (β2 := β) (d := .int (0 + (k : Nat))) (e := .int p.2) rfl rfl (by rw [mulD_int (.inl (in64_sm (by omega) (by omega))), Int.zero_add, Int.mul_comm])) rfl⟩
      refine (mF_ok (β1 := β) (mFz_ok (mLc_ok (β1 := β) (vs := [8, 10]) (ρ := ρ3.set 9 (.v (.int (0 + (k : Nat))))) ((mZip_ok (β1 := β) (β2 := β) (d := iT l) (e := iT m) rfl rfl rfl rfl).trans (by rw [zip_pair])) hz2 (by rw [List.length_map, List.length_zip, szN]; omega))) (tupOfD_lst _)).trans ?_
      rw [addSt_zip]
      unfold mem
      by_cases h0 : k = 0
      · rw [if_pos h0, h0, show ((0 : Nat) : Int) = 0 from rfl, addSt_zero l m (by rw [hm, if_pos hl])]
      · rw [if_neg h0]
    · rw [mIf_f (gt2.trans (by rw [decide_eq_false hl]))]
      have h0 : k = 0 := by omega
      unfold mem
      rw [if_pos h0]
      rfl
  have hlr : lcGo ρ3 (mGn 9) mYes (mIf (mTest (mOp gtD (mPk 5) (mPk 4))) (mF tupOfD (mFz (mLc [8, 10] (mZip (mNm 6) (mNm 7)) (mGt 2 (mGcons (mGn 8) (mGcons (mGn 10) mGnil))) mYes (mOp addD (mPk 8) (mOp mulD (mPk 9) (mPk 10)))))) (mNm 6)) (rangeD 0 (j - i + 1)) β = some ((List.range (p.hi - p.lo + 1)).map (fun k => iT (mem p k)), β) := by
    rw [hrg]
    exact lcGo_map _ _ _ fun k hk => ⟨_, rfl, rfl, hel k (List.mem_range.mp hk)⟩
  have hml : (members p).map iT = (List.range (p.hi - p.lo + 1)).map (fun k => iT (mem p k)) := by
    unfold members
    rw [List.map_map]
    rfl
  have hp150 : p.hi ≤ 150 := by show j.toNat ≤ 150; omega
  have SR : liRow ρ3 β = some (.nx, liR (.tuple xs) (dn ++ [p]) (.v (.int l.length)) (.v (.tuple [.int i, .int j, iT l, iT m])) (.v (.int i)) (.v (.int j)) (.v (iT l)) (.v (iT m)), β) := by
    have hrow : rowD (rowOf (dn ++ [p])) = .tuple ((rowOf dn).map iT ++ (members p).map iT) := by
      rw [rowOf_app, rowD, List.map_append]
      show PyData.tuple (_ ++ (members p ++ []).map iT) = _
      rw [List.append_nil]
    have hlen : (members p).length ≤ 200 := by rw [members_len]; omega
    refine (mSet_ok (d := rowD (rowOf (dn ++ [p]))) (mOp_ok (β1 := β) (β2 := β) (d := rowD (rowOf dn)) rfl (mF_ok (β1 := β) (mFz_ok (mLc_ok (β1 := β) (vs := [9]) (ρ := ρ3) (mRg1_ok (β1 := β) (i := j - i + 1) rfl (in62_nat (by omega) (by omega))) hlr ?_)) (tupOfD_lst _)) ?_)).trans ?_
    · rw [List.length_map, List.length_range, szN]; rw [members_len] at hlen; omega
    · rw [← hml, hrow]
      exact addD_tup (by rw [List.length_map, List.length_map, szN]; omega)
    · rfl
  refine ⟨_, .inr ⟨no4 (seq_nx G4 SR), dn ++ [p], l.length, _, _, _, _, rfl, ?_, nofun, ?_, ?_, ?_⟩⟩
  · have hk := (List.getElem?_eq_some_iff.mp hx)
    rw [List.take_add_one, hx, h.tk, List.map_append, List.map_singleton, hpD]
    rfl
  · intro w hw
    cases hw
    refine ⟨by simp, hl0, by omega, fun q hq => ?_⟩
    rcases List.mem_append.mp hq with hq | hq
    · rcases ho with rfl | rfl
      · rw [h.on rfl] at hq; cases hq
      · exact (h.os _ rfl).2.2.2 q hq
    · rw [List.mem_singleton.mp hq]; exact hpw
  · exact ctg_app dn 0 p h.ctg ord (by show i.toNat = _; omega)
  · intro q hq
    rcases List.mem_append.mp hq with hq | hq
    · exact h.hi q hq
    · rw [List.mem_singleton.mp hq]; exact hp150
theorem pn_nd_pc {w : Nat} {r : List (List Int)} (hu : Uni w r) : ∀ low, ndA ((P r low).map pcD) ≤ (r.length - low) * (2 * w + 5) := by
  intro low
  by_cases hl : low < r.length
  · rw [P_cons hl, List.map_cons]
    have ih := pn_nd_pc hu ((mkPc r low).hi + 1)
    have h2 := mkPc_hi r low
    have hw := hu.gt hl
    have e1 : ∀ l : List Int, ndA (l.map PyData.int) = l.length := fun l => by
      induction l with
      | nil => rfl
      | cons x r ih => rw [List.map_cons]; unfold ndA; rw [ih]; unfold nd; rw [List.length_cons]; omega
    have e2 : nd (pcD (mkPc r low)) = 1 + (1 + ((mkPc r low).fi.length + 1 + ((mkPc r low).st.length + 1 + 0))) + 1 := by
      show 1 + (1 + ((ndA ((mkPc r low).fi.map PyData.int) + 1) + ((ndA ((mkPc r low).st.map PyData.int) + 1) + 0))) + 1 = _
      rw [e1, e1]
    have e3 : (mkPc r low).st.length ≤ w := by
      unfold mkPc
      split
      · rw [stepI_len, hw]; omega
      · exact Nat.zero_le _
    have e4 : (mkPc r low).fi.length = w := by rw [mkPc_fi]; exact hw
    unfold ndA
    rw [e2, e4]
    have : (r.length - low) * (2 * w + 5) ≥ (r.length - ((mkPc r low).hi + 1) + 1) * (2 * w + 5) := Nat.mul_le_mul_right _ (by omega)
    rw [Nat.add_mul] at this
    omega
  · rw [P_nil (by omega)]
    exact Nat.zero_le _
termination_by low => r.length - low
decreasing_by have := mkPc_hi r low; omega
open Classical in
theorem ev_law_is_pieces (d : D) (β : Bag) (hz : nd d ≤ 1000) (hb : HB d) : ∃ c, m_law_is_pieces [.v d] β = some (.bool c, β) ∧ (c = true ↔ IsP d) := by
  unfold m_law_is_pieces b_law_is_pieces
  let ρ0 : List Slot := [.v d, .no, .no, .no, .no, .no, .no, .no, .no, .no, .no]
  have no : ∀ {ms : MS} {ρ' : List Slot}, ms ρ0 β = some (.rt (.bool false), ρ', β) → ¬ IsP d → ∃ c, fnM 1 10 ms [.v d] β = some (.bool c, β) ∧ (c = true ↔ IsP d) := fun h1 h2 => ⟨false, fn_rt h1, by simp [h2]⟩
  have t1 : mNot (mTru (mIs isT (mPk 0))) ρ0 β = some (!isT d, β) := mNot_ok (mTru_b (mIs_ok rfl))
  cases hd : isT d with
  | false => exact no (seq_rt (guard_t (mOr_t (t1.trans (by rw [hd]; rfl))))) (by rintro ⟨ps, rfl, _⟩; cases hd)
  | true =>
  have t1 := t1.trans (by rw [hd]; rfl : _ = some (false, β))
  have hde := tup_kids hd
  generalize hk : kids d = xs at hde
  subst hde
  have e1 : mTest (mOp eqD (mPk 0) (mTup mLn)) ρ0 β = some (xs.isEmpty, β) := mTest_ok (mOp_ok (β1 := β) rfl rfl (eqD_nil xs))
  cases hxe : xs.isEmpty with
  | true => exact no (seq_rt (guard_t ((mOr_f t1).trans (e1.trans (by rw [hxe]))))) (by
      rintro ⟨ps, h1, h2⟩
      injection h1 with h1
      subst h1
      cases ps with
      | nil => exact h2.ne rfl
      | cons p r => cases hxe)
  | false =>
  have G1 := guard_f ((mOr_f t1).trans (e1.trans (by rw [hxe])))
  have hzx : ndA xs ≤ 1000 := by
    have : nd (PyData.tuple xs) = ndA xs + 1 := rfl
    omega
  let I : Nat → List Slot → Bag → Prop := fun k ρ β' => β' = β ∧ ∃ dn o s3 s4 s5 s6 s7, ρ = liR (.tuple xs) dn (.v (liM o)) s3 s4 s5 s6 s7 ∧ LiI xs k dn o
  let post : D → Bag → Prop := fun z β' => β' = β ∧ z = .bool false ∧ ¬ IsP (.tuple xs)
  have A1 : mAsg (mTup (mLc1 (mTup mLn) (mLc1 (mC .none) mLn))) (mGt 2 (mGcons (mGn 1) (mGcons (mGn 2) mGnil))) ρ0 β = some (.nx, liR (.tuple xs) [] (.v (liM none)) .no .no .no .no .no, β) := by
    walk_at "mx"
    rfl
  have lp := for_ret (mg := mGn 3) (mb := liB) (post := post) I xs 0 (liR (.tuple xs) [] (.v (liM none)) .no .no .no .no .no) β ⟨rfl, [], none, .no, .no, .no, .no, .no, rfl, ⟨by rw [List.take_zero]; rfl, fun _ => rfl, nofun, trivial, nofun⟩⟩ (by
    rintro i x ρ β' hx ⟨rfl, dn, o, s3, s4, s5, s6, s7, rfl, hI⟩
    rw [Nat.zero_add] at *
    obtain ⟨ρ', h1⟩ := li_step hI hx hb hzx s4 s5 s6 s7 β'
    rcases h1 with ⟨h1, h2⟩ | ⟨h1, dn', w, t4, t5, t6, t7, rfl, h2⟩
    · exact ⟨_, ρ', β', rfl, .inr ⟨_, h1, rfl, rfl, h2⟩⟩
    · exact ⟨_, _, β', rfl, .inl ⟨h1, rfl, dn', some w, _, t4, t5, t6, t7, rfl, h2⟩⟩)
  rcases lp with ⟨ρ', β', h1, rfl, dn, o, s3, s4, s5, s6, s7, rfl, hI⟩ | ⟨z, ρ', β', h1, rfl, rfl, h2⟩
  rotate_left
  · exact no (seq_nx G1 (seq_nx A1 (seq_rt ((mFor_ok (mIt_ok (β1 := β') (d := .tuple xs) rfl rfl)).trans h1)))) h2
  have hx0 : xs ≠ [] := by rintro rfl; cases hxe
  have hxs : xs = dn.map pcD := by
    have := hI.tk
    rw [Nat.zero_add, List.take_length] at this
    exact this
  cases o with
  | none => rw [hI.on rfl] at hxs; exact absurd hxs hx0
  | some w =>
  obtain ⟨g1, g2, g3, g4⟩ := hI.os w rfl
  have hrl := rowOf_lenB 150 dn 0 hI.ctg (fun p hp => ⟨(g4 p hp).ord, hI.hi p hp⟩) (by omega)
  have huni := rowOf_uni g4
  have hok : RowOk (rowOf dn) := ⟨by omega, fun x hx => by rw [huni x hx]; exact g3⟩
  have hnp : nd (pcsD (P (rowOf dn) 0)) ≤ 900000 := by
    have h1 := pn_nd_pc huni 0
    have h2 : ((rowOf dn).length - 0) * (2 * w + 5) ≤ 151 * (2 * 1000 + 5) := Nat.mul_le_mul (by omega) (by omega)
    show ndA ((P (rowOf dn) 0).map pcD) + 1 ≤ 900000
    omega
  obtain ⟨c, c1, c2⟩ := ev_alike (pcsD (P (rowOf dn) 0)) (.tuple xs) β' (nb_pb _ (pn_pcsD _).1) (by rw [hxs]; exact nb_pb _ (pn_pcsD dn).1) hnp
  refine ⟨c, fn_rt (seq_nx G1 (seq_nx A1 (seq_nx ((mFor_ok (mIt_ok (β1 := β') (d := .tuple xs) rfl rfl)).trans h1) (mRet_ok (mCall_ok (mAv_ok (β1 := β') (mCall_ok (β1 := β') (mAv_ok (β1 := β') rfl rfl) (ev_law_pieces _ β' hok)) (mAv_ok (β1 := β') rfl rfl)) c1))))), c2.trans ⟨fun e => ⟨dn, by rw [hxs], g1, ⟨w, g2, g4⟩, hI.ctg, fun p hp => Nat.le_trans (hI.hi p hp) (by decide), pcsD_inj (e.trans (by rw [hxs]))⟩, ?_⟩⟩
  rintro ⟨ps, h3, h4⟩
  rw [hxs] at h3
  have h3 := pcsD_inj h3
  subst h3
  rw [h4.P, hxs]
end K31
namespace K31
open PySem PySem.Spec PyProof.Rows L2 M
/-! ### draws -/
theorem pow18 : powD (.int 10) (.int 18) = some (.int (10 ^ 18)) := by
  unfold powD i2c
  simp only
  rw [if_pos (by decide +kernel)]
  rfl
theorem pow30 : powD (.int 10) (.int 30) = some (.int (10 ^ 30)) := by
  unfold powD i2c
  simp only
  rw [if_pos (by decide +kernel)]
  rfl
theorem mulD_sm {i j : Int} (h : (-1000000000000 ≤ i ∧ i ≤ 1000000000000) ∨ (-1000000000000 ≤ j ∧ j ≤ 1000000000000)) : mulD (.int i) (.int j) = some (.int (i * j)) :=
  mulD_int (h.imp (fun q => in64_sm q.1 q.2) fun q => in64_sm q.1 q.2)
theorem cell_ex (cells : List Int) (hs : cells.length ≤ 63) (k : Int) : ∃ c : Int, ((slD (.list (cells.map .int)) (some k) none).bind fun z => (addD z (.list [.int 0])).bind fun y => ixD y (.int 0)) = some (.int c) := by
  unfold slD
  simp only [Option.bind_some]
  have e : M.cutD (cells.map PyData.int) (some k) none = (((cells.drop (HT.sIx (cells.map PyData.int).length 0 (some k))).take (HT.sIx (cells.map PyData.int).length (cells.map PyData.int).length none - HT.sIx (cells.map PyData.int).length 0 (some k)))).map .int := by
    unfold M.cutD
    rw [List.map_take, List.map_drop]
  rw [e]
  generalize hd : ((cells.drop (HT.sIx (cells.map PyData.int).length 0 (some k))).take (HT.sIx (cells.map PyData.int).length (cells.map PyData.int).length none - HT.sIx (cells.map PyData.int).length 0 (some k))) = ds
  have hl : ds.length ≤ 63 := by rw [← hd, List.length_take, List.length_drop]; omega
  rw [addD_lst (by rw [List.length_map, List.length_singleton, szN]; omega)]
  simp only [Option.bind_some]
  cases ds with
  | nil => exact ⟨0, rfl⟩
  | cons c r => exact ⟨c, atI_nat' (n := 0) rfl⟩
theorem mBgPut_ok {i j : Nat} {m : ME} {ρ : List Slot} {β β1 β' : Bag} {v : Int} (hb : ρ[i]? = some .bag) (h : m ρ β = some (.int v, β1)) (hs : bagS β1 j v = some β') : mBgPut i j m ρ β = some (.nx, ρ, β') := by
  simp only [mBgPut, h, hb, toI, hs, Option.bind_some, Option.map_some]
abbrev tkA : MS := (mSeq (mSet 2 (mXv (mOp ixD (mOp addD (mSl slD (mBg 0 3) (mOs (mBg 0 2)) mOn) (mLst (mLc1 (mC (.int 0)) mLn))) (mC (.int 0)))))
    (mSeq (mBgAug 0 2 (mC (.int 1)))
    (mSeq (mIfS (mTest (mOp geD (mPk 2) (mOp powD (mC (.int 10)) (mC (.int 18))))) (mBgPut 0 0 (mNm 2)) (fun ρ β => some (.nx, ρ, β)))
    (mSeq (mSet 3 (mXv (mOp addD (mOp addD (mOp mulD (mBg 0 1) (mC (.int 48271))) (mOp modD (mF M.intD (mPk 2)) (mC (.int 2147483647)))) (mOp mulD (mC (.int 7919)) (mBg 0 2)))))
    (mBgPut 0 1 (mOp modD (mF M.intD (mPk 3)) (mC (.int 2147483647))))))))
theorem tkA_ok (n : Int) (β : Bag) : ∃ s2 s3 β', tkA [.bag, .v (.int n), .no, .no, .no, .no, .no] β = some (.nx, [.bag, .v (.int n), s2, s3, .no, .no, .no], β') := by
  obtain ⟨c, hc⟩ := cell_ex β.cells β.small β.k
  obtain ⟨z, h1, hc⟩ := Option.bind_eq_some_iff.mp hc
  obtain ⟨y, h2, h3⟩ := Option.bind_eq_some_iff.mp hc
  let ρ1 : List Slot := [.bag, .v (.int n), .v (.int c), .no, .no, .no, .no]
  have a1 : mSet 2 (mXv (mOp ixD (mOp addD (mSl slD (mBg 0 3) (mOs (mBg 0 2)) mOn) (mLst (mLc1 (mC (.int 0)) mLn))) (mC (.int 0)))) [.bag, .v (.int n), .no, .no, .no, .no, .no] β = some (.nx, ρ1, β) :=
    mSet_ok (mOp_ok (β1 := β) (β2 := β) (mOp_ok (β1 := β) (β2 := β) (mSl_ok (β1 := β) (β2 := β) (β3 := β) (d := .list (β.cells.map .int)) rfl (mOs_ok (β1 := β) (i := β.k) rfl) rfl h1) (mLst_ok (β1 := β) rfl (by rw [szN]; exact (by decide : 1 ≤ 16777216))) h2) rfl h3)
  let β2 : Bag := ⟨β.n, β.m, β.k + 1, β.cells, β.small⟩
  have a2 : mBgAug 0 2 (mC (.int 1)) ρ1 β = some (.nx, ρ1, β2) := rfl
  have a3 : ∃ β3, (mIfS (mTest (mOp geD (mPk 2) (mOp powD (mC (.int 10)) (mC (.int 18))))) (mBgPut 0 0 (mNm 2)) (fun ρ β => some (.nx, ρ, β))) ρ1 β2 = some (.nx, ρ1, β3) := by
    have ht : mTest (mOp geD (mPk 2) (mOp powD (mC (.int 10)) (mC (.int 18)))) ρ1 β2 = some (decide (10 ^ 18 ≤ c), β2) :=
      mTest_ok (mOp_ok (β1 := β2) (β2 := β2) (d := .int c) rfl (mOp_ok (β1 := β2) (β2 := β2) rfl rfl pow18) (geD_int _ _))
    cases hd : decide (10 ^ 18 ≤ c) with
    | true => exact ⟨⟨c, β2.m, β2.k, β2.cells, β2.small⟩, (mIfS_t (ht.trans (by rw [hd]))).trans rfl⟩
    | false => exact ⟨β2, (mIfS_f (ht.trans (by rw [hd]))).trans rfl⟩
  obtain ⟨β3, a3⟩ := a3
  let v := β3.m * 48271 + c.fmod 2147483647 + 7919 * β3.k
  let ρ4 : List Slot := [.bag, .v (.int n), .v (.int c), .v (.int v), .no, .no, .no]
  have a4 : mSet 3 (mXv (mOp addD (mOp addD (mOp mulD (mBg 0 1) (mC (.int 48271))) (mOp modD (mF M.intD (mPk 2)) (mC (.int 2147483647)))) (mOp mulD (mC (.int 7919)) (mBg 0 2)))) ρ1 β3 = some (.nx, ρ4, β3) :=
    mSet_ok (mOp_ok (β1 := β3) (β2 := β3) (mOp_ok (β1 := β3) (β2 := β3) (mOp_ok (β1 := β3) (β2 := β3) (d := .int β3.m) rfl rfl (mulD_sm (.inr (by omega)))) (mOp_ok (β1 := β3) (β2 := β3) (mF_ok (β1 := β3) (d := .int c) rfl rfl) rfl (modD_int (by omega))) rfl) (mOp_ok (β1 := β3) (β2 := β3) (e := .int β3.k) rfl rfl (mulD_sm (.inl (by omega)))) rfl)
  have a5 : (mBgPut 0 1 (mOp modD (mF M.intD (mPk 3)) (mC (.int 2147483647)))) ρ4 β3 = some (.nx, ρ4, ⟨β3.n, v.fmod 2147483647, β3.k, β3.cells, β3.small⟩) :=
    mBgPut_ok rfl (mOp_ok (β1 := β3) (β2 := β3) (mF_ok (β1 := β3) (d := .int v) rfl rfl) rfl (modD_int (by omega))) rfl
  exact ⟨.v (.int c), .v (.int v), _, seq_nx a1 (seq_nx a2 (seq_nx a3 (seq_nx a4 a5)))⟩
theorem ev_take (n : Int) (β : Bag) (h0 : 0 < n) (h1 : n < 1000000000) : ∃ r β', m_law_take [.bag, .v (.int n)] β = some (.int r, β') ∧ 0 ≤ r ∧ r < n := by
  unfold m_law_take b_law_take
  have s1 : ∃ s2 s3 β1, (mIfS (mTest (mOp eqD (mBg 0 0) (mC (.int 0)))) tkA (fun ρ β => some (.nx, ρ, β))) [.bag, .v (.int n), .no, .no, .no, .no, .no] β = some (.nx, [.bag, .v (.int n), s2, s3, .no, .no, .no], β1) := by
    have ht : mTest (mOp eqD (mBg 0 0) (mC (.int 0))) [.bag, .v (.int n), .no, .no, .no, .no, .no] β = some (decide (β.n = 0), β) := mTest_ok (mOp_ok (β1 := β) (β2 := β) (d := .int β.n) rfl rfl (eqD_int _ _))
    cases hd : decide (β.n = 0) with
    | true =>
      obtain ⟨s2, s3, β', q⟩ := tkA_ok n β
      exact ⟨s2, s3, β', (mIfS_t (ht.trans (by rw [hd]))).trans q⟩
    | false => exact ⟨.no, .no, β, (mIfS_f (ht.trans (by rw [hd]))).trans rfl⟩
  obtain ⟨s2, s3, β1, s1⟩ := s1
  have ht : mTest (mOp gtD (mBg 0 0) (mC (.int 0))) [.bag, .v (.int n), s2, s3, .no, .no, .no] β1 = some (decide (0 < β1.n), β1) := mTest_ok (mOp_ok (β1 := β1) (β2 := β1) (d := .int β1.n) rfl rfl (gtD_int _ _))
  cases hd : decide (0 < β1.n) with
  | true =>
    refine ⟨β1.n.fmod n, ⟨β1.n.fdiv n, β1.m, β1.k, β1.cells, β1.small⟩, fn_rt (ρ' := [.bag, .v (.int n), s2, s3, .v (.int (β1.n.fmod n)), .no, .no]) (seq_nx s1 (seq_rt ((mIfS_t (ht.trans (by rw [hd]))).trans ?_))), Int.fmod_nonneg_of_pos _ h0, Int.fmod_lt_of_pos _ h0⟩
    refine seq_nx (ρ1 := [.bag, .v (.int n), s2, s3, .v (.int (β1.n.fmod n)), .no, .no]) (β1 := β1) (mSet_ok (mOp_ok (β1 := β1) (β2 := β1) (d := .int β1.n) (e := .int n) (mF_ok (β1 := β1) (d := .int β1.n) rfl rfl) rfl (modD_int (by omega)))) ?_
    refine seq_nx (ρ1 := [.bag, .v (.int n), s2, s3, .v (.int (β1.n.fmod n)), .no, .no]) (β1 := ⟨β1.n.fdiv n, β1.m, β1.k, β1.cells, β1.small⟩) ?_ rfl
    exact mBgPut_ok rfl (mOp_ok (β1 := β1) (β2 := β1) (d := .int β1.n) (e := .int n) (mF_ok (β1 := β1) (d := .int β1.n) rfl rfl) rfl (fdivD_int ⟨by omega, by omega⟩)) rfl
  | false =>
    let b : Int := ((β1.m + 1) * 39373).fmod 1000000007
    have hb0 : 0 ≤ b := Int.fmod_nonneg_of_pos _ (by decide)
    have hb1 : b < 1000000007 := Int.fmod_lt_of_pos _ (by decide)
    let c : Int := ((b * b).fmod 998244353 * 30011).fmod 998244353
    refine ⟨(c.fdiv 7).fmod n, β1, fn_rt (ρ' := [.bag, .v (.int n), s2, s3, .no, .v (.int b), .v (.int c)]) (seq_nx s1 (seq_nx ((mIfS_f (ht.trans (by rw [hd]))).trans rfl) ?_)), Int.fmod_nonneg_of_pos _ h0, Int.fmod_lt_of_pos _ h0⟩
    refine seq_nx (ρ1 := [.bag, .v (.int n), s2, s3, .no, .v (.int b), .no]) (β1 := β1) (mSet_ok (mOp_ok (β1 := β1) (β2 := β1) (mF_ok (β1 := β1) (d := .int ((β1.m + 1) * 39373)) (mOp_ok (β1 := β1) (β2 := β1) (d := .int (β1.m + 1)) rfl rfl (mulD_sm (.inr (by omega)))) rfl) rfl (modD_int (by omega)))) ?_
    refine seq_nx (ρ1 := [.bag, .v (.int n), s2, s3, .no, .v (.int b), .v (.int c)]) (β1 := β1) (mSet_ok (mOp_ok (β1 := β1) (β2 := β1) (mF_ok (β1 := β1) (d := .int ((b * b).fmod 998244353 * 30011)) (mOp_ok (β1 := β1) (β2 := β1) (d := .int ((b * b).fmod 998244353)) (mOp_ok (β1 := β1) (β2 := β1) (mF_ok (β1 := β1) (d := .int (b * b)) (mOp_ok (β1 := β1) (β2 := β1) (d := .int b) (e := .int b) rfl rfl (mulD_sm (.inr (by omega)))) rfl) rfl (modD_int (by omega))) rfl (mulD_sm (.inr (by omega)))) rfl) rfl (modD_int (by omega)))) ?_
    exact mRet_ok (mOp_ok (β1 := β1) (β2 := β1) (e := .int n) (mF_ok (β1 := β1) (d := .int (c.fdiv 7)) (mOp_ok (β1 := β1) (β2 := β1) (d := .int c) rfl rfl (fdivD_int ⟨by omega, by omega⟩)) rfl) rfl (modD_int (by omega)))
/-- one of some things -/
theorem ev_some {ds : List D} {d : D} (h : seqD d = some ds) (h0 : ds ≠ []) (h1 : ds.length ≤ 1000000) (β : Bag) : ∃ x β', m_law_some [.bag, .v d] β = some (x, β') ∧ x ∈ ds := by
  have hl : 0 < ds.length := List.length_pos_iff.mpr h0
  obtain ⟨r, β', t1, t2, t3⟩ := ev_take ds.length β (by omega) (by omega)
  have hr : r.toNat < ds.length := by omega
  refine ⟨ds[r.toNat], β', ?_, List.getElem_mem _⟩
  unfold m_law_some b_law_some
  refine fn_rt (ρ' := [.bag, .v d]) (mRet_ok (mOp_ok (β1 := β) (β2 := β') (d := d) (e := .int r) rfl (mCall_ok (β1 := β) (ss := [.bag, .v (.int ds.length)]) ?_ t1) ?_))
  · have : mAv (mF lenD (mPk 1)) mAn [.bag, .v d] β = some ([.v (.int ds.length)], β) := mAv_ok (mF_ok (β1 := β) (d := d) rfl (by unfold lenD; rw [h]; rfl)) rfl
    show (mAv (mF lenD (mPk 1)) mAn [.bag, .v d] β).map _ = _
    rw [this]
    rfl
  · unfold ixD
    rw [h]
    simp only [Option.bind_some, toI]
    exact atI_int (n := r.toNat) (by omega) (List.getElem?_eq_getElem hr)
end K31
namespace K31
open PySem PySem.Spec PyProof.Rows L2 M
/-! ### values of any kind, drawn, and bent ones -/
theorem take_ok {e : ME} {ρ : List Slot} {β β1 : Bag} {n : Int} (hb : ρ[0]? = some .bag) (h : e ρ β = some (.int n, β1)) (h0 : 0 < n) (h1 : n < 1000000000) : ∃ r β', mCall m_law_take (mAb 0 (mAv e mAn)) ρ β = some (.int r, β') ∧ 0 ≤ r ∧ r < n := by
  obtain ⟨r, β', t1, t2⟩ := ev_take n β1 h0 h1
  refine ⟨r, β', mCall_ok (β1 := β1) (ss := [.bag, .v (.int n)]) ?_ t1, t2⟩
  simp only [mAb, hb, mAv_ok (ma := mAn) h rfl, Option.map_some]
theorem some_ok {e : ME} {ρ : List Slot} {β β1 : Bag} {d : D} {ds : List D} (hb : ρ[0]? = some .bag) (h : e ρ β = some (d, β1)) (hs : seqD d = some ds) (h0 : ds ≠ []) (h1 : ds.length ≤ 1000000) : ∃ x β', mCall m_law_some (mAb 0 (mAv e mAn)) ρ β = some (x, β') ∧ x ∈ ds := by
  obtain ⟨x, β', t1, t2⟩ := ev_some hs h0 h1 β1
  refine ⟨x, β', mCall_ok (β1 := β1) (ss := [.bag, .v d]) ?_ t1, t2⟩
  simp only [mAb, hb, mAv_ok (ma := mAn) h rfl, Option.map_some]
mutual
/-- all integers of a value are so -/
def sI (c : Int → Bool) : D → Bool
  | .int i => c i
  | .list xs => sIA c xs
  | .tuple xs => sIA c xs
  | _ => true
def sIA (c : Int → Bool) : List D → Bool
  | [] => true
  | x :: r => sI c x && sIA c r
end
theorem sIA_all (c : Int → Bool) : ∀ xs : List D, sIA c xs = xs.all (sI c)
  | [] => rfl
  | x :: r => by unfold sIA; rw [sIA_all c r, List.all_cons]
def cA (i : Int) : Bool := decide (-100 ≤ i ∧ i ≤ 100)
def cB (i : Int) : Bool := decide (i ≤ 150 ∨ 100000 < i)
theorem cAB {i : Int} (h : cA i = true) : cB i = true := by
  have := of_decide_eq_true h
  exact decide_eq_true (by omega)
mutual
theorem sI_mono {c e : Int → Bool} (h : ∀ i, c i = true → e i = true) : ∀ d : D, sI c d = true → sI e d = true
  | .int i, q => h i q
  | .list xs, q => by unfold sI at q ⊢; exact sIA_mono h xs q
  | .tuple xs, q => by unfold sI at q ⊢; exact sIA_mono h xs q
  | .none, _ => rfl
  | .bool _, _ => rfl
  | .str _, _ => rfl
  | .dict _, _ => rfl
theorem sIA_mono {c e : Int → Bool} (h : ∀ i, c i = true → e i = true) : ∀ d : List D, sIA c d = true → sIA e d = true
  | [], _ => rfl
  | x :: r, q => by
    unfold sIA at q ⊢
    obtain ⟨h1, h2⟩ := Bool.and_eq_true_iff.mp q
    rw [sI_mono h x h1, sIA_mono h r h2]
    rfl
end
theorem HB_of {d : D} (h : sI cB d = true) : HB d := by
  rintro y hy a j f s rfl
  have : sIA cB (kids d) = true := by cases d <;> first | exact h | rfl
  rw [sIA_all] at this
  have := List.all_eq_true.mp this _ hy
  unfold sI sIA sIA at this
  have := (Bool.and_eq_true_iff.mp (Bool.and_eq_true_iff.mp this).2).1
  unfold sI at this
  exact of_decide_eq_true this
abbrev oddL : List D := [.none, .bool true, .bool false, .int 0, .int (-1), .int 7, .int (10 ^ 30), .str "", .str "a", .str "beat", .tuple [], .list [], .dict [], .tuple [.int 0], .tuple [.tuple []], .list [.int 1], .dict [], .tuple [.tuple [.int 1, .int 2]], .tuple [.str "a", .int 0]]
theorem odd_fine : (oddL.all fun x => decide (nd x ≤ 40) && sI cB x) = true := by decide +kernel
theorem ev_odd (β : Bag) : ∃ x β', m_law_odd [.bag] β = some (x, β') ∧ nd x ≤ 40 ∧ sI cB x = true := by
  unfold m_law_odd b_law_odd
  have h1 : mSet 1 (mXv (mLst (mLc1 (mC .none) (mLc1 (mC (.bool true)) (mLc1 (mC (.bool false)) (mLc1 (mC (.int 0)) (mLc1 (mF negD (mC (.int 1))) (mLc1 (mC (.int 7)) (mLc1 (mOp powD (mC (.int 10)) (mC (.int 30))) (mLc1 (mC (.str "")) (mLc1 (mC (.str "a")) (mLc1 (mC (.str "beat")) (mLc1 (mTup mLn) (mLc1 (mLst mLn) (mLc1 (mC (.dict [])) (mLc1 (mTup (mLc1 (mC (.int 0)) mLn)) (mLc1 (mTup (mLc1 (mTup mLn) mLn)) (mLc1 (mLst (mLc1 (mC (.int 1)) mLn)) (mLc1 (mD1 (mC (.str "a")) (mC (.int 1))) (mLc1 (mTup (mLc1 (mTup (mLc1 (mC (.int 1)) (mLc1 (mC (.int 2)) mLn))) mLn)) (mLc1 (mTup (mLc1 (mC (.str "a")) (mLc1 (mC (.int 0)) mLn))) mLn)))))))))))))))))))))  ([.bag] ++ List.replicate 1 .no) β = some (.nx, [.bag, .v (.list oddL)], β) := by
    refine mSet_ok (mLst_ok (β1 := β) ?_ (by rw [szN]; exact (by decide : 19 ≤ 16777216)))
    repeat' (first | refine mLc1_ok (β1 := β) (β2 := β) ?_ ?_ | exact mOp_ok (β1 := β) (β2 := β) rfl rfl pow30 | rfl)
  obtain ⟨x, β', h2, h3⟩ := some_ok (e := mNm 1) (ρ := [.bag, .v (.list oddL)]) (β := β) (β1 := β) rfl rfl rfl (by decide) (by decide)
  have := Bool.and_eq_true_iff.mp (List.all_eq_true.mp odd_fine x h3)
  exact ⟨x, β', fn_rt (seq_nx h1 (mRet_ok h2)), of_decide_eq_true this.1, this.2⟩
theorem odd_ok {ρ : List Slot} {β : Bag} (hb : ρ[0]? = some .bag) : ∃ x β', mCall m_law_odd (mAb 0 mAn) ρ β = some (x, β') ∧ nd x ≤ 40 ∧ sI cB x = true := by
  obtain ⟨x, β', h1, h2⟩ := ev_odd β
  refine ⟨x, β', mCall_ok (β1 := β) (ss := [.bag]) ?_ h1, h2⟩
  simp only [mAb, hb, mAn, Option.map_some]
theorem slT_a (xs : List D) (a : Nat) : slD (.tuple xs) (some (a : Int)) none = some (.tuple (xs.drop a)) := by
  unfold slD
  simp only [cutD_a]
theorem slT_b (xs : List D) (b : Nat) (h : b ≤ xs.length) : slD (.tuple xs) none (some (b : Int)) = some (.tuple (xs.take b)) := by
  unfold slD
  simp only
  rw [cutD_b h]
theorem ndA_app (a b : List D) : ndA (a ++ b) = ndA a + ndA b := by
  induction a with
  | nil => show ndA b = 0 + ndA b; omega
  | cons x r ih =>
    show nd x + ndA (r ++ b) = nd x + ndA r + ndA b
    rw [ih]; omega
theorem sIA_app (c : Int → Bool) (a b : List D) : sIA c (a ++ b) = (sIA c a && sIA c b) := by rw [sIA_all, sIA_all, sIA_all, List.all_append]
theorem ndA_rev (a : List D) : ndA a.reverse = ndA a := by
  induction a with
  | nil => rfl
  | cons x r ih =>
    rw [List.reverse_cons, ndA_app, ih]
    show ndA r + (nd x + 0) = nd x + ndA r
    omega
theorem split_at {xs : List D} {k : Nat} (h : k < xs.length) : ∃ x, xs[k]? = some x ∧ xs = xs.take k ++ x :: xs.drop (k + 1) := by
  refine ⟨xs[k], List.getElem?_eq_getElem h, ?_⟩
  rw [← List.drop_eq_getElem_cons h, List.take_append_drop]
theorem pn_nend {d : D} {xs : List D} (h : pn d) (e : d = .tuple xs) : neD d (.tuple []) = some (.bool (!xs.isEmpty)) := by
  rw [neD_pn h ⟨rfl, by decide⟩]
  subst e
  cases xs with
  | nil => simp
  | cons x r => simp
open Classical in
theorem ev_bent : ∀ (k n : Nat) (d : D) (β : Bag), n < k → pn d → sI cA d = true → nd d ≤ 100000 → ∃ x β', m_law_bent k [.bag, .v d, .v (.int n)] β = some (x, β') ∧ nd x ≤ 2 * nd d + 40 ∧ sI cB x = true
  | 0, n, d, β, h, _, _, _ => absurd h (Nat.not_lt_zero _)
  | k + 1, n, d, β, hk, hp, hs, hz => by
    show ∃ x β', fnM 3 2 (b_law_bent (m_law_bent k)) [.bag, .v d, .v (.int n)] β = some (x, β') ∧ _
    unfold b_law_bent
    have hdp := nd_pos d
    let ρ0 : List Slot := [.bag, .v d, .v (.int n), .no, .no]
    have ti : mTru (mIs isT (mPk 1)) ρ0 β = some (isT d, β) := mTru_b (mIs_ok rfl)
    have q1 : ∀ β, mTru (mIs isT (mPk 1)) ρ0 β = some (isT d, β) := fun β => mTru_b (mIs_ok rfl)
    -- the first if: it gives an end, or goes on
    have first : (∃ x ρ' β', (mIfS (mAnd (mTru (mIs isT (mPk 1))) (mAnd (mTest (mOp neD (mPk 1) (mTup mLn))) (mAnd (mTest (mOp gtD (mPk 2) (mC (.int 0)))) (mTest (mOp gtD (mCall m_law_take (mAb 0 (mAv (mC (.int 4)) mAn))) (mC (.int 0))))))) (mSeq (mSet 3 (mXv (mCall m_law_take (mAb 0 (mAv (mF lenD (mPk 1)) mAn)))))
    (mRet (mOp addD (mOp addD (mSl slD (mPk 1) mOn (mOs (mNm 3))) (mTup (mLc1 (mCall (m_law_bent k) (mAb 0 (mAv (mOp ixD (mPk 1) (mPk 3)) (mAv (mOp subD (mPk 2) (mC (.int 1))) mAn)))) mLn))) (mSl slD (mPk 1) (mOs (mOp addD (mPk 3) (mC (.int 1)))) mOn)))) (fun ρ β => some (.nx, ρ, β))) ρ0 β = some (.rt x, ρ', β') ∧ nd x ≤ 2 * nd d + 40 ∧ sI cB x = true) ∨ ∃ β', (mIfS (mAnd (mTru (mIs isT (mPk 1))) (mAnd (mTest (mOp neD (mPk 1) (mTup mLn))) (mAnd (mTest (mOp gtD (mPk 2) (mC (.int 0)))) (mTest (mOp gtD (mCall m_law_take (mAb 0 (mAv (mC (.int 4)) mAn))) (mC (.int 0))))))) (mSeq (mSet 3 (mXv (mCall m_law_take (mAb 0 (mAv (mF lenD (mPk 1)) mAn)))))
    (mRet (mOp addD (mOp addD (mSl slD (mPk 1) mOn (mOs (mNm 3))) (mTup (mLc1 (mCall (m_law_bent k) (mAb 0 (mAv (mOp ixD (mPk 1) (mPk 3)) (mAv (mOp subD (mPk 2) (mC (.int 1))) mAn)))) mLn))) (mSl slD (mPk 1) (mOs (mOp addD (mPk 3) (mC (.int 1)))) mOn)))) (fun ρ β => some (.nx, ρ, β))) ρ0 β = some (.nx, ρ0, β') := by
      cases hT : isT d with
      | false => exact .inr ⟨β, mIfS_f (mAnd_f (ti.trans (by rw [hT])))⟩
      | true =>
      have ti := ti.trans (by rw [hT] : _ = some (true, β))
      have hde := tup_kids hT
      generalize hkk : kids d = xs at hde
      subst hde
      have tn : mTest (mOp neD (mPk 1) (mTup mLn)) ρ0 β = some (!xs.isEmpty, β) := mTest_ok (mOp_ok (β1 := β) (β2 := β) rfl rfl (pn_nend hp rfl))
      cases hx : xs.isEmpty with
      | true => exact .inr ⟨β, mIfS_f ((mAnd_t ti).trans (mAnd_f (tn.trans (by rw [hx]; rfl))))⟩
      | false =>
      have tn := tn.trans (by rw [hx]; rfl : _ = some (true, β))
      have tg : mTest (mOp gtD (mPk 2) (mC (.int 0))) ρ0 β = some (decide (0 < (n : Int)), β) := mTest_ok (mOp_ok (β1 := β) (β2 := β) (d := .int n) rfl rfl (gtD_int _ _))
      cases hn : decide (0 < (n : Int)) with
      | false => exact .inr ⟨β, mIfS_f ((mAnd_t ti).trans ((mAnd_t tn).trans (mAnd_f (tg.trans (by rw [hn])))))⟩
      | true =>
      have tg := tg.trans (by rw [hn] : _ = some (true, β))
      obtain ⟨r, β1, t1, t2, t3⟩ := take_ok (e := mC (.int 4)) (ρ := ρ0) (β := β) (β1 := β) (n := 4) rfl rfl (by omega) (by omega)
      have tt : mTest (mOp gtD (mCall m_law_take (mAb 0 (mAv (mC (.int 4)) mAn))) (mC (.int 0))) ρ0 β = some (decide (0 < r), β1) := mTest_ok (mOp_ok (β1 := β1) (β2 := β1) t1 rfl (gtD_int _ _))
      cases hr : decide (0 < r) with
      | false => exact .inr ⟨β1, mIfS_f ((mAnd_t ti).trans ((mAnd_t tn).trans ((mAnd_t tg).trans (tt.trans (by rw [hr])))))⟩
      | true =>
      refine .inl ?_
      have go := (mAnd_t (m2 := mAnd _ _) ti).trans ((mAnd_t tn).trans ((mAnd_t tg).trans (tt.trans (by rw [hr]))))
      have hn0 := of_decide_eq_true hn
      have hnd : nd (PyData.tuple xs) = ndA xs + 1 := rfl
      have hxl := ndA_len xs
      have hx0 : 0 < xs.length := by
        cases xs with
        | nil => cases hx
        | cons _ _ => exact Nat.succ_pos _
      obtain ⟨a, β2, a1, a2, a3⟩ := take_ok (e := mF lenD (mPk 1)) (ρ := ρ0) (β := β1) (β1 := β1) (n := xs.length) rfl rfl (by omega) (by omega)
      obtain ⟨y, hy, hsp⟩ := split_at (xs := xs) (k := a.toNat) (by omega)
      have ea : ((a.toNat : Nat) : Int) = a := by omega
      have hym : y ∈ xs := List.mem_of_getElem? hy
      have hndy : ndA xs = ndA (xs.take a.toNat) + (nd y + ndA (xs.drop (a.toNat + 1))) := by
        conv => lhs; rw [hsp]
        rw [ndA_app]; rfl
      have hsx : sIA cA xs = true := hs
      have hsy : sIA cA (xs.take a.toNat) = true ∧ sI cA y = true ∧ sIA cA (xs.drop (a.toNat + 1)) = true := by
        rw [hsp, sIA_app] at hsx
        obtain ⟨h1, h2⟩ := Bool.and_eq_true_iff.mp hsx
        exact ⟨h1, Bool.and_eq_true_iff.mp h2⟩
      obtain ⟨z, β3, z1, z2, z3⟩ := ev_bent k (n - 1) y β2 (by omega) (pn_kids hp y hym) hsy.2.1 (by omega)
      let ρ1 : List Slot := [.bag, .v (.tuple xs), .v (.int n), .v (.int a), .no]
      refine ⟨.tuple (xs.take a.toNat ++ [z] ++ xs.drop (a.toNat + 1)), ρ1, β3, ?_, ?_, ?_⟩
      · refine (mIfS_t go).trans (seq_nx (ρ1 := ρ1) (β1 := β2) (mSet_ok a1) (mRet_ok ?_))
        have hb : mCall (m_law_bent k) (mAb 0 (mAv (mOp ixD (mPk 1) (mPk 3)) (mAv (mOp subD (mPk 2) (mC (.int 1))) mAn))) ρ1 β2 = some (z, β3) := by
          refine mCall_ok (β1 := β2) (ss := [.bag, .v y, .v (.int (n - 1 : Nat))]) ?_ z1
          have : mAv (mOp ixD (mPk 1) (mPk 3)) (mAv (mOp subD (mPk 2) (mC (.int 1))) mAn) ρ1 β2 = some ([.v y, .v (.int (n - 1 : Nat))], β2) :=
            mAv_ok (mOp_ok (β1 := β2) (β2 := β2) (d := .tuple xs) (e := .int a) rfl rfl (atI_int ea.symm hy)) (mAv_ok (β1 := β2) (mOp_ok (β1 := β2) (β2 := β2) (d := .int n) rfl rfl (by rw [show (((n - 1 : Nat) : Nat) : Int) = (n : Int) - 1 by omega]; rfl)) rfl)
          show (mAv (mOp ixD (mPk 1) (mPk 3)) (mAv (mOp subD (mPk 2) (mC (.int 1))) mAn) ρ1 β2).map _ = _
          rw [this]
          rfl
        have l1 : (xs.take a.toNat).length ≤ xs.length := by rw [List.length_take]; omega
        have l2 : (xs.drop (a.toNat + 1)).length ≤ xs.length := by rw [List.length_drop]; omega
        refine mOp_ok (β1 := β3) (β2 := β3) (mOp_ok (β1 := β2) (β2 := β3) (mSl_ok (β1 := β2) (β2 := β2) (β3 := β2) (d := .tuple xs) rfl rfl (mOs_ok (β1 := β2) (i := ((a.toNat : Nat) : Int)) (by rw [ea]; rfl)) (slT_b xs a.toNat (by omega))) (mTup_ok (mLc1_ok hb rfl) (by rw [szN]; exact (by decide : 1 ≤ 16777216))) (addD_tup (by rw [szN, List.length_singleton]; omega)))
          (mSl_ok (β1 := β3) (β2 := β3) (β3 := β3) (d := .tuple xs) rfl (mOs_ok (β1 := β3) (i := ((a.toNat + 1 : Nat) : Int)) (by rw [show ((a.toNat + 1 : Nat) : Int) = a + 1 by omega]; rfl)) rfl (slT_a xs (a.toNat + 1))) (addD_tup (by rw [szN, List.length_append, List.length_singleton]; omega))
      · show ndA (xs.take a.toNat ++ [z] ++ xs.drop (a.toNat + 1)) + 1 ≤ _
        rw [ndA_app, ndA_app]
        show ndA (xs.take a.toNat) + (nd z + 0) + ndA (xs.drop (a.toNat + 1)) + 1 ≤ _
        omega
      · show sIA cB (xs.take a.toNat ++ [z] ++ xs.drop (a.toNat + 1)) = true
        rw [sIA_app, sIA_app, sIA_mono (fun _ => cAB) _ hsy.1, sIA_mono (fun _ => cAB) _ hsy.2.2]
        show (true && (sI cB z && true)) && true = true
        rw [z3]; rfl
    rcases first with ⟨x, ρ', β', h1, h2⟩ | ⟨β1, h1⟩
    · exact ⟨x, β', fn_rt (seq_rt h1), h2⟩
    have tb : isB d = false := by
      obtain ⟨h, _⟩ := hp
      cases d <;> first | rfl | (unfold nb at h; cases h)
    have B2 : (mIfS (mTru (mIs isB (mPk 1))) (mRet (mCall m_law_some (mAb 0 (mAv (mLst (mLc1 (mNotV (mNm 1)) (mLc1 (mF M.intD (mPk 1)) (mLc1 (mC .none) mLn)))) mAn)))) (fun ρ β => some (.nx, ρ, β))) ρ0 β1 = some (.nx, ρ0, β1) :=
      mIfS_f (mTru_b (by rw [← tb]; exact mIs_ok rfl))
    have i3 : mTru (mIs isI (mPk 1)) ρ0 β1 = some (isI d, β1) := mTru_b (mIs_ok rfl)
    have i4 : mTru (mIs isT (mPk 1)) ρ0 β1 = some (isT d, β1) := mTru_b (mIs_ok rfl)
    have oddE : ∀ {S1 S2 T3 T4 : MS}, S1 ρ0 β = some (.nx, ρ0, β1) → S2 ρ0 β1 = some (.nx, ρ0, β1) → isI d = false → (isT d = false ∨ d = .tuple []) → ∃ x β', fnM 3 2 (mSeq S1 (mSeq S2 (mSeq (mIfS (mTru (mIs isI (mPk 1))) T3 (fun ρ β => some (.nx, ρ, β))) (mSeq (mIfS (mAnd (mTru (mIs isT (mPk 1))) (mTest (mOp neD (mPk 1) (mTup mLn)))) T4 (fun ρ β => some (.nx, ρ, β))) (mRet (mCall m_law_odd (mAb 0 mAn))))))) [.bag, .v d, .v (.int n)] β = some (x, β') ∧ nd x ≤ 2 * nd d + 40 ∧ sI cB x = true := by
      intro S1 S2 T3 T4 h1 h2 hi ht
      obtain ⟨x, β', o1, o2, o3⟩ := odd_ok (ρ := ρ0) (β := β1) rfl
      refine ⟨x, β', fn_rt (seq_nx h1 (seq_nx h2 (seq_nx (mIfS_f (i3.trans (by rw [hi]))) (seq_nx (mIfS_f (β1 := β1) ?_) (mRet_ok o1))))), by omega, o3⟩
      rcases ht with ht | rfl
      · exact mAnd_f (i4.trans (by rw [ht]))
      · exact (mAnd_t i4).trans (mTest_ok (mOp_ok (β1 := β1) (β2 := β1) rfl rfl (pn_nend hp rfl)))
    cases d with
    | none => exact oddE h1 B2 rfl (.inl rfl)
    | str x => exact oddE h1 B2 rfl (.inl rfl)
    | list xs => exact oddE h1 B2 rfl (.inl rfl)
    | dict x => exact oddE h1 B2 rfl (.inl rfl)
    | bool b => cases tb
    | int i =>
      have hi : cA i = true := hs
      have hi := of_decide_eq_true hi
      have hc : ∀ j : Int, j ≤ 150 → cB j = true := fun j h => decide_eq_true (.inl h)
      have hl : (mLst (mLc1 (mOp addD (mPk 1) (mC (.int 1))) (mLc1 (mOp subD (mPk 1) (mC (.int 1))) (mLc1 (mF negD (mPk 1)) (mLc1 (mOp eqD (mPk 1) (mC (.int 1))) (mLc1 (mTup (mLc1 (mNm 1) mLn)) (mLc1 (mOp powD (mC (.int 10)) (mC (.int 30))) mLn))))))) ρ0 β1 = some (.list [.int (i + 1), .int (i - 1), .int (-i), .bool (decide (i = 1)), .tuple [.int i], .int (10 ^ 30)], β1) :=
        mLst_ok (β1 := β1) (mLc1_ok (β1 := β1) (β2 := β1) rfl (mLc1_ok (β1 := β1) (β2 := β1) rfl (mLc1_ok (β1 := β1) (β2 := β1) rfl (mLc1_ok (β1 := β1) (β2 := β1) (mOp_ok (β1 := β1) (β2 := β1) rfl rfl (eqD_int _ _)) (mLc1_ok (β1 := β1) (β2 := β1) rfl (mLc1_ok (β1 := β1) (β2 := β1) (mOp_ok (β1 := β1) (β2 := β1) rfl rfl pow30) rfl)))))) (by rw [szN]; exact (by decide : 6 ≤ 16777216))
      obtain ⟨x, β', o1, o2⟩ := some_ok (ρ := ρ0) (β := β1) (β1 := β1) rfl hl rfl (by simp) (by simp)
      refine ⟨x, β', fn_rt (seq_nx h1 (seq_nx B2 (seq_rt ((mIfS_t i3).trans (mRet_ok o1))))), ?_⟩
      have big : cB (10 ^ 30) = true := by decide +kernel
      simp only [List.mem_cons, List.not_mem_nil, or_false] at o2
      rcases o2 with rfl | rfl | rfl | rfl | rfl | rfl
      · exact ⟨by show 1 ≤ 2 * 1 + 40; omega, hc _ (by omega)⟩
      · exact ⟨by show 1 ≤ 2 * 1 + 40; omega, hc _ (by omega)⟩
      · exact ⟨by show 1 ≤ 2 * 1 + 40; omega, hc _ (by omega)⟩
      · exact ⟨by show 1 ≤ 2 * 1 + 40; omega, rfl⟩
      · exact ⟨by show 1 + 0 + 1 ≤ 2 * 1 + 40; omega, by show (cB i && true) = true; rw [hc i (by omega)]; rfl⟩
      · exact ⟨by show 1 ≤ 2 * 1 + 40; omega, big⟩
    | tuple xs =>
      cases hx : xs.isEmpty with
      | true =>
        cases xs with
        | nil => exact oddE h1 B2 rfl (.inr rfl)
        | cons _ _ => cases hx
      | false =>
      have hx0 : 0 < xs.length := by
        cases xs with
        | nil => cases hx
        | cons _ _ => exact Nat.succ_pos _
      have hnd : nd (PyData.tuple xs) = ndA xs + 1 := rfl
      have hxl := ndA_len xs
      have I3 := mIfS_f (m1 := mRet (mCall m_law_some (mAb 0 (mAv (mLst (mLc1 (mOp addD (mPk 1) (mC (.int 1))) (mLc1 (mOp subD (mPk 1) (mC (.int 1))) (mLc1 (mF negD (mPk 1)) (mLc1 (mOp eqD (mPk 1) (mC (.int 1))) (mLc1 (mTup (mLc1 (mNm 1) mLn)) (mLc1 (mOp powD (mC (.int 10)) (mC (.int 30))) mLn))))))) mAn)))) (m2 := fun ρ β => some (.nx, ρ, β)) i3
      have go := (mAnd_t i4).trans (mTest_ok (mOp_ok (f := neD) (m1 := mPk 1) (m2 := mTup mLn) (β1 := β1) (β2 := β1) rfl rfl (pn_nend hp rfl)))
      rw [hx] at go
      obtain ⟨a, β2, a1, a2, a3⟩ := take_ok (e := mF lenD (mPk 1)) (ρ := ρ0) (β := β1) (β1 := β1) (n := xs.length) rfl rfl (by omega) (by omega)
      obtain ⟨y, hy, hsp⟩ := split_at (xs := xs) (k := a.toNat) (by omega)
      have ea : ((a.toNat : Nat) : Int) = a := by omega
      have hndy : ndA xs = ndA (xs.take a.toNat) + (nd y + ndA (xs.drop (a.toNat + 1))) := by
        conv => lhs; rw [hsp]
        rw [ndA_app]; rfl
      have hndd : ndA xs = ndA (xs.take a.toNat) + ndA (xs.drop a.toNat) := by
        conv => lhs; rw [← List.take_append_drop a.toNat xs]
        rw [ndA_app]
      have hsx : sIA cB xs = true := sIA_mono (fun _ => cAB) _ hs
      have hsd : sIA cB (xs.take a.toNat) = true ∧ sIA cB (xs.drop a.toNat) = true := by
        have : sIA cB (xs.take a.toNat ++ xs.drop a.toNat) = true := by rw [List.take_append_drop]; exact hsx
        rw [sIA_app] at this
        exact Bool.and_eq_true_iff.mp this
      have hsy : sI cB y = true ∧ sIA cB (xs.drop (a.toNat + 1)) = true := by
        have : sIA cB (xs.take a.toNat ++ y :: xs.drop (a.toNat + 1)) = true := by rw [← hsp]; exact hsx
        rw [sIA_app] at this
        exact Bool.and_eq_true_iff.mp (Bool.and_eq_true_iff.mp this).2
      have l1 : (xs.take a.toNat).length ≤ xs.length := by rw [List.length_take]; omega
      have l2 : (xs.drop (a.toNat + 1)).length ≤ xs.length := by rw [List.length_drop]; omega
      have l3 : (xs.drop a.toNat).length ≤ xs.length := by rw [List.length_drop]; omega
      let ρ1 : List Slot := [.bag, .v (.tuple xs), .v (.int n), .v (.int a), .no]
      let lon : D := .tuple (xs.take a.toNat ++ [y] ++ xs.drop a.toNat)
      let ρ2 : List Slot := [.bag, .v (.tuple xs), .v (.int n), .v (.int a), .v lon]
      have sa : ∀ (ρ : List Slot), ρ[1]? = some (.v (.tuple xs)) → ρ[3]? = some (.v (.int a)) → mSl slD (mPk 1) mOn (mOs (mNm 3)) ρ β2 = some (.tuple (xs.take a.toNat), β2) := fun ρ h1 h2 =>
        mSl_ok (β1 := β2) (β2 := β2) (β3 := β2) (d := .tuple xs) (by simp only [mPk, h1, getP, Option.map_some]) rfl (mOs_ok (β1 := β2) (i := ((a.toNat : Nat) : Int)) (by rw [ea]; simp only [mNm, h2, getV, Option.map_some])) (slT_b xs a.toNat (by omega))
      have s4 : mSet 4 (mXv (mOp addD (mOp addD (mSl slD (mPk 1) mOn (mOs (mNm 3))) (mTup (mLc1 (mOp ixD (mPk 1) (mPk 3)) mLn))) (mSl slD (mPk 1) (mOs (mNm 3)) mOn))) ρ1 β2 = some (.nx, ρ2, β2) :=
        mSet_ok (mOp_ok (β1 := β2) (β2 := β2) (mOp_ok (β1 := β2) (β2 := β2) (sa ρ1 rfl rfl) (mTup_ok (mLc1_ok (β1 := β2) (β2 := β2) (mOp_ok (β1 := β2) (β2 := β2) (d := .tuple xs) (e := .int a) rfl rfl (atI_int ea.symm hy)) rfl) (by rw [szN]; exact (by decide : 1 ≤ 16777216))) (addD_tup (by rw [szN, List.length_singleton]; omega)))
          (mSl_ok (β1 := β2) (β2 := β2) (β3 := β2) (d := .tuple xs) rfl (mOs_ok (β1 := β2) (i := ((a.toNat : Nat) : Int)) (by rw [ea]; rfl)) rfl (slT_a xs a.toNat)) (addD_tup (by rw [szN, List.length_append, List.length_singleton]; omega)))
      obtain ⟨z, β3, z1, z2, z3⟩ := odd_ok (ρ := ρ2) (β := β2) rfl
      have hl : (mLst (mLc1 (mF lstOfD (mPk 1)) (mLc1 (mOp addD (mSl slD (mPk 1) mOn (mOs (mNm 3))) (mSl slD (mPk 1) (mOs (mOp addD (mPk 3) (mC (.int 1)))) mOn)) (mLc1 (mNm 4) (mLc1 (mF revD (mPk 1)) (mLc1 (mCall m_law_odd (mAb 0 mAn)) mLn)))))) ρ2 β2 = some (.list [.list xs, .tuple (xs.take a.toNat ++ xs.drop (a.toNat + 1)), lon, .tuple xs.reverse, z], β3) :=
        mLst_ok (mLc1_ok (β1 := β2) (β2 := β3) rfl (mLc1_ok (β1 := β2) (β2 := β3) (mOp_ok (β1 := β2) (β2 := β2) (sa ρ2 rfl rfl)
          (mSl_ok (β1 := β2) (β2 := β2) (β3 := β2) (d := .tuple xs) rfl (mOs_ok (β1 := β2) (i := ((a.toNat + 1 : Nat) : Int)) (by rw [show ((a.toNat + 1 : Nat) : Int) = a + 1 by omega]; rfl)) rfl (slT_a xs (a.toNat + 1))) (addD_tup (by rw [szN]; omega))) (mLc1_ok (β1 := β2) (β2 := β3) rfl (mLc1_ok (β1 := β2) (β2 := β3) rfl (mLc1_ok z1 rfl))))) (by rw [szN]; exact (by decide : 5 ≤ 16777216))
      obtain ⟨x, β', o1, o2⟩ := some_ok (ρ := ρ2) (β := β2) (β1 := β3) rfl hl rfl (by simp) (by simp)
      refine ⟨x, β', fn_rt (seq_nx h1 (seq_nx B2 (seq_nx I3 (seq_rt ((mIfS_t go).trans (seq_nx (ρ1 := ρ1) (β1 := β2) (mSet_ok a1) (seq_nx s4 (mRet_ok o1)))))))), ?_⟩
      simp only [List.mem_cons, List.not_mem_nil, or_false] at o2
      rcases o2 with rfl | rfl | rfl | rfl | rfl
      · exact ⟨by show ndA xs + 1 ≤ _; omega, hsx⟩
      · refine ⟨?_, ?_⟩
        · show ndA (xs.take a.toNat ++ xs.drop (a.toNat + 1)) + 1 ≤ _
          rw [ndA_app]; omega
        · show sIA cB (xs.take a.toNat ++ xs.drop (a.toNat + 1)) = true
          rw [sIA_app, hsd.1, hsy.2]; rfl
      · refine ⟨?_, ?_⟩
        · show ndA (xs.take a.toNat ++ [y] ++ xs.drop a.toNat) + 1 ≤ _
          rw [ndA_app, ndA_app]
          show ndA (xs.take a.toNat) + (nd y + 0) + ndA (xs.drop a.toNat) + 1 ≤ _
          omega
        · show sIA cB (xs.take a.toNat ++ [y] ++ xs.drop a.toNat) = true
          rw [sIA_app, sIA_app, hsd.1, hsd.2]
          show (true && (sI cB y && true)) && true = true
          rw [hsy.1]; rfl
      · refine ⟨?_, ?_⟩
        · show ndA xs.reverse + 1 ≤ _
          rw [ndA_rev]; omega
        · show sIA cB xs.reverse = true
          rw [sIA_all, List.all_reverse, ← sIA_all]; exact hsx
      · exact ⟨by omega, z3⟩
end K31
namespace K31
open PySem PySem.Spec PyProof.Rows L2 M
/-! ### drawn rows -/
theorem fa2_ints {α : Type} {Q : Int → Prop} : ∀ {xs : List α} {ys : List D}, Fa2 (fun _ y => ∃ i, y = .int i ∧ Q i) xs ys → ∃ l : List Int, ys = l.map .int ∧ l.length = xs.length ∧ ∀ i ∈ l, Q i
  | _, _, .nil => ⟨[], rfl, rfl, nofun⟩
  | _, _, .cons h t => by
    obtain ⟨i, rfl, hq⟩ := h
    obtain ⟨l, rfl, hl, hs⟩ := fa2_ints t
    exact ⟨i :: l, rfl, by simp [hl], fun j hj => (List.mem_cons.mp hj).elim (fun e => e ▸ hq) (hs j)⟩
theorem draws_ok {me : ME} {Q : Int → Prop} {w : Nat} (hw : w ≤ 1000) {ρ : List Slot} {β : Bag} (h1 : ρ[1]? = some (.v (.int w)))
    (hme : ∀ d β, ∃ i β', me ((ρ.set 6 .no).set 6 (.v d)) β = some (.int i, β') ∧ Q i) : ∃ l β', mF tupOfD (mFz (mLc [6] (mRg1 (mNm 1)) (mGn 6) mYes me)) ρ β = some (iT l, β') ∧ l.length = w ∧ ∀ i ∈ l, Q i := by
  have hr : mRg1 (mNm 1) ρ β = some (rangeD 0 w, β) := mRg1_ok (i := w) (by simp only [mNm, h1, getV, Option.map_some]) (in62_nat (by omega) (by omega))
  obtain ⟨ys, β', h3, h4⟩ := lcGo_all (ρ := ρ.set 6 .no) (mg := mGn 6) (mt := mYes) (me := me) (R := fun _ y => ∃ i, y = .int i ∧ Q i) (rangeD 0 w) (fun x _ β => by
    obtain ⟨i, β', h5, h6⟩ := hme x β
    exact ⟨_, β, .int i, β', rfl, rfl, h5, i, rfl, h6⟩) β
  obtain ⟨l, rfl, hl, hq⟩ := fa2_ints h4
  rw [rangeD_length] at hl
  exact ⟨l, β', mF_ok (mFz_ok (mLc_ok (vs := [6]) hr h3 (by rw [List.length_map, szN]; omega))) rfl, by omega, hq⟩
structure Rw (w n : Nat) (r : List (List Int)) : Prop where
  ne : 0 < r.length
  uni : Uni w r
  len : r.length ≤ 1 + n
  bd : ∀ x ∈ r, ∀ i ∈ x, -(n : Int) ≤ i ∧ i ≤ 3 + 2 * (n : Int)
theorem Rw.mono {w n m : Nat} {r : List (List Int)} (h : Rw w n r) (hm : n ≤ m) : Rw w m r := ⟨h.ne, h.uni, by have := h.len; omega, fun x hx i hi => by have := h.bd x hx i hi; omega⟩
def addL (a b : List Int) : List Int := List.zipWith (fun x y => x + y) a b
theorem mem_addL {a b : List Int} {i : Int} (h : i ∈ addL a b) : ∃ x ∈ a, ∃ y ∈ b, i = x + y := by
  unfold addL at h
  rw [← List.map_uncurry_zip_eq_zipWith] at h
  obtain ⟨p, hp, rfl⟩ := List.mem_map.mp h
  have := List.of_mem_zip (a := p.1) (b := p.2) hp
  exact ⟨p.1, this.1, p.2, this.2, rfl⟩
theorem Rw.push {w n : Nat} {r : List (List Int)} (h : Rw w n r) {x st : List Int} (hx : x ∈ r) (hs : st.length = w) (hb : ∀ i ∈ st, -1 ≤ i ∧ i ≤ 2) : Rw w (n + 1) (r ++ [addL x st]) := by
  have h1 := h.len
  refine ⟨by rw [List.length_append]; have := h.ne; omega, ?_, by rw [List.length_append, List.length_singleton]; omega, ?_⟩
  · intro y hy
    rcases List.mem_append.mp hy with hy | hy
    · exact h.uni y hy
    · rw [List.mem_singleton.mp hy]
      unfold addL
      rw [List.length_zipWith, h.uni x hx, hs, Nat.min_self]
  · intro y hy i hi
    rcases List.mem_append.mp hy with hy | hy
    · have := h.bd y hy i hi; omega
    · rw [List.mem_singleton.mp hy] at hi
      obtain ⟨a, ha, b, hb', rfl⟩ := mem_addL hi
      have := h.bd x hx a ha
      have := hb b hb'
      omega
theorem addL_zip (a b : List Int) : (a.zip b).map (fun p => PyData.int (p.1 + p.2)) = (addL a b).map .int := by
  unfold addL
  induction a generalizing b with
  | nil => rfl
  | cons x a ih =>
    cases b with
    | nil => rfl
    | cons y b => simp only [List.map_cons, List.zipWith_cons_cons, List.zip_cons_cons, ih]
abbrev rwR (w : Nat) (r : List (List Int)) (s3 s4 s5 : Slot) : List Slot := [.bag, .v (.int w), .own (r.map iT), s3, s4, s5, .no, .no, .no]
theorem row_push {w : Nat} (hw : w ≤ 1000) {r : List (List Int)} {x st : List Int} (hx : x.length = w) (hl : (r ++ [x]).length ≤ 1000) (s3 s5 : Slot) (β : Bag) : mApp 2 (mF tupOfD (mFz (mLc [7, 8] (mZip (mOp ixD (mPk 2) (mF negD (mC (.int 1)))) (mNm 4)) (mGt 2 (mGcons (mGn 7) (mGcons (mGn 8) mGnil))) mYes (mOp addD (mPk 7) (mPk 8))))) (rwR w (r ++ [x]) s3 (.v (iT st)) s5) β = some (.nx, rwR w (r ++ [x] ++ [addL x st]) s3 (.v (iT st)) s5, β) := by
  have hz : mZip (mOp ixD (mPk 2) (mF negD (mC (.int 1)))) (mNm 4) (rwR w (r ++ [x]) s3 (.v (iT st)) s5) β = some ((x.zip st).map fun p => pairD (.int p.1) (.int p.2), β) := by
    refine (mZip_ok (β1 := β) (β2 := β) (d := iT x) (e := iT st) (mOp_ok (β1 := β) (β2 := β) (d := .list ((r ++ [x]).map iT)) (e := .int (-1)) rfl rfl ?_) rfl rfl rfl).trans (by rw [zip_pair])
    show atI ((r ++ [x]).map iT) (-1) = _
    rw [List.map_append]
    exact atI_last
  have hc : lcGo (rwR w (r ++ [x]) s3 (.v (iT st)) s5) (mGt 2 (mGcons (mGn 7) (mGcons (mGn 8) mGnil))) mYes (mOp addD (mPk 7) (mPk 8)) ((x.zip st).map fun p => pairD (.int p.1) (.int p.2)) β = some ((x.zip st).map (fun p => .int (p.1 + p.2)), β) :=
    lcGo_map _ _ _ fun p _ => ⟨_, rfl, rfl, rfl⟩
  have he : mF tupOfD (mFz (mLc [7, 8] (mZip (mOp ixD (mPk 2) (mF negD (mC (.int 1)))) (mNm 4)) (mGt 2 (mGcons (mGn 7) (mGcons (mGn 8) mGnil))) mYes (mOp addD (mPk 7) (mPk 8)))) (rwR w (r ++ [x]) s3 (.v (iT st)) s5) β = some (iT (addL x st), β) :=
    (mF_ok (mFz_ok (mLc_ok (vs := [7, 8]) hz hc (by rw [List.length_map, List.length_zip, szN]; omega))) (tupOfD_lst _)).trans (by rw [addL_zip])
  unfold mApp
  rw [he]
  simp only [Option.bind_some]
  show (slotO (some (Slot.own ((r ++ [x]).map iT)))).bind _ = _
  simp only [slotO, Option.bind_some]
  rw [if_pos (by rw [List.length_map, szN]; omega)]
  have : (r ++ [x] ++ [addL x st]).map iT = (r ++ [x]).map iT ++ [iT (addL x st)] := by rw [List.map_append]; rfl
  rw [← this]
  rfl
theorem mLd_ok {ml : ML} {ρ : List Slot} {β β1 : Bag} {ds : List D} (h : ml ρ β = some (ds, β1)) (hz : ds.length ≤ sizeLine) : mLd ml ρ β = some (ds, β1) := by
  simp only [mLd, h, lstG_ok hz, Option.bind_some, Option.map_some]
theorem mSetN_ok {i : Nat} {ml : ML} {ρ : List Slot} {β β1 : Bag} {ds : List D} (h : ml ρ β = some (ds, β1)) : mSet i (mXn ml) ρ β = some (.nx, ρ.set i (.own ds), β1) := by
  simp only [mSet, mXn, h, Option.map_some]
theorem ev_row (w : Nat) (hw : w ≤ 1000) (β : Bag) : ∃ r β', m_law_row [.bag, .v (.int w)] β = some (rowD r, β') ∧ Rw w 16 r := by
  unfold m_law_row b_law_row
  obtain ⟨l, β1, d1, d2, d3⟩ := draws_ok (me := mCall m_law_take (mAb 0 (mAv (mC (.int 4)) mAn))) (Q := fun i => 0 ≤ i ∧ i < 4) hw (ρ := [.bag, .v (.int w), .no, .no, .no, .no, .no, .no, .no]) (β := β) rfl (fun d β => take_ok (β1 := β) rfl rfl (by omega) (by omega))
  have S1 : mSet 2 (mXn (mLd (mLc1 (mF tupOfD (mFz (mLc [6] (mRg1 (mNm 1)) (mGn 6) mYes (mCall m_law_take (mAb 0 (mAv (mC (.int 4)) mAn)))))) mLn))) ([.bag, .v (.int w)] ++ List.replicate 7 .no) β = some (.nx, rwR w [l] .no .no .no, β1) := by
    exact mSetN_ok (mLd_ok (mLc1_ok d1 rfl) (by rw [szN]; exact (by decide : 1 ≤ 16777216)))
  have hR0 : Rw w 0 [l] := ⟨by simp, fun x hx => by rw [List.mem_singleton.mp hx]; exact d2, by simp, fun x hx i hi => by
    rw [List.mem_singleton.mp hx] at hi
    have := d3 i hi
    omega⟩
  obtain ⟨m, β2, e1, e2, e3⟩ := take_ok (e := mC (.int 5)) (ρ := rwR w [l] .no .no .no) (β := β1) (β1 := β1) (n := 5) rfl rfl (by omega) (by omega)
  have hrg := mRg1_ok e1 (in62_nat e2 (by omega))
  let I : Nat → List Slot → Bag → Prop := fun k ρ _ => ∃ r s3 s4 s5, ρ = rwR w r s3 s4 s5 ∧ Rw w (4 * k) r
  obtain ⟨ρ', β3, f1, r, s3, s4, s5, rfl, f2⟩ := for_inv (mg := mGn 3) (mb := (mSeq (mSet 4 (mXv (mF tupOfD (mFz (mLc [6] (mRg1 (mNm 1)) (mGn 6) mYes (mCall m_law_some (mAb 0 (mAv (mLst (mLc1 (mC (.int 0)) (mLc1 (mC (.int 1)) (mLc1 (mF negD (mC (.int 1))) (mLc1 (mC (.int 2)) mLn))))) mAn))))))))
    (mFor (mRg1 (mOp addD (mC (.int 1)) (mCall m_law_take (mAb 0 (mAv (mC (.int 4)) mAn))))) (mGn 5) (mApp 2 (mF tupOfD (mFz (mLc [7, 8] (mZip (mOp ixD (mPk 2) (mF negD (mC (.int 1)))) (mNm 4)) (mGt 2 (mGcons (mGn 7) (mGcons (mGn 8) mGnil))) mYes (mOp addD (mPk 7) (mPk 8))))))))) I (rangeD 0 m) 0 (rwR w [l] .no .no .no) β2 ⟨[l], .no, .no, .no, rfl, hR0⟩ (by
    rintro k d ρ β hd ⟨r, s3, s4, s5, rfl, hR⟩
    rw [Nat.zero_add] at *
    obtain ⟨hk, rfl⟩ := rangeD_at hd
    obtain ⟨st, β4, g1, g2, g3⟩ := draws_ok (me := mCall m_law_some (mAb 0 (mAv (mLst (mLc1 (mC (.int 0)) (mLc1 (mC (.int 1)) (mLc1 (mF negD (mC (.int 1))) (mLc1 (mC (.int 2)) mLn))))) mAn))) (Q := fun i => -1 ≤ i ∧ i ≤ 2) hw (ρ := rwR w r (.v (.int (0 + (k : Nat)))) s4 s5) (β := β) rfl (fun d β => by
      obtain ⟨x, β', h1, h2⟩ := some_ok (e := mLst (mLc1 (mC (.int 0)) (mLc1 (mC (.int 1)) (mLc1 (mF negD (mC (.int 1))) (mLc1 (mC (.int 2)) mLn))))) (ρ := ((rwR w r (.v (.int (0 + (k : Nat)))) s4 s5).set 6 .no).set 6 (.v d)) (β := β) (β1 := β) (ds := [.int 0, .int 1, .int (-1), .int 2]) rfl rfl rfl (by simp) (by simp)
      simp only [List.mem_cons, List.not_mem_nil, or_false] at h2
      rcases h2 with rfl | rfl | rfl | rfl <;> exact ⟨_, β', h1, by omega, by omega⟩)
    obtain ⟨n, β5, n1, n2, n3⟩ := take_ok (e := mC (.int 4)) (ρ := rwR w r (.v (.int (0 + (k : Nat)))) (.v (iT st)) s5) (β := β4) (β1 := β4) (n := 4) rfl rfl (by omega) (by omega)
    have hrg2 := mRg1_ok (mOp_ok (f := addD) (m1 := mC (.int 1)) (d := .int 1) (β1 := β4) rfl n1 rfl) (in62_nat (i := 1 + n) (by omega) (by omega))
    let I2 : Nat → List Slot → Bag → Prop := fun j ρ _ => ∃ r s5, ρ = rwR w r (.v (.int (0 + (k : Nat)))) (.v (iT st)) s5 ∧ Rw w (4 * k + j) r
    obtain ⟨ρ2, β6, q1, r2, t5, rfl, q2⟩ := for_inv (mg := mGn 5) (mb := (mApp 2 (mF tupOfD (mFz (mLc [7, 8] (mZip (mOp ixD (mPk 2) (mF negD (mC (.int 1)))) (mNm 4)) (mGt 2 (mGcons (mGn 7) (mGcons (mGn 8) mGnil))) mYes (mOp addD (mPk 7) (mPk 8))))))) I2 (rangeD 0 (1 + n)) 0 (rwR w r (.v (.int (0 + (k : Nat)))) (.v (iT st)) s5) β5 ⟨r, s5, rfl, hR⟩ (by
      rintro j d ρ β hd ⟨r, s5, rfl, hR⟩
      rw [Nat.zero_add] at *
      obtain ⟨hj, rfl⟩ := rangeD_at hd
      have hne := hR.ne
      have hlen := hR.len
      rcases List.eq_nil_or_concat r with rfl | ⟨qs, x, rfl⟩
      · exact absurd hne (by simp)
      rw [List.concat_eq_append] at *
      have hx : x ∈ qs ++ [x] := List.mem_append_right _ List.mem_cons_self
      exact ⟨_, _, β, rfl, row_push hw (hR.uni x hx) (by omega) _ _ β, _, _, rfl, hR.push hx g2 g3⟩)
    rw [Nat.zero_add, rangeD_length] at q2
    exact ⟨_, _, β6, rfl, seq_nx (mSet_ok g1) ((mFor_ok hrg2).trans q1), _, _, _, _, rfl, q2.mono (by omega)⟩)
  rw [Nat.zero_add, rangeD_length] at f2
  exact ⟨r, β3, fn_rt (seq_nx S1 (seq_nx ((mFor_ok hrg).trans f1) (mRet_ok (mF_ok (β1 := β3) (d := .list (r.map iT)) rfl rfl)))), f2.mono (by omega)⟩
end K31
namespace K31
open PySem PySem.Spec PyProof.Rows L2 M
/-! ### pieces of a row are pieces -/
theorem P_ctg (r : List (List Int)) : ∀ low, Ctg low (P r low) := fun low => by
  by_cases hl : low < r.length
  · have h2 := mkPc_hi r low
    rw [P_cons hl]
    exact ⟨mkPc_lo r low, P_ctg r _⟩
  · rw [P_nil (by omega)]
    trivial
termination_by low => r.length - low
decreasing_by have := mkPc_hi r low; omega
theorem mkPc_wid {w : Nat} {r : List (List Int)} (hu : Uni w r) {low : Nat} (hl : low < r.length) : PcW w (mkPc r low) := by
  refine ⟨by rw [mkPc_lo]; exact mkPc_hi r low, by rw [mkPc_fi]; exact hu.gt hl, ?_⟩
  unfold mkPc
  split
  · rename_i hc
    have := runEnd_ge r (stepI (gtR r low) (gtR r (low + 1))) (low + 1)
    rw [if_neg (by show ¬ low = runEnd _ _ _; omega)]
    show (stepI _ _).length = w
    rw [stepI_len, hu.gt hl, hu.gt hc, Nat.min_self]
  · rw [if_pos rfl]; rfl
theorem IsPs_P {w : Nat} {r : List (List Int)} (hu : Uni w r) (hw : 0 < w) (h0 : 0 < r.length) (hl : r.length ≤ 60000) : IsPs (P r 0) := by
  refine ⟨?_, ⟨w, hw, P_all (fun low hl => mkPc_wid hu hl) 0⟩, P_ctg r 0, P_all (fun low hl' => by have := mkPc_hl r low hl'; omega) 0, by rw [rowOf_P0 hu]⟩
  rw [P_cons h0]
  exact List.cons_ne_nil _ _
theorem ndA_ints (l : List Int) : ndA (l.map PyData.int) = l.length := by
  induction l with
  | nil => rfl
  | cons x r ih => rw [List.map_cons]; unfold ndA; rw [ih]; unfold nd; rw [List.length_cons]; omega
theorem nd_iTE (l : List Int) : nd (iT l) = l.length + 1 := by
  show ndA (l.map PyData.int) + 1 = _
  rw [ndA_ints]
theorem nd_row {w : Nat} {r : List (List Int)} (hu : Uni w r) : nd (rowD r) = r.length * (w + 1) + 1 := by
  show ndA (r.map iT) + 1 = _
  have : ∀ r : List (List Int), Uni w r → ndA (r.map iT) = r.length * (w + 1) := by
    intro r
    induction r with
    | nil => intro _; show 0 = 0 * (w + 1); omega
    | cons x r ih =>
      intro h
      show nd (iT x) + ndA (r.map iT) = _
      rw [nd_iTE, h x List.mem_cons_self, ih fun y hy => h y (List.mem_cons_of_mem _ hy), List.length_cons, Nat.add_mul]
      omega
  rw [this r hu]
theorem nd_pcs {w : Nat} {r : List (List Int)} (hu : Uni w r) : nd (pcsD (P r 0)) ≤ r.length * (2 * w + 5) + 1 := by
  have := pn_nd_pc hu 0
  show ndA _ + 1 ≤ _
  rw [Nat.sub_zero] at this
  omega
theorem pb_pcs (ps : List Pc) : pb (pcsD ps) = true := nb_pb _ (pn_pcsD ps).1
theorem pb_row (r : List (List Int)) : pb (rowD r) = true := nb_pb _ (by unfold nb; exact nbA_of r fun x _ => nb_iT x)
theorem pb_iT (l : List Int) : pb (iT l) = true := nb_pb _ (nb_iT l)
/-- small integers in pieces of a small row -/
theorem cA_P {w n : Nat} {r : List (List Int)} (h : Rw w n r) (hn : n ≤ 16) : sI cA (pcsD (P r 0)) = true := by
  show sIA cA ((P r 0).map pcD) = true
  rw [sIA_all, List.all_map]
  refine List.all_eq_true.mpr (P_all (r := r) (Q := fun p => (sI cA ∘ pcD) p = true) (fun low hl => ?_) 0)
  have hlen := h.len
  have h1 := mkPc_hl r low hl
  have hi : ∀ i : Int, -100 ≤ i ∧ i ≤ 100 → cA i = true := fun i h => decide_eq_true h
  have hx : ∀ k, ∀ i ∈ gtR r k, -(n : Int) ≤ i ∧ i ≤ 3 + 2 * (n : Int) := fun k i hk => by
    by_cases hkl : k < r.length
    · exact h.bd _ (List.mem_of_getElem? (gtR_some hkl)) i hk
    · unfold gtR at hk
      rw [List.getElem?_eq_none (by omega)] at hk
      cases hk
  have hT : ∀ l : List Int, (∀ i ∈ l, -100 ≤ i ∧ i ≤ 100) → sI cA (iT l) = true := fun l hl => by
    show sIA cA (l.map .int) = true
    rw [sIA_all, List.all_map]
    exact List.all_eq_true.mpr fun i hm => hi i (hl i hm)
  have f1 := hT (mkPc r low).fi fun i hm => by rw [mkPc_fi] at hm; have := hx _ i hm; omega
  have f2 := hT (mkPc r low).st fun i hm => by
    unfold mkPc at hm
    split at hm
    · have hm : i ∈ stepI (gtR r low) (gtR r (low + 1)) := hm
      unfold stepI at hm
      rw [← List.map_uncurry_zip_eq_zipWith] at hm
      obtain ⟨p, hp, rfl⟩ := List.mem_map.mp hm
      have := List.of_mem_zip (a := p.1) (b := p.2) hp
      have h1 := hx _ _ this.1
      have h2 := hx _ _ this.2
      show -100 ≤ p.2 - p.1 ∧ p.2 - p.1 ≤ 100
      omega
    · cases hm
  show (cA ((mkPc r low).lo : Int) && (cA ((mkPc r low).hi : Int) && (sI cA (iT (mkPc r low).fi) && (sI cA (iT (mkPc r low).st) && true)))) = true
  rw [f1, f2, hi _ (by rw [mkPc_lo]; omega), hi _ (by omega)]
  rfl
theorem Rw.ok {w n : Nat} {r : List (List Int)} (h : Rw w n r) (hn : n ≤ 16) (hw : w ≤ 1000) : RowOk r := ⟨by have := h.len; omega, fun x hx => by rw [h.uni x hx]; exact hw⟩
theorem Uni.sub {w : Nat} {r s : List (List Int)} (h : Uni w r) (hs : ∀ x ∈ s, x ∈ r) : Uni w s := fun x hx => h x (hs x hx)
theorem sumR_take (r s : List (List Int)) : sumR (r.take (min r.length s.length)) (s.take (min r.length s.length)) = sumR r s := by
  unfold sumR
  apply List.ext_getElem?
  intro i
  simp only [List.getElem?_zipWith, List.getElem?_take]
  by_cases hi : i < min r.length s.length
  · rw [if_pos hi, if_pos hi]
  · rw [if_neg hi, if_neg hi]
    by_cases hr : i < r.length
    · rw [List.getElem?_eq_none (l := s) (by omega)]
      cases r[i]? <;> rfl
    · rw [List.getElem?_eq_none (l := r) (by omega)]
theorem sumR_uni {w : Nat} {r s : List (List Int)} (hu : Uni w r) (hv : Uni w s) : Uni w (sumR r s) := fun x hx => by
  unfold sumR at hx
  rw [← List.map_uncurry_zip_eq_zipWith] at hx
  obtain ⟨p, hp, rfl⟩ := List.mem_map.mp hx
  have := List.of_mem_zip (a := p.1) (b := p.2) hp
  show (List.zipWith _ p.1 p.2).length = w
  rw [List.length_zipWith, hu _ this.1, hv _ this.2, Nat.min_self]
theorem pn_tup {ds : List D} {k : Nat} (hk : k ≤ 62) (h : ∀ d ∈ ds, nb d = true ∧ d.depth ≤ k) : pn (.tuple ds) := by
  refine ⟨?_, ?_⟩
  · unfold nb
    have := nbA_of (f := id) ds fun d hd => (h d hd).1
    rwa [List.map_id] at this
  · unfold PyData.depth
    have := depthA_of (f := id) (k := k) ds fun d hd => (h d hd).2
    rw [List.map_id] at this
    omega
theorem minD_nat (a b : Nat) : minD (.int a) (.int b) = some (.int (min a b : Nat)) := by
  rw [minD_int]
  by_cases h : (b : Int) < a
  · rw [if_pos h, Nat.min_eq_right (by omega)]
  · rw [if_neg h, Nat.min_eq_left (by omega)]
theorem mPar2_ok {i j : Nat} {e1 e2 : ME} {ρ : List Slot} {β β1 β2 : Bag} {d e : D} (h1 : e1 ρ β = some (d, β1)) (h2 : e2 ρ β1 = some (e, β2)) : mPar2 i j (mXv e1) (mXv e2) ρ β = some (.nx, (ρ.set i (.v d)).set j (.v e), β2) := by
  simp only [mPar2, mXv, h1, h2, Option.map_some, Option.bind_some]
theorem mAsg_ok {m : ME} {mg : MG} {ρ ρ' : List Slot} {β β1 : Bag} {d : D} (h : m ρ β = some (d, β1)) (hg : mg d ρ = some ρ') : mAsg m mg ρ β = some (.nx, ρ', β1) := by
  simp only [mAsg, h, hg, Option.bind_some, Option.map_some]
open Classical in
theorem ev_runs_right (β : Bag) : ∃ β', m_law_runs_right [.bag] β = some (.bool true, β') := by
  unfold m_law_runs_right b_law_runs_right
  obtain ⟨t, β1, t1, t2, t3⟩ := take_ok (e := mC (.int 3)) (ρ := [.bag, .no, .no, .no, .no, .no, .no, .no, .no, .no, .no, .no, .no, .no, .no, .no, .no, .no]) (β := β) (β1 := β) (n := 3) rfl rfl (by omega) (by omega)
  obtain ⟨w, hw⟩ : ∃ w : Nat, (1 + t : Int) = (w : Int) := ⟨(1 + t).toNat, by omega⟩
  have S1 : mSet 1 (mXv (mOp addD (mC (.int 1)) (mCall m_law_take (mAb 0 (mAv (mC (.int 3)) mAn))))) ([.bag, .no, .no, .no, .no, .no, .no, .no, .no, .no, .no, .no, .no, .no, .no, .no, .no, .no]) β = some (.nx, [.bag, .v (.int w), .no, .no, .no, .no, .no, .no, .no, .no, .no, .no, .no, .no, .no, .no, .no, .no], β1) :=
    mSet_ok (mOp_ok (β1 := β) (d := .int 1) rfl t1 (by rw [addD_int, hw]))
  obtain ⟨r, β2, r1, R⟩ := ev_row w (by omega) β1
  obtain ⟨s, β3, s1, S⟩ := ev_row w (by omega) β2
  have hw0 : 0 < w := by omega
  have ro := R.ok (Nat.le_refl _) (by omega)
  have so := S.ok (Nat.le_refl _) (by omega)
  have rl := R.len
  have sl := S.len
  have rn := R.ne
  have sn := S.ne
  let ρ3 : List Slot := [.bag, .v (.int w), .v (rowD r), .v (rowD s), .no, .no, .no, .no, .no, .no, .no, .no, .no, .no, .no, .no, .no, .no]
  have S2 : mPar2 2 3 (mXv (mCall m_law_row (mAb 0 (mAv (mNm 1) mAn)))) (mXv (mCall m_law_row (mAb 0 (mAv (mNm 1) mAn)))) ([.bag, .v (.int w), .no, .no, .no, .no, .no, .no, .no, .no, .no, .no, .no, .no, .no, .no, .no, .no]) β1 = some (.nx, ρ3, β3) := by
    have c1 : mCall m_law_row (mAb 0 (mAv (mNm 1) mAn)) ([.bag, .v (.int w), .no, .no, .no, .no, .no, .no, .no, .no, .no, .no, .no, .no, .no, .no, .no, .no]) β1 = some (rowD r, β2) := mCall_ok (β1 := β1) (ss := [.bag, .v (.int w)]) rfl r1
    have c2 : mCall m_law_row (mAb 0 (mAv (mNm 1) mAn)) ([.bag, .v (.int w), .no, .no, .no, .no, .no, .no, .no, .no, .no, .no, .no, .no, .no, .no, .no, .no]) β2 = some (rowD s, β3) := mCall_ok (β1 := β2) (ss := [.bag, .v (.int w)]) rfl s1
    exact mPar2_ok c1 c2
  let ρ4 : List Slot := [.bag, .v (.int w), .v (rowD r), .v (rowD s), .v (pcsD (P r 0)), .v (pcsD (P s 0)), .no, .no, .no, .no, .no, .no, .no, .no, .no, .no, .no, .no]
  have S3 : mPar2 4 5 (mXv (mCall m_law_pieces (mAv (mNm 2) mAn))) (mXv (mCall m_law_pieces (mAv (mNm 3) mAn))) ρ3 β3 = some (.nx, ρ4, β3) := by
    have c1 : mCall m_law_pieces (mAv (mNm 2) mAn) ρ3 β3 = some (pcsD (P r 0), β3) := mCall_ok (β1 := β3) (ss := [.v (rowD r)]) rfl (ev_law_pieces r β3 ro)
    have c2 : mCall m_law_pieces (mAv (mNm 3) mAn) ρ3 β3 = some (pcsD (P s 0), β3) := mCall_ok (β1 := β3) (ss := [.v (rowD s)]) rfl (ev_law_pieces s β3 so)
    exact mPar2_ok c1 c2
  obtain ⟨lo', β4, l1, l2, l3⟩ := take_ok (e := mF lenD (mPk 2)) (ρ := ρ4) (β := β3) (β1 := β3) (n := (r.length : Nat)) rfl (mF_ok (β1 := β3) (d := rowD r) rfl (by rw [lenD_tup, List.length_map])) (by omega) (by omega)
  obtain ⟨lo, rfl⟩ : ∃ k : Nat, lo' = (k : Int) := ⟨lo'.toNat, by omega⟩
  let ρ5 : List Slot := [.bag, .v (.int w), .v (rowD r), .v (rowD s), .v (pcsD (P r 0)), .v (pcsD (P s 0)), .v (.int lo), .no, .no, .no, .no, .no, .no, .no, .no, .no, .no, .no]
  have S4 : mSet 6 (mXv (mCall m_law_take (mAb 0 (mAv (mF lenD (mPk 2)) mAn)))) ρ4 β3 = some (.nx, ρ5, β4) := mSet_ok l1
  obtain ⟨h', β5, h1, h2, h3⟩ := take_ok (e := mOp subD (mF lenD (mPk 2)) (mPk 6)) (ρ := ρ5) (β := β4) (β1 := β4) (n := (r.length : Int) - lo) rfl (mOp_ok (β1 := β4) (β2 := β4) (d := .int (r.length : Nat)) (e := .int lo) (mF_ok (β1 := β4) (d := rowD r) rfl (by rw [lenD_tup, List.length_map])) rfl rfl) (by omega) (by omega)
  obtain ⟨hi, hhi⟩ : ∃ k : Nat, (lo : Int) + h' = (k : Int) := ⟨(lo + h').toNat, by omega⟩
  obtain ⟨at', β6, a1, a2, a3⟩ := take_ok (e := mNm 1) (ρ := ρ5) (β := β5) (β1 := β5) (n := (w : Nat)) rfl rfl (by omega) (by omega)
  obtain ⟨k, rfl⟩ : ∃ k : Nat, at' = (k : Int) := ⟨at'.toNat, by omega⟩
  let ρ6 : List Slot := [.bag, .v (.int w), .v (rowD r), .v (rowD s), .v (pcsD (P r 0)), .v (pcsD (P s 0)), .v (.int lo), .v (.int hi), .v (.int k), .no, .no, .no, .no, .no, .no, .no, .no, .no]
  have S5 : mAsg (mTup (mLc1 (mOp addD (mPk 6) (mCall m_law_take (mAb 0 (mAv (mOp subD (mF lenD (mPk 2)) (mPk 6)) mAn)))) (mLc1 (mCall m_law_take (mAb 0 (mAv (mNm 1) mAn))) mLn))) (mGt 2 (mGcons (mGn 7) (mGcons (mGn 8) mGnil))) ρ5 β4 = some (.nx, ρ6, β6) := by
    have : mTup (mLc1 (mOp addD (mPk 6) (mCall m_law_take (mAb 0 (mAv (mOp subD (mF lenD (mPk 2)) (mPk 6)) mAn)))) (mLc1 (mCall m_law_take (mAb 0 (mAv (mNm 1) mAn))) mLn)) ρ5 β4 = some (.tuple [.int hi, .int k], β6) :=
      mTup_ok (mLc1_ok (mOp_ok (β1 := β4) (d := .int lo) rfl h1 (by rw [addD_int, hhi])) (mLc1_ok a1 rfl)) (by rw [szN]; exact (by decide : 2 ≤ 16777216))
    exact mAsg_ok this rfl
  have pl := P_length r 0
  have npr := nd_pcs R.uni
  have nps := nd_pcs S.uni
  have w3 : w ≤ 3 := by omega
  have m1 : r.length * (2 * w + 5) ≤ 17 * 11 := Nat.mul_le_mul (by omega) (by omega)
  have m2 : s.length * (2 * w + 5) ≤ 17 * 11 := Nat.mul_le_mul (by omega) (by omega)
  -- the bent value
  have hbent : ∃ bt β7, mSet 9 (mXv (mCall m_law_some (mAb 0 (mAv (mLst (mLc1 (mCall (m_law_bent 4) (mAb 0 (mAv (mNm 4) (mAv (mC (.int 3)) mAn)))) (mLc1 (mSl slD (mPk 4) (mOs (mC (.int 1))) mOn) (mLc1 (mTup mLn) (mLc1 (mC .none) (mLc1 (mF lstOfD (mPk 4)) (mLc1 (mNm 4) mLn))))))) mAn)))) ρ6 β6 = some (.nx, ρ6.set 9 (.v bt), β7) ∧ nd bt ≤ 1000 ∧ HB bt := by
    obtain ⟨b, β7, b1, b2, b3⟩ := ev_bent 4 3 (pcsD (P r 0)) β6 (by omega) (pn_pcsD _) (cA_P R (Nat.le_refl _)) (by omega)
    have cb : mCall (m_law_bent 4) (mAb 0 (mAv (mNm 4) (mAv (mC (.int 3)) mAn))) ρ6 β6 = some (b, β7) := mCall_ok (β1 := β6) (ss := [.bag, .v (pcsD (P r 0)), .v (.int 3)]) rfl b1
    have hl : mLst (mLc1 (mCall (m_law_bent 4) (mAb 0 (mAv (mNm 4) (mAv (mC (.int 3)) mAn)))) (mLc1 (mSl slD (mPk 4) (mOs (mC (.int 1))) mOn) (mLc1 (mTup mLn) (mLc1 (mC .none) (mLc1 (mF lstOfD (mPk 4)) (mLc1 (mNm 4) mLn)))))) ρ6 β6 = some (.list [b, pcsD ((P r 0).drop 1), .tuple [], .none, .list ((P r 0).map pcD), pcsD (P r 0)], β7) :=
      mLst_ok (mLc1_ok cb (mLc1_ok (β1 := β7) (β2 := β7) (mSl_ok (β1 := β7) (β2 := β7) (β3 := β7) (d := pcsD (P r 0)) rfl (mOs_ok (β1 := β7) (i := ((1 : Nat) : Int)) rfl) rfl (slD_a pcD (P r 0) 1)) (mLc1_ok (β1 := β7) (β2 := β7) rfl (mLc1_ok (β1 := β7) (β2 := β7) rfl (mLc1_ok (β1 := β7) (β2 := β7) rfl (mLc1_ok (β1 := β7) (β2 := β7) rfl rfl)))))) (by rw [szN]; exact (by decide : 6 ≤ 16777216))
    obtain ⟨x, β8, x1, x2⟩ := some_ok (ρ := ρ6) rfl hl rfl (by simp) (by simp)
    have sA := sI_mono (fun _ => cAB) _ (cA_P R (Nat.le_refl _))
    have sA' : sIA cB ((P r 0).map pcD) = true := sA
    refine ⟨x, β8, mSet_ok x1, ?_⟩
    simp only [List.mem_cons, List.not_mem_nil, or_false] at x2
    rcases x2 with rfl | rfl | rfl | rfl | rfl | rfl
    · exact ⟨by omega, HB_of b3⟩
    · have e : ndA ((P r 0).map pcD) = ndA (((P r 0).take 1).map pcD) + ndA (((P r 0).drop 1).map pcD) := by rw [← ndA_app, ← List.map_append, List.take_append_drop]
      refine ⟨?_, HB_of ?_⟩
      · show ndA (((P r 0).drop 1).map pcD) + 1 ≤ 1000
        have : nd (pcsD (P r 0)) = ndA ((P r 0).map pcD) + 1 := rfl
        omega
      · show sIA cB (((P r 0).drop 1).map pcD) = true
        have : sIA cB (((P r 0).take 1).map pcD ++ ((P r 0).drop 1).map pcD) = true := by rw [← List.map_append, List.take_append_drop]; exact sA
        rw [sIA_app] at this
        exact (Bool.and_eq_true_iff.mp this).2
    · exact ⟨by show 0 + 1 ≤ 1000; omega, HB_of rfl⟩
    · exact ⟨by show 1 ≤ 1000; omega, HB_of rfl⟩
    · exact ⟨by
        show ndA ((P r 0).map pcD) + 1 ≤ 1000
        have : nd (pcsD (P r 0)) = ndA ((P r 0).map pcD) + 1 := rfl
        omega, HB_of sA⟩
    · exact ⟨by omega, HB_of sA⟩
  obtain ⟨bt, β7, S6, bz, bh⟩ := hbent

  have hc := R.uni.gt (i := hi) (by omega)
  let T1 : List D := [pcsD (P r 0), rowD r, iT (gtR r hi), .tuple (((P r 0).drop 1).map fun p => .int p.lo), pcsD (P ((r.drop lo).take (hi + 1 - lo)) 0), pcsD (P (r ++ s) 0)]
  let ρ7 : List Slot := [.bag, .v (.int w), .v (rowD r), .v (rowD s), .v (pcsD (P r 0)), .v (pcsD (P s 0)), .v (.int lo), .v (.int hi), .v (.int k), .v bt, .no, .no, .no, .no, .no, .no, .no, .no]
  let ρ8 : List Slot := [.bag, .v (.int w), .v (rowD r), .v (rowD s), .v (pcsD (P r 0)), .v (pcsD (P s 0)), .v (.int lo), .v (.int hi), .v (.int k), .v bt, .v (.list T1), .no, .no, .no, .no, .no, .no, .no]
  have six : ∀ {xs : List D}, xs.length = 6 → xs.length ≤ sizeLine := fun h => by rw [h, szN]; exact (by decide : 6 ≤ 16777216)
  have four : ∀ {xs : List D}, xs.length = 4 → xs.length ≤ sizeLine := fun h => by rw [h, szN]; exact (by decide : 4 ≤ 16777216)
  have S7 : mSet 10 (mXv (mLst (mLc1 (mCall m_pieces_of (mAv (mNm 2) mAn)) (mLc1 (mCall m_row_of (mAv (mNm 4) mAn)) (mLc1 (mCall m_member_at (mAv (mNm 4) (mAv (mNm 7) mAn))) (mLc1 (mCall m_turns_of (mAv (mNm 4) mAn)) (mLc1 (mCall m_cut (mAv (mNm 4) (mAv (mNm 6) (mAv (mNm 7) mAn)))) (mLc1 (mCall m_joined (mAv (mNm 4) (mAv (mNm 5) mAn))) mLn))))))))  ρ7 β7 = some (.nx, ρ8, β7) :=
    mSet_ok (d := .list T1) (mLst_ok (mLc1_ok (β1 := β7) (mCall_ok (β1 := β7) (ss := [.v (rowD r)]) rfl (ev_pieces_of r β7 ro rn)) (mLc1_ok (β1 := β7) (mCall_ok (β1 := β7) (ss := [.v (pcsD (P r 0))]) rfl (ev_row_of_P R.uni ro β7)) (mLc1_ok (β1 := β7) (mCall_ok (β1 := β7) (ss := [.v (pcsD (P r 0)), .v (.int hi)]) rfl (ev_member_at R.uni ro hi (by omega) β7)) (mLc1_ok (β1 := β7) (mCall_ok (β1 := β7) (ss := [.v (pcsD (P r 0))]) rfl (ev_turns_of (P r 0) β7 (by omega))) (mLc1_ok (β1 := β7) (mCall_ok (β1 := β7) (ss := [.v (pcsD (P r 0)), .v (.int lo), .v (.int hi)]) rfl (ev_cut R.uni ro lo hi β7 (by omega) (by omega))) (mLc1_ok (β1 := β7) (mCall_ok (β1 := β7) (ss := [.v (pcsD (P r 0)), .v (pcsD (P s 0))]) rfl (ev_joined R.uni ro S.uni so (by omega) rn β7)) rfl)))))) (six rfl))
  let ρ9 : List Slot := [.bag, .v (.int w), .v (rowD r), .v (rowD s), .v (pcsD (P r 0)), .v (pcsD (P s 0)), .v (.int lo), .v (.int hi), .v (.int k), .v bt, .v (.list T1), .v (.list T1), .no, .no, .no, .no, .no, .no]
  have roS : RowOk ((r.drop lo).take (hi + 1 - lo)) := ro.sub mem_cut (by rw [List.length_take, List.length_drop]; omega)
  have roJ : RowOk (r ++ s) := ⟨by rw [List.length_append]; omega, fun x hx => (List.mem_append.mp hx).elim (ro.wid x) (so.wid x)⟩
  have d3 : mOp ixD (mPk 2) (mPk 7) ρ8 β7 = some (iT (gtR r hi), β7) := mOp_ok (β1 := β7) (β2 := β7) (d := rowD r) (e := .int hi) rfl rfl (atI_row (by omega))
  have d4 : mF tupOfD (mFz (mLc [14] (mIt (mSl slD (mPk 4) (mOs (mC (.int 1))) mOn)) (mGn 14) mYes (mOp ixD (mPk 14) (mC (.int 0))))) ρ8 β7 = some (.tuple (((P r 0).drop 1).map fun p => .int p.lo), β7) :=
    mF_ok (mFz_ok (mLc_ok (β1 := β7) (vs := [14]) (ρ := ρ8) (mIt_ok (β1 := β7) (mSl_ok (β1 := β7) (β2 := β7) (β3 := β7) (d := pcsD (P r 0)) rfl (mOs_ok (β1 := β7) (i := ((1 : Nat) : Int)) rfl) rfl (slD_a pcD (P r 0) 1)) rfl) (lcGo_map pcD (fun p => .int p.lo) ((P r 0).drop 1) fun p _ => ⟨_, rfl, rfl, mOp_ok (β1 := β7) (β2 := β7) (d := pcD p) rfl rfl (ix_pc0 p)⟩) (by rw [List.length_map, List.length_drop, szN]; omega))) rfl
  have d5 : mCall m_law_pieces (mAv (mSl slD (mPk 2) (mOs (mNm 6)) (mOs (mOp addD (mPk 7) (mC (.int 1))))) mAn) ρ8 β7 = some (pcsD (P ((r.drop lo).take (hi + 1 - lo)) 0), β7) := by
    have : mSl slD (mPk 2) (mOs (mNm 6)) (mOs (mOp addD (mPk 7) (mC (.int 1)))) ρ8 β7 = some (rowD ((r.drop lo).take (hi + 1 - lo)), β7) :=
      mSl_ok (β1 := β7) (β2 := β7) (β3 := β7) (d := rowD r) rfl (mOs_ok (β1 := β7) (i := (lo : Int)) rfl) (mOs_ok (β1 := β7) (i := ((hi + 1 : Nat) : Int)) rfl) (slD_ab iT r lo (hi + 1) (by omega))
    exact mCall_ok (mAv_ok this rfl) (ev_law_pieces _ β7 roS)
  have d6 : mCall m_law_pieces (mAv (mOp addD (mPk 2) (mPk 3)) mAn) ρ8 β7 = some (pcsD (P (r ++ s) 0), β7) := by
    have : mOp addD (mPk 2) (mPk 3) ρ8 β7 = some (rowD (r ++ s), β7) := mOp_ok (β1 := β7) (β2 := β7) (d := rowD r) (e := rowD s) rfl rfl (by rw [addD_tup (by rw [List.length_map, List.length_map, szN]; omega), ← List.map_append])
    exact mCall_ok (mAv_ok this rfl) (ev_law_pieces _ β7 roJ)
  have S8 : mSet 11 (mXv (mLst (mLc1 (mNm 4) (mLc1 (mNm 2) (mLc1 (mOp ixD (mPk 2) (mPk 7)) (mLc1 (mF tupOfD (mFz (mLc [14] (mIt (mSl slD (mPk 4) (mOs (mC (.int 1))) mOn)) (mGn 14) mYes (mOp ixD (mPk 14) (mC (.int 0)))))) (mLc1 (mCall m_law_pieces (mAv (mSl slD (mPk 2) (mOs (mNm 6)) (mOs (mOp addD (mPk 7) (mC (.int 1))))) mAn)) (mLc1 (mCall m_law_pieces (mAv (mOp addD (mPk 2) (mPk 3)) mAn)) mLn)))))))) ρ8 β7 = some (.nx, ρ9, β7) :=
    mSet_ok (d := .list T1) (mLst_ok (mLc1_ok (β1 := β7) (β2 := β7) (d := pcsD (P r 0)) rfl (mLc1_ok (β1 := β7) (β2 := β7) (d := rowD r) rfl (mLc1_ok d3 (mLc1_ok d4 (mLc1_ok d5 (mLc1_ok d6 rfl)))))) (six rfl))
  let mn := min r.length s.length
  let ρ10 : List Slot := [.bag, .v (.int w), .v (rowD r), .v (rowD s), .v (pcsD (P r 0)), .v (pcsD (P s 0)), .v (.int lo), .v (.int hi), .v (.int k), .v bt, .v (.list T1), .v (.list T1), .v (.int (mn : Nat)), .no, .no, .no, .no, .no]
  have S9 : mSet 12 (mXv (mOp minD (mF lenD (mPk 2)) (mF lenD (mPk 3)))) ρ9 β7 = some (.nx, ρ10, β7) :=
    mSet_ok (mOp_ok (β1 := β7) (β2 := β7) (d := .int (r.length : Nat)) (e := .int (s.length : Nat)) (mF_ok (β1 := β7) (d := rowD r) rfl (by rw [lenD_tup, List.length_map])) (mF_ok (β1 := β7) (d := rowD s) rfl (by rw [lenD_tup, List.length_map])) (minD_nat _ _))
  let ρ11 : List Slot := [.bag, .v (.int w), .v (rowD r), .v (rowD s), .v (pcsD (P r 0)), .v (pcsD (P s 0)), .v (.int lo), .v (.int hi), .v (.int k), .v bt, .v (.list T1), .v (.list T1), .v (.int (mn : Nat)), .v (rowD (sumR r s)), .no, .no, .no, .no]
  have S10 : mSet 13 (mXv (mF tupOfD (mFz (mLc [14, 15] (mZip (mNm 2) (mNm 3)) (mGt 2 (mGcons (mGn 14) (mGcons (mGn 15) mGnil))) mYes (mF tupOfD (mFz (mLc [16, 17] (mZip (mNm 14) (mNm 15)) (mGt 2 (mGcons (mGn 16) (mGcons (mGn 17) mGnil))) mYes (mOp addD (mPk 16) (mPk 17))))))))) ρ10 β7 = some (.nx, ρ11, β7) := by
    have inner : lcGo ρ10 (mGt 2 (mGcons (mGn 14) (mGcons (mGn 15) mGnil))) mYes (mF tupOfD (mFz (mLc [16, 17] (mZip (mNm 14) (mNm 15)) (mGt 2 (mGcons (mGn 16) (mGcons (mGn 17) mGnil))) mYes (mOp addD (mPk 16) (mPk 17))))) ((r.zip s).map fun p => pairD (iT p.1) (iT p.2)) β7 = some ((r.zip s).map (fun p => iT (List.zipWith (fun x y => x + y) p.1 p.2)), β7) := by
      refine lcGo_map _ _ _ fun p hp => ⟨_, rfl, rfl, ?_⟩
      have hp1 := R.uni _ (List.of_mem_zip (a := p.1) (b := p.2) hp).1
      have hc : lcGo [.bag, .v (.int w), .v (rowD r), .v (rowD s), .v (pcsD (P r 0)), .v (pcsD (P s 0)), .v (.int lo), .v (.int hi), .v (.int k), .v bt, .v (.list T1), .v (.list T1), .v (.int (mn : Nat)), .no, .v (iT p.1), .v (iT p.2), .no, .no] (mGt 2 (mGcons (mGn 16) (mGcons (mGn 17) mGnil))) mYes (mOp addD (mPk 16) (mPk 17)) ((p.1.zip p.2).map fun p => pairD (.int p.1) (.int p.2)) β7 = some ((p.1.zip p.2).map (fun p => .int (p.1 + p.2)), β7) := lcGo_map _ _ _ fun q _ => ⟨_, rfl, rfl, rfl⟩
      refine (mF_ok (mFz_ok (mLc_ok (β1 := β7) (vs := [16, 17]) (ρ := [.bag, .v (.int w), .v (rowD r), .v (rowD s), .v (pcsD (P r 0)), .v (pcsD (P s 0)), .v (.int lo), .v (.int hi), .v (.int k), .v bt, .v (.list T1), .v (.list T1), .v (.int (mn : Nat)), .no, .v (iT p.1), .v (iT p.2), .no, .no]) ((mZip_ok (β1 := β7) (β2 := β7) (d := iT p.1) (e := iT p.2) rfl rfl rfl rfl).trans (by rw [zip_pair])) hc (by rw [List.length_map, List.length_zip, szN]; omega))) (tupOfD_lst _)).trans ?_
      rw [addL_zip]
      rfl
    refine mSet_ok (mF_ok (mFz_ok (mLc_ok (β1 := β7) (vs := [14, 15]) (ρ := ρ10) ((mZip_ok (β1 := β7) (β2 := β7) (d := rowD r) (e := rowD s) rfl rfl rfl rfl).trans (by rw [zipR_map])) inner (by rw [List.length_map, List.length_zip, szN]; omega))) ?_)
    rw [tupOfD_lst, sumR_map r s _ fun p => rfl]
  obtain ⟨c1, x1, x2⟩ := ev_are_pieces (pcsD (P r 0)) β7 (by omega)
  have hc1 : c1 = true := x2.mpr ⟨P r 0, rfl, IsPs_P R.uni hw0 rn (by omega)⟩
  subst hc1
  obtain ⟨c2, y1, y2⟩ := ev_are_pieces bt β7 bz
  obtain ⟨c3, z1, z2⟩ := ev_law_is_pieces bt β7 bz bh
  have hc23 : c3 = c2 := by rw [Bool.eq_iff_iff, z2, y2]
  subst hc23
  let T2 : List D := [pcsD (P (colR r k) 0), pcsD (P (sumR r s) 0), .bool true, .bool c3]
  let ρ12 : List Slot := [.bag, .v (.int w), .v (rowD r), .v (rowD s), .v (pcsD (P r 0)), .v (pcsD (P s 0)), .v (.int lo), .v (.int hi), .v (.int k), .v bt, .v (.list (T1 ++ T2)), .v (.list T1), .v (.int (mn : Nat)), .v (rowD (sumR r s)), .no, .no, .no, .no]
  have hmn1 : mn ≤ r.length := Nat.min_le_left _ _
  have hmn2 : mn ≤ s.length := Nat.min_le_right _ _
  have hmn0 : 0 < mn := by show 0 < min _ _; omega
  have ut : Uni w (r.take mn) := R.uni.sub fun x hx => List.mem_of_mem_take hx
  have us : Uni w (s.take mn) := S.uni.sub fun x hx => List.mem_of_mem_take hx
  have rot : RowOk (r.take mn) := ro.sub (fun x hx => List.mem_of_mem_take hx) (by rw [List.length_take]; omega)
  have sot : RowOk (s.take mn) := so.sub (fun x hx => List.mem_of_mem_take hx) (by rw [List.length_take]; omega)
  have q2 : mCall m_added (mAv (mCall m_law_pieces (mAv (mSl slD (mPk 2) mOn (mOs (mNm 12))) mAn)) (mAv (mCall m_law_pieces (mAv (mSl slD (mPk 3) mOn (mOs (mNm 12))) mAn)) mAn)) ρ11 β7 = some (pcsD (P (sumR r s) 0), β7) := by
    have e1 : mCall m_law_pieces (mAv (mSl slD (mPk 2) mOn (mOs (mNm 12))) mAn) ρ11 β7 = some (pcsD (P (r.take mn) 0), β7) :=
      mCall_ok (mAv_ok (mSl_ok (β1 := β7) (β2 := β7) (β3 := β7) (d := rowD r) rfl rfl (mOs_ok (β1 := β7) (i := (mn : Int)) rfl) (slD_b iT r mn hmn1)) rfl) (ev_law_pieces _ β7 rot)
    have e2 : mCall m_law_pieces (mAv (mSl slD (mPk 3) mOn (mOs (mNm 12))) mAn) ρ11 β7 = some (pcsD (P (s.take mn) 0), β7) :=
      mCall_ok (mAv_ok (mSl_ok (β1 := β7) (β2 := β7) (β3 := β7) (d := rowD s) rfl rfl (mOs_ok (β1 := β7) (i := (mn : Int)) rfl) (slD_b iT s mn hmn2)) rfl) (ev_law_pieces _ β7 sot)
    have e3 := ev_added ut rot us sot (by rw [List.length_take]; omega) (by rw [List.length_take]; omega) β7
    rw [show sumR (r.take mn) (s.take mn) = sumR r s from sumR_take r s] at e3
    exact mCall_ok (mAv_ok e1 (mAv_ok e2 rfl)) e3
  have S11 : mSet 10 (mXv (mOp addD (mPk 10) (mLst (mLc1 (mCall m_column (mAv (mNm 4) (mAv (mNm 8) mAn))) (mLc1 (mCall m_added (mAv (mCall m_law_pieces (mAv (mSl slD (mPk 2) mOn (mOs (mNm 12))) mAn)) (mAv (mCall m_law_pieces (mAv (mSl slD (mPk 3) mOn (mOs (mNm 12))) mAn)) mAn))) (mLc1 (mCall m_are_pieces (mAv (mNm 4) mAn)) (mLc1 (mCall m_are_pieces (mAv (mNm 9) mAn)) mLn))))))) ρ11 β7 = some (.nx, ρ12, β7) :=
    mSet_ok (mOp_ok (β1 := β7) (d := .list T1) (e := .list T2) rfl (mLst_ok (mLc1_ok (β1 := β7) (mCall_ok (β1 := β7) (ss := [.v (pcsD (P r 0)), .v (.int k)]) rfl (ev_column R.uni ro k (by omega) rn β7)) (mLc1_ok q2 (mLc1_ok (β1 := β7) (mCall_ok (β1 := β7) (ss := [.v (pcsD (P r 0))]) rfl x1) (mLc1_ok (β1 := β7) (mCall_ok (β1 := β7) (ss := [.v bt]) rfl y1) rfl)))) (four rfl)) (addD_lst (by rw [szN]; exact (by decide : 6 + 4 ≤ 16777216))))
  have p1 : mCall m_law_pieces (mAv (mF tupOfD (mFz (mLc [14] (mIt (mNm 2)) (mGn 14) mYes (mTup (mLc1 (mOp ixD (mPk 14) (mPk 8)) mLn))))) mAn) ρ12 β7 = some (pcsD (P (colR r k) 0), β7) := by
    have hl : lcGo ρ12 (mGn 14) mYes (mTup (mLc1 (mOp ixD (mPk 14) (mPk 8)) mLn)) (r.map iT) β7 = some ((colR r k).map iT, β7) := by
      unfold colR
      rw [List.map_map]
      refine lcGo_map _ _ _ fun x hx => ⟨_, rfl, rfl, mTup_ok (mLc1_ok (β1 := β7) (mOp_ok (β1 := β7) (β2 := β7) (d := iT x) (e := .int k) rfl rfl (ix_iT (by rw [R.uni x hx]; omega))) rfl) (by rw [szN]; exact (by decide : 1 ≤ 16777216))⟩
    exact mCall_ok (mAv_ok (mF_ok (β1 := β7) (d := .list ((colR r k).map iT)) (mFz_ok (mLc_ok (vs := [14]) (ρ := ρ12) (β1 := β7) (mIt_ok (β1 := β7) (d := rowD r) rfl rfl) hl (by rw [List.length_map]; unfold colR; rw [List.length_map, szN]; omega))) rfl) rfl) (ev_law_pieces _ β7 (colR_ok ro k))
  have fin : mOp addD (mPk 11) (mLst (mLc1 (mCall m_law_pieces (mAv (mF tupOfD (mFz (mLc [14] (mIt (mNm 2)) (mGn 14) mYes (mTup (mLc1 (mOp ixD (mPk 14) (mPk 8)) mLn))))) mAn)) (mLc1 (mCall m_law_pieces (mAv (mNm 13) mAn)) (mLc1 (mC (.bool true)) (mLc1 (mCall m_law_is_pieces (mAv (mNm 9) mAn)) mLn))))) ρ12 β7 = some (.list (T1 ++ T2), β7) :=
    mOp_ok (β1 := β7) (d := .list T1) (e := .list T2) rfl (mLst_ok (mLc1_ok p1 (mLc1_ok (β1 := β7) (mCall_ok (β1 := β7) (ss := [.v (rowD (sumR r s))]) rfl (ev_law_pieces _ β7 (sumR_ok ro (by omega)))) (mLc1_ok (β1 := β7) (β2 := β7) rfl (mLc1_ok (β1 := β7) (mCall_ok (β1 := β7) (ss := [.v bt]) rfl z1) rfl)))) (four rfl)) (addD_lst (by rw [szN]; exact (by decide : 6 + 4 ≤ 16777216)))
  have uC : Uni 1 (colR r k) := fun x hx => by
    unfold colR at hx
    obtain ⟨y, _, rfl⟩ := List.mem_map.mp hx
    rfl
  have uS := sumR_uni R.uni S.uni
  have uJ : Uni w (r ++ s) := fun x hx => (List.mem_append.mp hx).elim (R.uni x) (S.uni x)
  have uK : Uni w ((r.drop lo).take (hi + 1 - lo)) := R.uni.sub mem_cut
  have lS : (sumR r s).length ≤ 17 := by unfold sumR; rw [List.length_zipWith]; omega
  have lC : (colR r k).length ≤ 17 := by unfold colR; rw [List.length_map]; omega
  have lK : ((r.drop lo).take (hi + 1 - lo)).length ≤ 17 := by rw [List.length_take, List.length_drop]; omega
  have lJ : (r ++ s).length ≤ 34 := by rw [List.length_append]; omega
  have pbd : pb (.list (T1 ++ T2)) = true := by
    have hlos : pb (.tuple (((P r 0).drop 1).map fun p => .int p.lo)) = true := nb_pb _ (by unfold nb; exact nbA_of _ fun _ _ => rfl)
    show (pb (pcsD (P r 0)) && (pb (rowD r) && (pb (iT (gtR r hi)) && (pb (.tuple (((P r 0).drop 1).map fun p => .int p.lo)) && (pb (pcsD (P ((r.drop lo).take (hi + 1 - lo)) 0)) && (pb (pcsD (P (r ++ s) 0)) && (pb (pcsD (P (colR r k) 0)) && (pb (pcsD (P (sumR r s) 0)) && (true && (true && true)))))))))) = true
    rw [pb_pcs, pb_row, pb_iT, hlos, pb_pcs, pb_pcs, pb_pcs, pb_pcs]
    rfl
  have ndd : nd (.list (T1 ++ T2)) ≤ 900000 := by
    have n1 := nd_pcs R.uni
    have n2 := nd_row R.uni
    have n3 := nd_iTE (gtR r hi)
    have n4 : nd (.tuple (((P r 0).drop 1).map fun p => .int p.lo)) ≤ 18 := by
      have : ((P r 0).drop 1).map (fun p => PyData.int p.lo) = (((P r 0).drop 1).map fun p => (p.lo : Int)).map .int := by rw [List.map_map]; rfl
      rw [this]
      show nd (iT _) ≤ _
      rw [nd_iTE, List.length_map, List.length_drop]
      omega
    have n5 := nd_pcs uK
    have n6 := nd_pcs uJ
    have n7 := nd_pcs uC
    have n8 := nd_pcs uS
    have e2 : r.length * (w + 1) ≤ 17 * 4 := Nat.mul_le_mul (by omega) (by omega)
    have e5 : ((r.drop lo).take (hi + 1 - lo)).length * (2 * w + 5) ≤ 17 * 11 := Nat.mul_le_mul lK (by omega)
    have e6 : (r ++ s).length * (2 * w + 5) ≤ 34 * 11 := Nat.mul_le_mul lJ (by omega)
    have e7 : (colR r k).length * (2 * 1 + 5) ≤ 17 * 11 := Nat.mul_le_mul lC (by omega)
    have e8 : (sumR r s).length * (2 * w + 5) ≤ 17 * 11 := Nat.mul_le_mul lS (by omega)
    show (nd (pcsD (P r 0)) + (nd (rowD r) + (nd (iT (gtR r hi)) + (nd (.tuple (((P r 0).drop 1).map fun p => .int p.lo)) + (nd (pcsD (P ((r.drop lo).take (hi + 1 - lo)) 0)) + (nd (pcsD (P (r ++ s) 0)) + (nd (pcsD (P (colR r k) 0)) + (nd (pcsD (P (sumR r s) 0)) + (1 + (1 + 0)))))))))) + 1 ≤ 900000
    omega
  obtain ⟨cf, f1, f2⟩ := ev_alike (.list (T1 ++ T2)) (.list (T1 ++ T2)) β7 pbd pbd ndd
  have hcf : cf = true := f2.mpr rfl
  subst hcf
  have FIN : mCall m_law_alike (mAv (mNm 10) (mAv (mOp addD (mPk 11) (mLst (mLc1 (mCall m_law_pieces (mAv (mF tupOfD (mFz (mLc [14] (mIt (mNm 2)) (mGn 14) mYes (mTup (mLc1 (mOp ixD (mPk 14) (mPk 8)) mLn))))) mAn)) (mLc1 (mCall m_law_pieces (mAv (mNm 13) mAn)) (mLc1 (mC (.bool true)) (mLc1 (mCall m_law_is_pieces (mAv (mNm 9) mAn)) mLn)))))) mAn)) ρ12 β7 = some (.bool true, β7) :=
    mCall_ok (mAv_ok (β1 := β7) (d := .list (T1 ++ T2)) rfl (mAv_ok fin rfl)) f1
  exact ⟨β7, fn_rt (ρ' := ρ12) (seq_nx S1 (seq_nx S2 (seq_nx S3 (seq_nx S4 (seq_nx S5 (seq_nx (ρ1 := ρ7) S6 (seq_nx S7 (seq_nx S8 (seq_nx S9 (seq_nx S10 (seq_nx S11 (mRet_ok FIN))))))))))))⟩
end K31
namespace K31
open PySem PySem.Spec PyProof.Rows L2 M
/-! ### books -/
structure Tr where
  nm : Str
  pt : Str
  so : Str
  src : Str
  fs : Int
  sc : Int
  lm : Option Int
  on : List Str
def limD : Option Int → D
  | none => .none
  | some i => .int i
abbrev strT (xs : List Str) : D := .tuple (xs.map .str)
def trD (t : Tr) : D := .tuple [.str t.nm, .str t.pt, .str t.so, .str t.src, .int t.fs, .int t.sc, limD t.lm, strT t.on]
structure Bk where
  nm : Str
  ks : List Str
  ms : Nat
  ts : List Tr
def bkD (b : Bk) : D := .tuple [.str b.nm, strT b.ks, .int b.ms, .tuple (b.ts.map trD)]
def ok (x : Str) : Prop := PyData.strOk x = true
structure TrOk (t : Tr) : Prop where
  nm : ok t.nm
  pt : ok t.pt
  so : ok t.so
  src : ok t.src
  on : ∀ k ∈ t.on, ok k
  fs : 0 ≤ t.fs ∧ t.fs ≤ 1000
  sc : 0 ≤ t.sc ∧ t.sc ≤ 1000
  shr : t.so ≠ "stop" → t.so ≠ "layer" → 1 ≤ t.sc
  lm : ∀ l, t.lm = some l → 0 ≤ l ∧ l ≤ 1000
  onl : t.on.length ≤ 1000
theorem ok_own : ok "own" := by unfold ok; decide +kernel
theorem ok_stop : ok "stop" := by unfold ok; decide +kernel
theorem ok_layer : ok "layer" := by unfold ok; decide +kernel
theorem ok_share : ok "share" := by unfold ok; decide +kernel
def addS (acc : List Str) (x : Str) : List Str := if x ∈ acc then acc else acc ++ [x]
def bearS (ts : List Tr) : List Str := (ts.map (·.pt)).foldl addS ["own"]
theorem addS_nodup {acc : List Str} {x : Str} (h : acc.Nodup) : (addS acc x).Nodup := by
  unfold addS
  split
  · exact h
  · rename_i hx
    exact List.nodup_append.mpr ⟨h, List.nodup_cons.mpr ⟨List.not_mem_nil, List.nodup_nil⟩, fun a ha b hb => by rw [List.mem_singleton.mp hb]; rintro rfl; exact hx ha⟩
theorem foldS_nodup : ∀ (xs acc : List Str), acc.Nodup → (xs.foldl addS acc).Nodup
  | [], _, h => h
  | x :: r, acc, h => foldS_nodup r (addS acc x) (addS_nodup h)
theorem addS_mem {acc : List Str} {x y : Str} : y ∈ addS acc x ↔ y ∈ acc ∨ y = x := by
  unfold addS
  split
  · rename_i h
    exact ⟨.inl, fun q => q.elim id fun e => e ▸ h⟩
  · rw [List.mem_append, List.mem_singleton]
theorem foldS_mem : ∀ (xs acc : List Str) (y : Str), y ∈ xs.foldl addS acc ↔ y ∈ acc ∨ y ∈ xs
  | [], acc, y => by simp
  | x :: r, acc, y => by
    rw [List.foldl_cons, foldS_mem r, addS_mem, List.mem_cons, or_assoc]
theorem addS_len (acc : List Str) (x : Str) : (addS acc x).length ≤ acc.length + 1 := by
  unfold addS
  split
  · omega
  · rw [List.length_append, List.length_singleton]; omega
theorem foldS_len : ∀ (xs acc : List Str), (xs.foldl addS acc).length ≤ acc.length + xs.length
  | [], acc => by simp
  | x :: r, acc => by
    have h1 := foldS_len r (addS acc x)
    have h2 := addS_len acc x
    rw [List.foldl_cons, List.length_cons]
    omega
theorem foldS_self : ∀ (xs acc : List Str), (acc ++ xs).Nodup → xs.foldl addS acc = acc ++ xs
  | [], acc, _ => by simp
  | x :: r, acc, h => by
    have hx : x ∉ acc := fun hm => (List.nodup_append.mp h).2.2 x hm x List.mem_cons_self rfl
    have e : addS acc x = acc ++ [x] := by unfold addS; rw [if_neg hx]
    rw [List.foldl_cons, e, foldS_self r (acc ++ [x]) (by rw [List.append_assoc]; exact h), List.append_assoc]
    rfl
theorem bearS_nodup (ts : List Tr) : (bearS ts).Nodup := foldS_nodup _ _ (List.nodup_cons.mpr ⟨List.not_mem_nil, List.nodup_nil⟩)
theorem bearS_own (ts : List Tr) : ("own" : Str) ∈ bearS ts := (foldS_mem _ _ _).mpr (.inl List.mem_cons_self)
theorem bearS_pt {ts : List Tr} {t : Tr} (h : t ∈ ts) : t.pt ∈ bearS ts := (foldS_mem _ _ _).mpr (.inr (List.mem_map_of_mem h))
theorem bearS_len (ts : List Tr) : (bearS ts).length ≤ 1 + ts.length := by
  have := foldS_len (ts.map (·.pt)) ["own"]
  rw [List.length_map] at this
  exact this
theorem bearS_ok {ts : List Tr} (h : ∀ t ∈ ts, TrOk t) : ∀ x ∈ bearS ts, ok x := fun x hx => by
  rcases (foldS_mem _ _ _).mp hx with hx | hx
  · rw [List.mem_singleton.mp hx]; exact ok_own
  · obtain ⟨t, ht, rfl⟩ := List.mem_map.mp hx
    exact (h t ht).pt
/-! ### dicts of names -/
theorem inB_str {x : Str} {ns : List Str} (hx : ok x) (hn : ∀ y ∈ ns, ok y) : inB (.str x) (ns.map .str) = decide (x ∈ ns) := by
  unfold inB
  rw [List.any_map, Bool.eq_iff_iff, List.any_eq_true, decide_eq_true_iff]
  constructor
  · rintro ⟨y, hy, h⟩
    have h : PyData.eqv (.str y) (.str x) = true := h
    rw [nb_eqv _ _ (by unfold nb; exact hn y hy) (by unfold nb; exact hx)] at h
    injection h with h
    exact h ▸ hy
  · intro h
    refine ⟨x, h, ?_⟩
    show PyData.eqv (.str x) (.str x) = true
    rw [nb_eqv _ _ (by unfold nb; exact hx) (by unfold nb; exact hx)]
theorem flat_strs (ns : List Str) : (ns.map PyData.str).all flatD = true := by
  rw [List.all_map]
  exact List.all_eq_true.mpr fun _ _ => rfl
theorem inD_str {neg : Bool} {x : Str} {ns : List Str} {d : D} (hs : seqD d = some (ns.map .str)) (hx : ok x) (hn : ∀ y ∈ ns, ok y) : inD neg (.str x) d = some (.bool (if neg then !decide (x ∈ ns) else decide (x ∈ ns))) := by
  unfold inD
  rw [hs]
  simp only [Option.bind_some]
  rw [if_pos (by rw [flat_strs]; rfl), inB_str hx hn]
abbrev kvC (ns : List Str) (c : D) : List (Key × D) := ns.map fun s => (Sum.inr s, c)
abbrev kvF (ns : List Str) (f : Str → Int) : List (Key × D) := ns.map fun s => (Sum.inr s, PyData.int (f s))
theorem any_key {α : Type} (ns : List Str) (g : Str → α) (s : Str) : ((ns.map fun s => ((Sum.inr s : Key), g s)).any fun kv => decide (kv.1 = .inr s)) = decide (s ∈ ns) := by
  rw [List.any_map, Bool.eq_iff_iff, List.any_eq_true, decide_eq_true_iff]
  constructor
  · rintro ⟨y, hy, h⟩
    have h := of_decide_eq_true h
    injection h with h
    exact h ▸ hy
  · intro h
    exact ⟨s, h, decide_eq_true rfl⟩
theorem putC (ns : List Str) (c : D) (s : Str) : putA (kvC ns c) (.inr s) c = kvC (addS ns s) c := by
  unfold putA addS
  rw [any_key ns (fun _ => c) s]
  by_cases h : s ∈ ns
  · rw [if_pos (decide_eq_true h), if_pos h, List.map_map]
    apply List.map_congr_left
    intro t _
    show (if (Sum.inr t : Key) = .inr s then ((Sum.inr t : Key), c) else (.inr t, c)) = _
    split <;> rfl
  · rw [if_neg (by rw [decide_eq_true_iff]; exact h), if_neg h]
    show _ = (ns ++ [s]).map _
    rw [List.map_append]
    rfl
def updF (f : Str → Int) (s : Str) (v : Int) : Str → Int := fun t => if t = s then v else f t
theorem putF {ns : List Str} {f : Str → Int} {s : Str} {v : Int} (h : s ∈ ns) : putA (kvF ns f) (.inr s) (.int v) = kvF ns (updF f s v) := by
  unfold putA
  rw [any_key ns (fun s => PyData.int (f s)) s, if_pos (decide_eq_true h), List.map_map]
  apply List.map_congr_left
  intro t _
  show (if (Sum.inr t : Key) = .inr s then ((Sum.inr t : Key), PyData.int v) else (.inr t, .int (f t))) = (.inr t, .int (updF f s v t))
  unfold updF
  by_cases e : t = s
  · rw [if_pos (by rw [e]), if_pos e]
  · rw [if_neg (by intro q; injection q with q; exact e q), if_neg e]
theorem getF {ns : List Str} {f : Str → Int} {s : Str} (h : s ∈ ns) : getA (kvF ns f) (.inr s) = some (.int (f s)) := by
  unfold getA
  induction ns with
  | nil => cases h
  | cons t r ih =>
    rw [kvF, List.map_cons, List.find?_cons]
    by_cases e : t = s
    · rw [decide_eq_true (show ((Sum.inr t : Key), PyData.int (f t)).1 = .inr s by rw [e])]
      simp only [Option.map_some, e]
    · rw [decide_eq_false (show ¬ ((Sum.inr t : Key), PyData.int (f t)).1 = .inr s by intro q; injection q with q; exact e q)]
      exact ih ((List.mem_cons.mp h).resolve_left fun q => e q.symm)
theorem dc_names {ρ : List Slot} {i : Nat} {c : D} {β : Bag} (hi : i < ρ.length) : ∀ (xs ns : List Str), ns.length + xs.length ≤ 1000000 → dcGo ρ (mGn i) mYes (mNm i) (mC c) (xs.map .str) (kvC ns c) β = some (kvC (xs.foldl addS ns) c, β)
  | [], ns, _ => rfl
  | x :: r, ns, h => by
    rw [List.length_cons] at h
    have hl := addS_len ns x
    have ih := dc_names (c := c) (β := β) hi r (addS ns x) (by omega)
    rw [List.map_cons, List.foldl_cons]
    have e : mNm i (ρ.set i (.v (.str x))) β = some (.str x, β) := by
      unfold mNm
      rw [List.getElem?_set_self hi]
      rfl
    have e1 : mGn i (.str x) ρ = some (ρ.set i (.v (.str x))) := rfl
    have e2 : ∀ ρ, mYes ρ β = some (true, β) := fun _ => rfl
    have e3 : keyD (.str x) = some (.inr x) := rfl
    have e4 : ∀ ρ, mC c ρ β = some (c, β) := fun _ => rfl
    simp only [dcGo, e, e1, e2, e3, e4, Option.bind_some, if_true]
    rw [if_pos (by rw [List.length_map, szN]; omega), putC, ih]
/-! ### bearers -/
structure BkOk (b : Bk) : Prop where
  ks : ∀ k ∈ b.ks, ok k
  kn : b.ks ≠ []
  kl : b.ks.length ≤ 10
  ms : b.ms ≤ 100
  ts : ∀ t ∈ b.ts, TrOk t
  src : ∀ t ∈ b.ts, t.src ∈ bearS b.ts
  tl : b.ts.length ≤ 100
theorem ix_b1 (b : Bk) : ixD (bkD b) (.int 1) = some (strT b.ks) := rfl
theorem ix_b2 (b : Bk) : ixD (bkD b) (.int 2) = some (.int b.ms) := rfl
theorem ix_b3 (b : Bk) : ixD (bkD b) (.int 3) = some (.tuple (b.ts.map trD)) := rfl
theorem mTk_ok {mk : MK} {ρ : List Slot} {β β1 : Bag} {kvs : List (Key × D)} (h : mk ρ β = some (kvs, β1)) : mTk mk ρ β = some (.tuple (kvs.map fun kv => ofKey kv.1), β1) := by
  simp only [mTk, h, Option.map_some]
theorem ev_bearers {b : Bk} (h : BkOk b) (β : Bag) : m_bearers [.v (bkD b)] β = some (strT (bearS b.ts), β) := by
  have htl := h.tl
  unfold m_bearers b_bearers
  refine fn_rt (ρ' := [.v (bkD b), .no, .no]) (mRet_ok ?_)
  have l1 : lcGo [.v (bkD b), .no, .no] (mGn 2) mYes (mOp ixD (mPk 2) (mC (.int 1))) (b.ts.map trD) β = some (b.ts.map (fun t => .str t.pt), β) :=
    lcGo_map trD (fun t => .str t.pt) b.ts fun t _ => ⟨_, rfl, rfl, rfl⟩
  have l2 : mLst (mLc1 (mC (.str "own")) (mLs (mFz (mLc [2] (mIt (mOp ixD (mPk 0) (mC (.int 3)))) (mGn 2) mYes (mOp ixD (mPk 2) (mC (.int 1))))) mLn)) [.v (bkD b), .no, .no] β = some (.list (((("own" : Str) :: b.ts.map (·.pt))).map .str), β) := by
    refine (mLst_ok (mLc1_ok (β1 := β) (d := .str "own") rfl (mLs_ok (β1 := β) (mFz_ok (mLc_ok (β1 := β) (vs := [2]) (ρ := [.v (bkD b), .no, .no]) (mIt_ok (β1 := β) (d := .tuple (b.ts.map trD)) rfl rfl) l1 (by rw [List.length_map, szN]; omega))) rfl rfl)) (by rw [List.append_nil, List.length_cons, List.length_map, szN]; omega)).trans ?_
    rw [List.append_nil, List.map_cons, List.map_map]
    rfl
  have l3 : mDc [1] (mIt (mLst (mLc1 (mC (.str "own")) (mLs (mFz (mLc [2] (mIt (mOp ixD (mPk 0) (mC (.int 3)))) (mGn 2) mYes (mOp ixD (mPk 2) (mC (.int 1))))) mLn)))) (mGn 1) mYes (mNm 1) (mC (.bool true)) [.v (bkD b), .no, .no] β = some (kvC (bearS b.ts) (.bool true), β) := by
    unfold mDc
    rw [mIt_ok l2 rfl]
    simp only [Option.bind_some]
    refine (dc_names (ρ := [.v (bkD b), .no, .no]) (by show 1 < 3; omega) _ [] (by rw [List.length_nil, List.length_cons, List.length_map]; omega)).trans ?_
    rfl
  refine (mTk_ok l3).trans ?_
  rw [List.map_map]
  rfl
theorem mul_rep0 (xs : List D) : mulD (.list xs) (.int 0) = some (.list []) := by
  unfold mulD mulI i2c repD
  simp only
  rw [if_pos (by rw [decide_eq_true_iff]; refine ⟨by decide, by decide, ?_⟩; show xs.length * 0 ≤ _; omega)]
  rfl
theorem mul_rep1 (xs : List D) (h : xs.length ≤ sizeLine) : mulD (.list xs) (.int 1) = some (.list xs) := by
  unfold mulD mulI i2c repD
  simp only
  rw [if_pos (by rw [decide_eq_true_iff]; refine ⟨by decide, by decide, ?_⟩; show xs.length * 1 ≤ _; omega)]
  show some (PyData.list (List.replicate 1 xs).flatten) = _
  rw [List.replicate_one, List.flatten_singleton]
theorem add_dedupe {x : Str} {ns : List Str} (hx : ok x) (hn : ∀ y ∈ ns, ok y) (hl : ns.length ≤ 1000000) {e1 e2 : ME} {ρ : List Slot} {β : Bag} (h1 : e1 ρ β = some (.list (ns.map .str), β)) (h2 : e2 ρ β = some (.str x, β)) : mOp addD e1 (mOp mulD (mLst (mLc1 e2 mLn)) (mF M.intD (mOp (inD true) e2 e1))) ρ β = some (.list ((addS ns x).map .str), β) := by
  have hi := mF_ok (f := M.intD) (mOp_ok (f := inD true) (β1 := β) h2 h1 (inD_str rfl hx hn)) rfl
  have hs : mLst (mLc1 e2 mLn) ρ β = some (.list [.str x], β) := mLst_ok (mLc1_ok h2 rfl) (by rw [szN]; exact (by decide : 1 ≤ 16777216))
  by_cases hm : x ∈ ns
  · rw [decide_eq_true hm] at hi
    refine (mOp_ok h1 (mOp_ok hs hi (mul_rep0 _)) (addD_lst (by rw [List.length_map, List.length_nil, szN]; omega))).trans ?_
    unfold addS
    rw [if_pos hm, List.append_nil]
  · rw [decide_eq_false hm] at hi
    refine (mOp_ok h1 (mOp_ok hs hi (mul_rep1 _ (by rw [szN]; exact (by decide : 1 ≤ 16777216)))) (addD_lst (by rw [List.length_map, List.length_singleton, szN]; omega))).trans ?_
    unfold addS
    rw [if_neg hm, List.map_append]
    rfl
theorem ev_law_bearers {b : Bk} (h : BkOk b) (β : Bag) : m_law_bearers [.v (bkD b)] β = some (.list ((bearS b.ts).map .str), β) := by
  have htl := h.tl
  unfold m_law_bearers b_law_bearers
  let I : Nat → List Slot → Bag → Prop := fun k ρ β' => β' = β ∧ ∃ s2, ρ = [.v (bkD b), .v (.list ((((b.ts.take k).map (·.pt)).foldl addS ["own"]).map .str)), s2]
  have S1 : mSet 1 (mXv (mLst (mLc1 (mC (.str "own")) mLn))) ([.v (bkD b)] ++ List.replicate 2 .no) β = some (.nx, [.v (bkD b), .v (.list ((["own"] : List Str).map .str)), .no], β) := mSet_ok (mLst_ok (β1 := β) rfl (by rw [szN]; exact (by decide : 1 ≤ 16777216)))
  obtain ⟨ρ', β', h1, rfl, s2, rfl⟩ := for_inv (mg := mGn 2) (mb := (mSet 1 (mXv (mOp addD (mPk 1) (mOp mulD (mLst (mLc1 (mOp ixD (mPk 2) (mC (.int 1))) mLn)) (mF M.intD (mOp (inD true) (mOp ixD (mPk 2) (mC (.int 1))) (mPk 1)))))))) I (b.ts.map trD) 0 [.v (bkD b), .v (.list ((["own"] : List Str).map .str)), .no] β ⟨rfl, .no, rfl⟩ (by
    rintro i d ρ β' hd ⟨rfl, s2, rfl⟩
    rw [Nat.zero_add] at *
    rw [List.getElem?_map] at hd
    obtain ⟨t, ht, rfl⟩ := Option.map_eq_some_iff.mp hd
    have htm := List.mem_of_getElem? ht
    have hi := (List.getElem?_eq_some_iff.mp ht).1
    have hacc : ∀ y ∈ ((b.ts.take i).map (·.pt)).foldl addS ["own"], ok y := bearS_ok fun t ht => h.ts t (List.mem_of_mem_take ht)
    have hlen := bearS_len (b.ts.take i)
    unfold bearS at hlen
    rw [List.length_take] at hlen
    refine ⟨_, _, β', rfl, mSet_ok (add_dedupe (x := t.pt) (ns := ((b.ts.take i).map (·.pt)).foldl addS ["own"]) (h.ts t htm).pt hacc (by omega) rfl rfl), rfl, .v (trD t), ?_⟩
    rw [List.take_add_one, ht, List.map_append, List.foldl_append]
    rfl)
  rw [Nat.zero_add, List.length_map, List.take_length] at h1
  exact fn_rt (seq_nx S1 (seq_nx ((mFor_ok (mIt_ok (β1 := β') (d := .tuple (b.ts.map trD)) rfl rfl)).trans h1) (mRet_ok rfl)))
end K31
namespace K31
open PySem PySem.Spec PyProof.Rows L2 M
/-! ### what a treaty takes -/
def mnI (i j : Int) : Int := if j < i then j else i
def mxI (i j : Int) : Int := if j > i then j else i
theorem minD_mn (i j : Int) : minD (.int i) (.int j) = some (.int (mnI i j)) := rfl
theorem maxD_mx (i j : Int) : maxD (.int i) (.int j) = some (.int (mxI i j)) := rfl
def abv (t : Tr) (x : Int) : Int := mnI t.fs (mxI 0 (x - t.sc))
def mostI (t : Tr) : Int := if t.so = "stop" then t.fs + t.sc else t.lm.getD 0
def partI (t : Tr) (held : Int) : Int := if t.so = "layer" then abv t held else (t.fs * held).fdiv t.sc
def takenF (t : Tr) (used held : Int) : Int × Int :=
  if t.so = "stop" then (abv t (used + held) - abv t used, mnI (used + held) (t.fs + t.sc))
  else match t.lm with
    | none => (partI t held, used)
    | some l => (mnI (partI t held) (l - used), used + mnI (partI t held) (l - used))
theorem ix_t1 (t : Tr) : ixD (trD t) (.int 1) = some (.str t.pt) := rfl
theorem ix_t2 (t : Tr) : ixD (trD t) (.int 2) = some (.str t.so) := rfl
theorem ix_t3 (t : Tr) : ixD (trD t) (.int 3) = some (.str t.src) := rfl
theorem ix_t4 (t : Tr) : ixD (trD t) (.int 4) = some (.int t.fs) := rfl
theorem ix_t5 (t : Tr) : ixD (trD t) (.int 5) = some (.int t.sc) := rfl
theorem ix_t6 (t : Tr) : ixD (trD t) (.int 6) = some (limD t.lm) := rfl
theorem ix_t7 (t : Tr) : ixD (trD t) (.int 7) = some (strT t.on) := rfl
theorem isN_lim (o : Option Int) : isND (limD o) .none = some (.bool o.isNone) := by cases o <;> rfl
theorem notN_lim (o : Option Int) : notND (limD o) .none = some (.bool (!o.isNone)) := by cases o <;> rfl
theorem ev_above (t : Tr) (x : Int) (β : Bag) : m_above [.v (trD t), .v (.int x)] β = some (.int (abv t x), β) := by
  unfold m_above b_above
  exact fn_rt (ρ' := [.v (trD t), .v (.int x)]) (mRet_ok rfl)
theorem so_test {t : Tr} (h : TrOk t) {x : Str} (hx : ok x) {m : ME} {ρ : List Slot} {β : Bag} (hm : m ρ β = some (.str t.so, β)) : mTest (mOp eqD m (mC (.str x))) ρ β = some (decide (t.so = x), β) :=
  mTest_ok (mOp_ok hm rfl (eqD_str h.so hx))
theorem ev_most_used {t : Tr} (h : TrOk t) (β : Bag) : m_most_used [.v (trD t)] β = some (.int (mostI t), β) := by
  unfold m_most_used b_most_used mostI
  have ht := so_test h ok_stop (m := mOp ixD (mPk 0) (mC (.int 2))) (ρ := [.v (trD t)]) (β := β) rfl
  by_cases hs : t.so = "stop"
  · rw [if_pos hs]
    exact fn_rt (ρ' := [.v (trD t)]) (seq_rt ((mIfS_t (ht.trans (by rw [decide_eq_true hs]))).trans (mRet_ok rfl)))
  · rw [if_neg hs]
    refine fn_rt (ρ' := [.v (trD t)]) (seq_nx ((mIfS_f (ht.trans (by rw [decide_eq_false hs]))).trans rfl) (mRet_ok ?_))
    have hn : mTest (mOp isND (mOp ixD (mPk 0) (mC (.int 6))) (mC .none)) [.v (trD t)] β = some (t.lm.isNone, β) := mTest_ok (mOp_ok (β1 := β) (β2 := β) (d := limD t.lm) rfl rfl (isN_lim _))
    cases hl : t.lm with
    | none => exact (mIf_t (hn.trans (by rw [hl]; rfl))).trans rfl
    | some l =>
      refine (mIf_f (hn.trans (by rw [hl]; rfl))).trans ?_
      exact mOp_ok (β1 := β) (β2 := β) (d := trD t) rfl rfl (by rw [ix_t6, hl]; rfl)
theorem ev_law_most_used {t : Tr} (h : TrOk t) (β : Bag) : m_law_most_used [.v (trD t)] β = some (.int (mostI t), β) := by
  unfold m_law_most_used b_law_most_used mostI
  have ht := so_test h ok_stop (m := mOp ixD (mPk 0) (mC (.int 2))) (ρ := [.v (trD t)]) (β := β) rfl
  refine fn_rt (ρ' := [.v (trD t)]) (mRet_ok ?_)
  by_cases hs : t.so = "stop"
  · rw [if_pos hs]
    exact (mIf_t (ht.trans (by rw [decide_eq_true hs]))).trans rfl
  · rw [if_neg hs]
    refine (mIf_f (ht.trans (by rw [decide_eq_false hs]))).trans ?_
    have hn : mTest (mOp isND (mOp ixD (mPk 0) (mC (.int 6))) (mC .none)) [.v (trD t)] β = some (t.lm.isNone, β) := mTest_ok (mOp_ok (β1 := β) (β2 := β) (d := limD t.lm) rfl rfl (isN_lim _))
    cases hl : t.lm with
    | none => exact (mIf_t (hn.trans (by rw [hl]; rfl))).trans rfl
    | some l =>
      refine (mIf_f (hn.trans (by rw [hl]; rfl))).trans ?_
      exact mOp_ok (β1 := β) (β2 := β) (d := trD t) rfl rfl (by rw [ix_t6, hl]; rfl)
theorem div_ok {t : Tr} (h : TrOk t) (h1 : t.so ≠ "stop") (h2 : t.so ≠ "layer") (held : Int) {e1 e2 e3 : ME} {ρ : List Slot} {β : Bag} (q1 : e1 ρ β = some (.int t.fs, β)) (q2 : e2 ρ β = some (.int held, β)) (q3 : e3 ρ β = some (.int t.sc, β)) : mOp fdivD (mF M.intD (mOp mulD e1 e2)) e3 ρ β = some (.int ((t.fs * held).fdiv t.sc), β) := by
  have hf := h.fs
  have hs := h.sc
  have h3 := h.shr h1 h2
  exact mOp_ok (mF_ok (mOp_ok q1 q2 (mulD_sm (.inl (by omega)))) rfl) q3 (fdivD_int ⟨by omega, by omega⟩)
theorem ev_taken {t : Tr} (h : TrOk t) (used held : Int) (β : Bag) : m_taken [.v (trD t), .v (.int used), .v (.int held)] β = some (.tuple [.int (takenF t used held).1, .int (takenF t used held).2], β) := by
  unfold m_taken b_taken takenF
  let ρ0 : List Slot := [.v (trD t), .v (.int used), .v (.int held), .no, .no]
  have two : ∀ {a b : D}, [a, b].length ≤ sizeLine := by intro a b; rw [szN]; exact (by decide : 2 ≤ 16777216)
  have ht := so_test h ok_stop (m := mOp ixD (mPk 0) (mC (.int 2))) (ρ := ρ0) (β := β) rfl
  by_cases hs : t.so = "stop"
  · rw [if_pos hs]
    have hm : mostI t = t.fs + t.sc := by unfold mostI; rw [if_pos hs]
    let ρ1 : List Slot := [.v (trD t), .v (.int used), .v (.int held), .v (.int (mnI (used + held) (t.fs + t.sc))), .no]
    refine fn_rt (ρ' := ρ1) (seq_rt ((mIfS_t (ht.trans (by rw [decide_eq_true hs]))).trans (seq_nx (ρ1 := ρ1) (β1 := β) (mSet_ok (mOp_ok (β1 := β) (β2 := β) (d := .int (used + held)) rfl (mCall_ok (β1 := β) (ss := [.v (trD t)]) rfl (ev_most_used h β)) (by rw [hm]; rfl))) (mRet_ok ?_))))
    exact mTup_ok (mLc1_ok (β1 := β) (mOp_ok (mCall_ok (β1 := β) (ss := [.v (trD t), .v (.int (used + held))]) rfl (ev_above t _ β)) (mCall_ok (β1 := β) (ss := [.v (trD t), .v (.int used)]) rfl (ev_above t _ β)) rfl) (mLc1_ok (β1 := β) (β2 := β) rfl rfl)) two
  rw [if_neg hs]
  have G1 : ∀ {ms : MS}, (mIfS (mTest (mOp eqD (mOp ixD (mPk 0) (mC (.int 2))) (mC (.str "stop")))) ms (fun ρ β => some (.nx, ρ, β))) ρ0 β = some (.nx, ρ0, β) := mIfS_f (ht.trans (by rw [decide_eq_false hs]))
  have hy := so_test h ok_layer (m := mOp ixD (mPk 0) (mC (.int 2))) (ρ := ρ0) (β := β) rfl
  let ρ2 : List Slot := [.v (trD t), .v (.int used), .v (.int held), .no, .v (.int (partI t held))]
  have G2 : (mIfS (mTest (mOp eqD (mOp ixD (mPk 0) (mC (.int 2))) (mC (.str "layer")))) (mSet 4 (mXv (mCall m_above (mAv (mNm 0) (mAv (mNm 2) mAn))))) (mSet 4 (mXv (mOp fdivD (mF M.intD (mOp mulD (mOp ixD (mPk 0) (mC (.int 4))) (mPk 2))) (mOp ixD (mPk 0) (mC (.int 5))))))) ρ0 β = some (.nx, ρ2, β) := by
    by_cases hl : t.so = "layer"
    · refine (mIfS_t (hy.trans (by rw [decide_eq_true hl]))).trans ((mSet_ok (mCall_ok (β1 := β) (ss := [.v (trD t), .v (.int held)]) rfl (ev_above t _ β))).trans ?_)
      have : partI t held = abv t held := by unfold partI; rw [if_pos hl]
      rw [← this]
      rfl
    · refine (mIfS_f (hy.trans (by rw [decide_eq_false hl]))).trans ((mSet_ok (div_ok h hs hl held rfl rfl rfl)).trans ?_)
      have : partI t held = (t.fs * held).fdiv t.sc := by unfold partI; rw [if_neg hl]
      rw [← this]
      rfl
  have hn : mTest (mOp isND (mOp ixD (mPk 0) (mC (.int 6))) (mC .none)) ρ2 β = some (t.lm.isNone, β) := mTest_ok (mOp_ok (β1 := β) (β2 := β) (d := limD t.lm) rfl rfl (isN_lim _))
  cases hl : t.lm with
  | none =>
    exact fn_rt (ρ' := ρ2) (seq_nx G1 (seq_nx G2 (seq_rt ((mIfS_t (hn.trans (by rw [hl]; rfl))).trans (mRet_ok (mTup_ok (β1 := β) (ds := [.int (partI t held), .int used]) rfl two))))))
  | some l =>
    have h6 : mOp ixD (mPk 0) (mC (.int 6)) ρ2 β = some (.int l, β) := mOp_ok (β1 := β) (β2 := β) (d := trD t) rfl rfl (by rw [ix_t6, hl]; rfl)
    let ρ3 : List Slot := [.v (trD t), .v (.int used), .v (.int held), .no, .v (.int (mnI (partI t held) (l - used)))]
    have G4 : mSet 4 (mXv (mOp minD (mPk 4) (mOp subD (mOp ixD (mPk 0) (mC (.int 6))) (mPk 1)))) ρ2 β = some (.nx, ρ3, β) := mSet_ok (mOp_ok (β1 := β) (β2 := β) (d := .int (partI t held)) rfl (mOp_ok (β2 := β) h6 rfl rfl) rfl)
    exact fn_rt (ρ' := ρ3) (seq_nx G1 (seq_nx G2 (seq_nx ((mIfS_f (hn.trans (by rw [hl]; rfl))).trans rfl) (seq_nx G4 (mRet_ok (mTup_ok (β1 := β) (ds := [.int (mnI (partI t held) (l - used)), .int (used + mnI (partI t held) (l - used))]) rfl two))))))
/-! ### what all bear -/
abbrev Acc : Type := (Str → Int) × List Int × List Int
def stepB (k : Str) (a : Acc) (z : Tr × Int) : Acc :=
  let q := if k ∈ z.1.on then takenF z.1 z.2 (a.1 z.1.src) else (0, z.2)
  let f1 := updF a.1 z.1.src (a.1 z.1.src - q.1)
  (updF f1 z.1.pt (f1 z.1.pt + q.1), a.2.1 ++ [q.2], a.2.2 ++ [q.1])
def acc0 (sz : Int) : Acc := (updF (fun _ => 0) "own" sz, [], [])
def runB (b : Bk) (st : List Int) (k : Str) (sz : Int) : Acc := (b.ts.zip st).foldl (stepB k) (acc0 sz)
def paidB (b : Bk) (st : List Int) (k : Str) (sz : Int) : List Int := (bearS b.ts).map (runB b st k sz).1
def usedB (b : Bk) (st : List Int) (k : Str) (sz : Int) : List Int := (runB b st k sz).2.1
def bearD (b : Bk) (st : List Int) (k : Str) (sz : Int) : D := .tuple [iT (paidB b st k sz), iT (usedB b st k sz), iT (runB b st k sz).2.2]
abbrev lossD (k : Str) (sz : Int) : D := .tuple [.str k, .int sz]
theorem mDaug_ok {i : Nat} {fI : Int → Int → Int} {mk mv : ME} {ρ : List Slot} {β : Bag} {ns : List Str} {f : Str → Int} {s : Str} {v : Int} (hk : mk ρ β = some (.str s, β)) (hs : ρ[i]? = some (.dk (kvF ns f))) (hm : s ∈ ns) (hv : mv ρ β = some (.int v, β)) (hl : ns.length ≤ 1000) : mDaug i fI mk mv ρ β = some (.nx, ρ.set i (.dk (kvF ns (updF f s (fI (f s) v)))), β) := by
  have e3 : keyD (.str s) = some (.inr s) := rfl
  unfold mDaug
  rw [hk]
  simp only [Option.bind_some, hs, slotK, e3, getF hm, hv, i2]
  rw [if_pos (by rw [List.length_map, szN]; omega), putF hm]
theorem mDput_ok {i : Nat} {mk mv : ME} {ρ : List Slot} {β : Bag} {ns : List Str} {f : Str → Int} {s : Str} {v : Int} (hk : mk ρ β = some (.str s, β)) (hs : ρ[i]? = some (.dk (kvF ns f))) (hm : s ∈ ns) (hv : mv ρ β = some (.int v, β)) (hl : ns.length ≤ 1000) : mDput i mk mv ρ β = some (.nx, ρ.set i (.dk (kvF ns (updF f s v))), β) := by
  have e3 : keyD (.str s) = some (.inr s) := rfl
  unfold mDput
  rw [hv]
  simp only [Option.bind_some, hs, slotK, e3, hk]
  rw [if_pos (by rw [List.length_map, szN]; omega), putF hm]
theorem mDg_ok {i : Nat} {m : ME} {ρ : List Slot} {β : Bag} {ns : List Str} {f : Str → Int} {s : Str} (hk : m ρ β = some (.str s, β)) (hs : ρ[i]? = some (.dk (kvF ns f))) (hm : s ∈ ns) : mDg i m ρ β = some (.int (f s), β) := by
  have e3 : keyD (.str s) = some (.inr s) := rfl
  unfold mDg
  rw [hk]
  simp only [Option.bind_some, hs, slotK, e3, getF hm, Option.map_some]
theorem mApp_ok {i : Nat} {m : ME} {ρ : List Slot} {β β1 : Bag} {ds : List D} {d : D} (h : m ρ β = some (d, β1)) (hs : ρ[i]? = some (.own ds)) (hl : ds.length < sizeLine) : mApp i m ρ β = some (.nx, ρ.set i (.own (ds ++ [d])), β1) := by
  unfold mApp
  rw [h]
  simp only [Option.bind_some, hs, slotO]
  rw [if_pos hl]
theorem foldB_len (k : Str) : ∀ (zs : List (Tr × Int)) (a : Acc), (zs.foldl (stepB k) a).2.1.length = a.2.1.length + zs.length ∧ (zs.foldl (stepB k) a).2.2.length = a.2.2.length + zs.length
  | [], a => ⟨rfl, rfl⟩
  | z :: r, a => by
    have := foldB_len k r (stepB k a z)
    rw [List.foldl_cons, List.length_cons]
    have e1 : (stepB k a z).2.1.length = a.2.1.length + 1 := by show (a.2.1 ++ [_]).length = _; rw [List.length_append]; rfl
    have e2 : (stepB k a z).2.2.length = a.2.2.length + 1 := by show (a.2.2 ++ [_]).length = _; rw [List.length_append]; rfl
    rw [e1, e2] at this
    exact ⟨by omega, by omega⟩
theorem zipB_map : ∀ (ts : List Tr) (st : List Int), List.zipWith pairD (ts.map trD) (st.map .int) = (ts.zip st).map fun z => pairD (trD z.1) (.int z.2)
  | [], _ => rfl
  | t :: ts, [] => rfl
  | t :: ts, s :: st => by simp only [List.map_cons, List.zipWith_cons_cons, List.zip_cons_cons, zipB_map ts st]
theorem mPar3_ok {i j l : Nat} {x1 x2 x3 : MX} {ρ : List Slot} {β β1 β2 β3 : Bag} {a b c : Slot} (h1 : x1 ρ β = some (a, β1)) (h2 : x2 ρ β1 = some (b, β2)) (h3 : x3 ρ β2 = some (c, β3)) : mPar3 i j l x1 x2 x3 ρ β = some (.nx, ((ρ.set i a).set j b).set l c, β3) := by
  simp only [mPar3, h1, h2, h3, Option.bind_some, Option.map_some]
abbrev aoR (b : Bk) (st : List Int) (k : Str) (sz : Int) (a : Acc) (s6 s7 s8 s9 : Slot) : List Slot := [.v (bkD b), .v (iT st), .v (lossD k sz), .dk (kvF (bearS b.ts) a.1), .own (a.2.1.map .int), .own (a.2.2.map .int), s6, s7, s8, s9, .no]
theorem ao_step {b : Bk} (h : BkOk b) (st : List Int) {k : Str} (hk : ok k) (sz : Int) (a : Acc) {t : Tr} (ht : t ∈ b.ts) (u : Int) (s8 s9 : Slot) (h1 : a.2.1.length ≤ 1000) (h2 : a.2.2.length ≤ 1000) (β : Bag) : (mSeq (mAsg (mIf (mTest (mOp (inD false) (mOp ixD (mPk 2) (mC (.int 0))) (mOp ixD (mPk 6) (mC (.int 7))))) (mCall m_taken (mAv (mNm 6) (mAv (mNm 7) (mAv (mDg 3 (mOp ixD (mPk 6) (mC (.int 3)))) mAn)))) (mTup (mLc1 (mC (.int 0)) (mLc1 (mNm 7) mLn)))) (mGt 2 (mGcons (mGn 8) (mGcons (mGn 9) mGnil))))
    (mSeq (mDaug 3 (fun i j => i - j) (mOp ixD (mPk 6) (mC (.int 3))) (mNm 8))
    (mSeq (mDaug 3 (fun i j => i + j) (mOp ixD (mPk 6) (mC (.int 1))) (mNm 8))
    (mSeq (mApp 4 (mNm 9))
    (mApp 5 (mNm 8)))))) (aoR b st k sz a (.v (trD t)) (.v (.int u)) s8 s9) β = some (.nx, aoR b st k sz (stepB k a (t, u)) (.v (trD t)) (.v (.int u)) (.v (.int (if k ∈ t.on then takenF t u (a.1 t.src) else (0, u)).1)) (.v (.int (if k ∈ t.on then takenF t u (a.1 t.src) else (0, u)).2)), β) := by
  have hto := h.ts t ht
  have hsr := h.src t ht
  have hpt := bearS_pt ht
  have hbl := bearS_len b.ts
  have htl := h.tl
  generalize hq : (if k ∈ t.on then takenF t u (a.1 t.src) else (0, u)) = q
  have two : ∀ {a b : D}, [a, b].length ≤ sizeLine := by intro a b; rw [szN]; exact (by decide : 2 ≤ 16777216)
  let ρ0 := aoR b st k sz a (.v (trD t)) (.v (.int u)) s8 s9
  have hin : mTest (mOp (inD false) (mOp ixD (mPk 2) (mC (.int 0))) (mOp ixD (mPk 6) (mC (.int 7)))) ρ0 β = some (decide (k ∈ t.on), β) := mTest_ok (mOp_ok (β1 := β) (β2 := β) (d := .str k) (e := strT t.on) rfl rfl (inD_str rfl hk hto.on))
  have hv : (mIf (mTest (mOp (inD false) (mOp ixD (mPk 2) (mC (.int 0))) (mOp ixD (mPk 6) (mC (.int 7))))) (mCall m_taken (mAv (mNm 6) (mAv (mNm 7) (mAv (mDg 3 (mOp ixD (mPk 6) (mC (.int 3)))) mAn)))) (mTup (mLc1 (mC (.int 0)) (mLc1 (mNm 7) mLn)))) ρ0 β = some (.tuple [.int q.1, .int q.2], β) := by
    by_cases hko : k ∈ t.on
    · rw [if_pos hko] at hq
      refine (mIf_t (hin.trans (by rw [decide_eq_true hko]))).trans ?_
      rw [← hq]
      exact mCall_ok (β1 := β) (ss := [.v (trD t), .v (.int u), .v (.int (a.1 t.src))]) (mAv_ok (β1 := β) rfl (mAv_ok (β1 := β) rfl (mAv_ok (β1 := β) (mDg_ok (ns := bearS b.ts) (f := a.1) (s := t.src) rfl rfl hsr) rfl))) (ev_taken hto u _ β)
    · rw [if_neg hko] at hq
      refine (mIf_f (hin.trans (by rw [decide_eq_false hko]))).trans ?_
      rw [← hq]
      exact mTup_ok (β1 := β) rfl two
  let ρ1 := aoR b st k sz a (.v (trD t)) (.v (.int u)) (.v (.int q.1)) (.v (.int q.2))
  let f1 := updF a.1 t.src (a.1 t.src - q.1)
  let f2 := updF f1 t.pt (f1 t.pt + q.1)
  have S1 : mAsg _ (mGt 2 (mGcons (mGn 8) (mGcons (mGn 9) mGnil))) ρ0 β = some (.nx, ρ1, β) := mAsg_ok hv rfl
  let ρ2 := aoR b st k sz (f1, a.2) (.v (trD t)) (.v (.int u)) (.v (.int q.1)) (.v (.int q.2))
  let ρ3 := aoR b st k sz (f2, a.2) (.v (trD t)) (.v (.int u)) (.v (.int q.1)) (.v (.int q.2))
  have S2 : mDaug 3 (fun i j => i - j) (mOp ixD (mPk 6) (mC (.int 3))) (mNm 8) ρ1 β = some (.nx, ρ2, β) := mDaug_ok (ns := bearS b.ts) (f := a.1) (s := t.src) (v := q.1) rfl rfl hsr rfl (by omega)
  have S3 : mDaug 3 (fun i j => i + j) (mOp ixD (mPk 6) (mC (.int 1))) (mNm 8) ρ2 β = some (.nx, ρ3, β) := mDaug_ok (ns := bearS b.ts) (f := f1) (s := t.pt) (v := q.1) rfl rfl hpt rfl (by omega)
  have S4 : mApp 4 (mNm 9) ρ3 β = some (.nx, aoR b st k sz (f2, a.2.1 ++ [q.2], a.2.2) (.v (trD t)) (.v (.int u)) (.v (.int q.1)) (.v (.int q.2)), β) := by
    refine (mApp_ok (β1 := β) (ds := a.2.1.map .int) (d := .int q.2) rfl rfl (by rw [List.length_map, szN]; omega)).trans ?_
    have : (a.2.1 ++ [q.2]).map PyData.int = a.2.1.map .int ++ [.int q.2] := by rw [List.map_append]; rfl
    rw [← this]
    rfl
  have S5 : mApp 5 (mNm 8) (aoR b st k sz (f2, a.2.1 ++ [q.2], a.2.2) (.v (trD t)) (.v (.int u)) (.v (.int q.1)) (.v (.int q.2))) β = some (.nx, aoR b st k sz (f2, a.2.1 ++ [q.2], a.2.2 ++ [q.1]) (.v (trD t)) (.v (.int u)) (.v (.int q.1)) (.v (.int q.2)), β) := by
    refine (mApp_ok (β1 := β) (ds := a.2.2.map .int) (d := .int q.1) rfl rfl (by rw [List.length_map, szN]; omega)).trans ?_
    have : (a.2.2 ++ [q.1]).map PyData.int = a.2.2.map .int ++ [.int q.1] := by rw [List.map_append]; rfl
    rw [← this]
    rfl
  have he : stepB k a (t, u) = (f2, a.2.1 ++ [q.2], a.2.2 ++ [q.1]) := by
    unfold stepB
    simp only [hq]
    rfl
  rw [he]
  exact seq_nx S1 (seq_nx S2 (seq_nx S3 (seq_nx S4 S5)))
theorem ev_all_of {b : Bk} (h : BkOk b) (st : List Int) {k : Str} (hk : ok k) (sz : Int) (β : Bag) : m_all_of [.v (bkD b), .v (iT st), .v (lossD k sz)] β = some (bearD b st k sz, β) := by
  have hbl := bearS_len b.ts
  have htl := h.tl
  unfold m_all_of b_all_of
  let ρ0 : List Slot := [.v (bkD b), .v (iT st), .v (lossD k sz), .no, .no, .no, .no, .no, .no, .no, .no]
  have D1 : mXk (mDc [10] (mIt (mCall m_bearers (mAv (mNm 0) mAn))) (mGn 10) mYes (mNm 10) (mC (.int 0))) ρ0 β = some (.dk (kvC (bearS b.ts) (.int 0)), β) := by
    have : mDc [10] (mIt (mCall m_bearers (mAv (mNm 0) mAn))) (mGn 10) mYes (mNm 10) (mC (.int 0)) ρ0 β = some (kvC (bearS b.ts) (.int 0), β) := by
      unfold mDc
      rw [mIt_ok (β1 := β) (mCall_ok (β1 := β) (ss := [.v (bkD b)]) rfl (ev_bearers h β)) rfl]
      simp only [Option.bind_some]
      refine (dc_names (ρ := ρ0) (by show 10 < 11; omega) _ [] (by rw [List.length_nil]; omega)).trans ?_
      rw [foldS_self (bearS b.ts) [] (by rw [List.nil_append]; exact bearS_nodup _)]
      rfl
    unfold mXk
    rw [this]
    rfl
  have D2 : ∀ β, mXn (mLd mLn) ρ0 β = some (.own [], β) := fun _ => rfl
  have S1 : mPar3 3 4 5 (mXk (mDc [10] (mIt (mCall m_bearers (mAv (mNm 0) mAn))) (mGn 10) mYes (mNm 10) (mC (.int 0)))) (mXn (mLd mLn)) (mXn (mLd mLn)) ρ0 β = some (.nx, aoR b st k sz (fun _ => 0, [], []) .no .no .no .no, β) := mPar3_ok D1 (D2 β) (D2 β)
  have S2 : mDput 3 (mC (.str "own")) (mOp ixD (mPk 2) (mC (.int 1))) (aoR b st k sz (fun _ => 0, [], []) .no .no .no .no) β = some (.nx, aoR b st k sz (acc0 sz) .no .no .no .no, β) := mDput_ok (ns := bearS b.ts) (f := fun _ => 0) (s := "own") (v := sz) rfl rfl (bearS_own _) rfl (by omega)
  let I : Nat → List Slot → Bag → Prop := fun i ρ β' => β' = β ∧ ∃ s6 s7 s8 s9, ρ = aoR b st k sz (((b.ts.zip st).take i).foldl (stepB k) (acc0 sz)) s6 s7 s8 s9
  obtain ⟨ρ', β', f1, rfl, s6, s7, s8, s9, rfl⟩ := for_inv (mg := mGt 2 (mGcons (mGn 6) (mGcons (mGn 7) mGnil))) (mb := (mSeq (mAsg (mIf (mTest (mOp (inD false) (mOp ixD (mPk 2) (mC (.int 0))) (mOp ixD (mPk 6) (mC (.int 7))))) (mCall m_taken (mAv (mNm 6) (mAv (mNm 7) (mAv (mDg 3 (mOp ixD (mPk 6) (mC (.int 3)))) mAn)))) (mTup (mLc1 (mC (.int 0)) (mLc1 (mNm 7) mLn)))) (mGt 2 (mGcons (mGn 8) (mGcons (mGn 9) mGnil))))
    (mSeq (mDaug 3 (fun i j => i - j) (mOp ixD (mPk 6) (mC (.int 3))) (mNm 8))
    (mSeq (mDaug 3 (fun i j => i + j) (mOp ixD (mPk 6) (mC (.int 1))) (mNm 8))
    (mSeq (mApp 4 (mNm 9))
    (mApp 5 (mNm 8))))))) I ((b.ts.zip st).map fun z => pairD (trD z.1) (.int z.2)) 0 (aoR b st k sz (acc0 sz) .no .no .no .no) β ⟨rfl, .no, .no, .no, .no, rfl⟩ (by
    rintro i d ρ β' hd ⟨rfl, s6, s7, s8, s9, rfl⟩
    rw [Nat.zero_add] at *
    rw [List.getElem?_map] at hd
    obtain ⟨⟨t, u⟩, hz, rfl⟩ := Option.map_eq_some_iff.mp hd
    have hi := (List.getElem?_eq_some_iff.mp hz).1
    rw [List.length_zip] at hi
    have hl := foldB_len k ((b.ts.zip st).take i) (acc0 sz)
    rw [List.length_take, List.length_zip] at hl
    have z0 : (acc0 sz).2.1.length = 0 := rfl
    have z1 : (acc0 sz).2.2.length = 0 := rfl
    rw [z0, z1] at hl
    have he : stepB k (((b.ts.zip st).take i).foldl (stepB k) (acc0 sz)) (t, u) = ((b.ts.zip st).take (i + 1)).foldl (stepB k) (acc0 sz) := by
      rw [List.take_add_one, hz, List.foldl_append]
      rfl
    have q := ao_step h st hk sz (((b.ts.zip st).take i).foldl (stepB k) (acc0 sz)) (List.of_mem_zip (List.mem_of_getElem? hz)).1 u s8 s9 (by omega) (by omega) β'
    rw [he] at q
    exact ⟨_, _, β', rfl, q, rfl, _, _, _, _, rfl⟩)
  rw [Nat.zero_add, List.length_map, List.take_length] at f1
  have hz : mZip (mOp ixD (mPk 0) (mC (.int 3))) (mNm 1) (aoR b st k sz (acc0 sz) .no .no .no .no) β' = some ((b.ts.zip st).map fun z => pairD (trD z.1) (.int z.2), β') := (mZip_ok (β1 := β') (β2 := β') (d := .tuple (b.ts.map trD)) (e := iT st) rfl rfl rfl rfl).trans (by rw [zipB_map])
  refine fn_rt (seq_nx S1 (seq_nx S2 (seq_nx ((mFor_ok hz).trans f1) (mRet_ok (mTup_ok (β1 := β') (ds := [iT (paidB b st k sz), iT (usedB b st k sz), iT (runB b st k sz).2.2]) ?_ ?_)))))
  · have v1 : mVals 3 (aoR b st k sz (runB b st k sz) s6 s7 s8 s9) β' = some (iT (paidB b st k sz), β') := by
      show some (PyData.tuple ((kvF (bearS b.ts) (runB b st k sz).1).map fun kv => kv.2), β') = _
      unfold paidB
      rw [List.map_map, iT, List.map_map]
      rfl
    exact mLc1_ok v1 rfl
  · rw [szN]; exact (by decide : 3 ≤ 16777216)
end K31
namespace K31
open PySem PySem.Spec PyProof.Rows L2 M
/-! ### _law_bear -/
abbrev lbR (b : Bk) (st : List Int) (k : Str) (sz : Int) (a : Acc) (s9 s10 s11 s12 s13 s14 s15 s16 s17 s18 s19 s20 : Slot) : List Slot := [.v (bkD b), .v (iT st), .v (lossD k sz), .v (.str k), .v (.int sz), .v (.list ((bearS b.ts).map .str)), .dk (kvF (bearS b.ts) a.1), .own (a.2.1.map .int), .own (a.2.2.map .int), s9, s10, s11, s12, s13, s14, s15, s16, s17, s18, s19, s20]
abbrev lbT (b : Bk) (st : List Int) (k : Str) (sz : Int) (a : Acc) (i : Nat) (t : Tr) (s18 s19 s20 : Slot) : List Slot := lbR b st k sz a (.v (.int (i : Nat))) (.v (.str t.nm)) (.v (.str t.pt)) (.v (.str t.so)) (.v (.str t.src)) (.v (.int t.fs)) (.v (.int t.sc)) (.v (limD t.lm)) (.v (strT t.on)) s18 s19 s20
abbrev lbIf : MS := (mIfS (mTest (mOp (inD false) (mPk 3) (mPk 17))) (mSeq (mSet 20 (mXv (mDg 6 (mNm 13))))
    (mIfS (mTest (mOp eqD (mPk 12) (mC (.str "stop")))) (mSeq (mSet 19 (mXv (mOp subD (mOp minD (mPk 14) (mOp maxD (mC (.int 0)) (mOp subD (mOp addD (mPk 18) (mPk 20)) (mPk 15)))) (mOp minD (mPk 14) (mOp maxD (mC (.int 0)) (mOp subD (mPk 18) (mPk 15)))))))
    (mSet 18 (mXv (mOp minD (mOp addD (mPk 18) (mPk 20)) (mOp addD (mPk 14) (mPk 15)))))) (mSeq (mSet 19 (mXv (mIf (mTest (mOp eqD (mPk 12) (mC (.str "layer")))) (mOp minD (mPk 14) (mOp maxD (mC (.int 0)) (mOp subD (mPk 20) (mPk 15)))) (mOp fdivD (mF M.intD (mOp mulD (mPk 14) (mPk 20))) (mPk 15)))))
    (mSeq (mSet 19 (mXv (mIf (mTest (mOp isND (mPk 16) (mC .none))) (mNm 19) (mOp minD (mPk 19) (mOp subD (mPk 16) (mPk 18))))))
    (mSet 18 (mXv (mIf (mTest (mOp isND (mPk 16) (mC .none))) (mNm 18) (mOp addD (mPk 18) (mPk 19))))))))) (fun ρ β => some (.nx, ρ, β)))
abbrev lbB : MS := (mSeq (mPar2 18 19 (mXv (mOp ixD (mPk 1) (mPk 9))) (mXv (mC (.int 0))))
    (mSeq lbIf
    (mSeq (mDaug 6 (fun i j => i - j) (mNm 13) (mNm 19))
    (mSeq (mDaug 6 (fun i j => i + j) (mNm 11) (mNm 19))
    (mSeq (mApp 7 (mNm 18))
    (mApp 8 (mNm 19)))))))
theorem lb_if {b : Bk} (h : BkOk b) (st : List Int) {k : Str} (hk : ok k) (sz : Int) (a : Acc) (i : Nat) {t : Tr} (ht : t ∈ b.ts) (u : Int) (s20 : Slot) (β : Bag) : ∃ t20, lbIf (lbT b st k sz a i t (.v (.int u)) (.v (.int 0)) s20) β = some (.nx, lbT b st k sz a i t (.v (.int (if k ∈ t.on then takenF t u (a.1 t.src) else (0, u)).2)) (.v (.int (if k ∈ t.on then takenF t u (a.1 t.src) else (0, u)).1)) t20, β) := by
  have hto := h.ts t ht
  have hsr := h.src t ht
  have hin : mTest (mOp (inD false) (mPk 3) (mPk 17)) (lbT b st k sz a i t (.v (.int u)) (.v (.int 0)) s20) β = some (decide (k ∈ t.on), β) := mTest_ok (mOp_ok (β1 := β) (β2 := β) (d := .str k) (e := strT t.on) rfl rfl (inD_str rfl hk hto.on))
  by_cases hko : k ∈ t.on
  rotate_left
  · rw [if_neg hko]
    exact ⟨s20, (mIfS_f (hin.trans (by rw [decide_eq_false hko]))).trans rfl⟩
  rw [if_pos hko]
  generalize hheld : a.1 t.src = held
  refine ⟨.v (.int held), (mIfS_t (hin.trans (by rw [decide_eq_true hko]))).trans ?_⟩
  let ρ1 := lbT b st k sz a i t (.v (.int u)) (.v (.int 0)) (.v (.int held))
  have S1 : mSet 20 (mXv (mDg 6 (mNm 13))) (lbT b st k sz a i t (.v (.int u)) (.v (.int 0)) s20) β = some (.nx, ρ1, β) := mSet_ok (by rw [← hheld]; exact mDg_ok (ns := bearS b.ts) (f := a.1) (s := t.src) rfl rfl hsr)
  refine seq_nx S1 ?_
  have hst := so_test hto ok_stop (m := mPk 12) (ρ := ρ1) (β := β) rfl
  unfold takenF
  by_cases hs : t.so = "stop"
  · rw [if_pos hs]
    refine (mIfS_t (hst.trans (by rw [decide_eq_true hs]))).trans ?_
    let ρ2 := lbT b st k sz a i t (.v (.int u)) (.v (.int (abv t (u + held) - abv t u))) (.v (.int held))
    refine seq_nx (ρ1 := ρ2) (β1 := β) (mSet_ok (mOp_ok (β1 := β) (β2 := β) (d := .int (abv t (u + held))) (e := .int (abv t u)) rfl rfl rfl)) ?_
    exact mSet_ok (mOp_ok (β1 := β) (β2 := β) (d := .int (u + held)) (e := .int (t.fs + t.sc)) rfl rfl rfl)
  rw [if_neg hs]
  refine (mIfS_f (hst.trans (by rw [decide_eq_false hs]))).trans ?_
  have hly := so_test hto ok_layer (m := mPk 12) (ρ := ρ1) (β := β) rfl
  let ρ3 := lbT b st k sz a i t (.v (.int u)) (.v (.int (partI t held))) (.v (.int held))
  have S3 : mSet 19 (mXv (mIf (mTest (mOp eqD (mPk 12) (mC (.str "layer")))) (mOp minD (mPk 14) (mOp maxD (mC (.int 0)) (mOp subD (mPk 20) (mPk 15)))) (mOp fdivD (mF M.intD (mOp mulD (mPk 14) (mPk 20))) (mPk 15)))) ρ1 β = some (.nx, ρ3, β) := by
    refine mSet_ok (d := .int (partI t held)) ?_
    unfold partI
    by_cases hl : t.so = "layer"
    · rw [if_pos hl]
      exact (mIf_t (hly.trans (by rw [decide_eq_true hl]))).trans rfl
    · rw [if_neg hl]
      exact (mIf_f (hly.trans (by rw [decide_eq_false hl]))).trans (div_ok hto hs hl held rfl rfl rfl)
  refine seq_nx S3 ?_
  have hn : ∀ x, mTest (mOp isND (mPk 16) (mC .none)) (lbT b st k sz a i t (.v (.int u)) x (.v (.int held))) β = some (t.lm.isNone, β) := fun x => mTest_ok (mOp_ok (β1 := β) (β2 := β) (d := limD t.lm) rfl rfl (isN_lim _))
  cases hl : t.lm with
  | none =>
    refine seq_nx (ρ1 := ρ3) (β1 := β) (mSet_ok ((mIf_t ((hn _).trans (by rw [hl]; rfl))).trans rfl)) ?_
    exact mSet_ok ((mIf_t ((hn _).trans (by rw [hl]; rfl))).trans rfl)
  | some l =>
    let ρ4 := lbT b st k sz a i t (.v (.int u)) (.v (.int (mnI (partI t held) (l - u)))) (.v (.int held))
    have h16 : mPk 16 ρ3 β = some (.int l, β) := by
      show some (limD t.lm, β) = _
      rw [hl]
      rfl
    refine seq_nx (ρ1 := ρ4) (β1 := β) (mSet_ok ((mIf_f ((hn _).trans (by rw [hl]; rfl))).trans (mOp_ok (β1 := β) (d := .int (partI t held)) rfl (mOp_ok (β2 := β) h16 rfl rfl) rfl))) ?_
    exact mSet_ok ((mIf_f ((hn _).trans (by rw [hl]; rfl))).trans rfl)
theorem lb_step {b : Bk} (h : BkOk b) (st : List Int) {k : Str} (hk : ok k) (sz : Int) (a : Acc) (i : Nat) {t : Tr} (ht : t ∈ b.ts) (u : Int) (hu : st[i]? = some u) (s18 s19 s20 : Slot) (h1 : a.2.1.length ≤ 1000) (h2 : a.2.2.length ≤ 1000) (β : Bag) : ∃ t18 t19 t20, lbB (lbT b st k sz a i t s18 s19 s20) β = some (.nx, lbT b st k sz (stepB k a (t, u)) i t t18 t19 t20, β) := by
  have hto := h.ts t ht
  have hsr := h.src t ht
  have hpt := bearS_pt ht
  have hbl := bearS_len b.ts
  have htl := h.tl
  have S1 : mPar2 18 19 (mXv (mOp ixD (mPk 1) (mPk 9))) (mXv (mC (.int 0))) (lbT b st k sz a i t s18 s19 s20) β = some (.nx, lbT b st k sz a i t (.v (.int u)) (.v (.int 0)) s20, β) :=
    mPar2_ok (β1 := β) (β2 := β) (d := .int u) (e := .int 0) (mOp_ok (β1 := β) (β2 := β) (d := iT st) (e := .int i) rfl rfl (atI_nat' (by rw [List.getElem?_map, hu]; rfl))) rfl
  obtain ⟨t20, S2⟩ := lb_if h st hk sz a i ht u s20 β
  generalize hq : (if k ∈ t.on then takenF t u (a.1 t.src) else (0, u)) = q at S2
  let f1 := updF a.1 t.src (a.1 t.src - q.1)
  let f2 := updF f1 t.pt (f1 t.pt + q.1)
  let ρ2 := lbT b st k sz (f1, a.2) i t (.v (.int q.2)) (.v (.int q.1)) t20
  let ρ3 := lbT b st k sz (f2, a.2) i t (.v (.int q.2)) (.v (.int q.1)) t20
  have S3 : mDaug 6 (fun i j => i - j) (mNm 13) (mNm 19) (lbT b st k sz a i t (.v (.int q.2)) (.v (.int q.1)) t20) β = some (.nx, ρ2, β) := mDaug_ok (ns := bearS b.ts) (f := a.1) (s := t.src) (v := q.1) rfl rfl hsr rfl (by omega)
  have S4 : mDaug 6 (fun i j => i + j) (mNm 11) (mNm 19) ρ2 β = some (.nx, ρ3, β) := mDaug_ok (ns := bearS b.ts) (f := f1) (s := t.pt) (v := q.1) rfl rfl hpt rfl (by omega)
  let ρ4 := lbT b st k sz (f2, a.2.1 ++ [q.2], a.2.2) i t (.v (.int q.2)) (.v (.int q.1)) t20
  have S5 : mApp 7 (mNm 18) ρ3 β = some (.nx, ρ4, β) := by
    refine (mApp_ok (β1 := β) (ds := a.2.1.map .int) (d := .int q.2) rfl rfl (by rw [List.length_map, szN]; omega)).trans ?_
    have : (a.2.1 ++ [q.2]).map PyData.int = a.2.1.map .int ++ [.int q.2] := by rw [List.map_append]; rfl
    rw [← this]
    rfl
  have S6 : mApp 8 (mNm 19) ρ4 β = some (.nx, lbT b st k sz (f2, a.2.1 ++ [q.2], a.2.2 ++ [q.1]) i t (.v (.int q.2)) (.v (.int q.1)) t20, β) := by
    refine (mApp_ok (β1 := β) (ds := a.2.2.map .int) (d := .int q.1) rfl rfl (by rw [List.length_map, szN]; omega)).trans ?_
    have : (a.2.2 ++ [q.1]).map PyData.int = a.2.2.map .int ++ [.int q.1] := by rw [List.map_append]; rfl
    rw [← this]
    rfl
  have he : stepB k a (t, u) = (f2, a.2.1 ++ [q.2], a.2.2 ++ [q.1]) := by
    unfold stepB
    simp only [hq]
    rfl
  rw [he]
  exact ⟨.v (.int q.2), .v (.int q.1), t20, seq_nx S1 (seq_nx S2 (seq_nx S3 (seq_nx S4 (seq_nx S5 S6))))⟩
theorem pairs_names (ns : List Str) : pairsK (ns.map fun s => PyData.tuple [.str s, .int 0]) = some (kvC ns (.int 0)) := by
  induction ns with
  | nil => rfl
  | cons s r ih =>
    simp only [List.map_cons, pairsK, ih, Option.bind_some, Option.map_some]
    rfl
theorem merge_names : ∀ (xs ns : List Str), mergeA (kvC ns (.int 0)) (kvC xs (.int 0)) = kvC (xs.foldl addS ns) (.int 0)
  | [], ns => rfl
  | x :: r, ns => by
    show mergeA (putA (kvC ns (.int 0)) (.inr x) (.int 0)) (kvC r (.int 0)) = _
    rw [putC, merge_names r, List.foldl_cons]
theorem enum_tr (ts : List Tr) : enumD (ts.map trD) = ts.mapIdx fun i t => pairD (.int (i : Nat)) (trD t) := by
  unfold enumD
  apply List.ext_getElem?
  intro i
  rw [List.getElem?_mapIdx, List.getElem?_mapIdx, List.getElem?_map]
  cases ts[i]? <;> rfl
theorem ev_law_bear {b : Bk} (h : BkOk b) (st : List Int) (hst : st.length = b.ts.length) {k : Str} (hk : ok k) (sz : Int) (β : Bag) : m_law_bear [.v (bkD b), .v (iT st), .v (lossD k sz)] β = some (bearD b st k sz, β) := by
  have hbl := bearS_len b.ts
  have htl := h.tl
  unfold m_law_bear b_law_bear
  let ρ0 : List Slot := [.v (bkD b), .v (iT st), .v (lossD k sz), .no, .no, .no, .no, .no, .no, .no, .no, .no, .no, .no, .no, .no, .no, .no, .no, .no, .no]
  let ρ1 : List Slot := [.v (bkD b), .v (iT st), .v (lossD k sz), .v (.str k), .v (.int sz), .no, .no, .no, .no, .no, .no, .no, .no, .no, .no, .no, .no, .no, .no, .no, .no]
  let ρ2 : List Slot := [.v (bkD b), .v (iT st), .v (lossD k sz), .v (.str k), .v (.int sz), .v (.list ((bearS b.ts).map .str)), .no, .no, .no, .no, .no, .no, .no, .no, .no, .no, .no, .no, .no, .no, .no]
  let ρ3 : List Slot := [.v (bkD b), .v (iT st), .v (lossD k sz), .v (.str k), .v (.int sz), .v (.list ((bearS b.ts).map .str)), .dk (kvC (bearS b.ts) (.int 0)), .no, .no, .no, .no, .no, .no, .no, .no, .no, .no, .no, .no, .no, .no]
  let ρ4 := lbR b st k sz (acc0 sz) .no .no .no .no .no .no .no .no .no .no .no .no
  have S1 : mAsg (mNm 2) (mGt 2 (mGcons (mGn 3) (mGcons (mGn 4) mGnil))) ρ0 β = some (.nx, ρ1, β) := mAsg_ok (β1 := β) rfl rfl
  have S2 : mSet 5 (mXv (mCall m_law_bearers (mAv (mNm 0) mAn))) ρ1 β = some (.nx, ρ2, β) := mSet_ok (mCall_ok (β1 := β) (ss := [.v (bkD b)]) rfl (ev_law_bearers h β))
  have S3 : mSet 6 (mXk (mDp (mFz (mLc [10] (mIt (mNm 5)) (mGn 10) mYes (mTup (mLc1 (mNm 10) (mLc1 (mC (.int 0)) mLn))))))) ρ2 β = some (.nx, ρ3, β) := by
    have l1 : lcGo ρ2 (mGn 10) mYes (mTup (mLc1 (mNm 10) (mLc1 (mC (.int 0)) mLn))) ((bearS b.ts).map .str) β = some ((bearS b.ts).map (fun s => .tuple [.str s, .int 0]), β) :=
      lcGo_map _ _ _ fun s _ => ⟨_, rfl, rfl, mTup_ok (β1 := β) rfl (by rw [szN]; exact (by decide : 2 ≤ 16777216))⟩
    have l2 : mFz (mLc [10] (mIt (mNm 5)) (mGn 10) mYes (mTup (mLc1 (mNm 10) (mLc1 (mC (.int 0)) mLn)))) ρ2 β = some (.list ((bearS b.ts).map (fun s => .tuple [.str s, .int 0])), β) :=
      mFz_ok (mLc_ok (β1 := β) (vs := [10]) (ρ := ρ2) (mIt_ok (β1 := β) (d := .list ((bearS b.ts).map .str)) rfl rfl) l1 (by rw [List.length_map, szN]; omega))
    unfold mSet mXk mDp
    rw [l2]
    simp only [Option.bind_some, pairs_names, Option.map_some]
    have : mergeA [] (kvC (bearS b.ts) (.int 0)) = kvC (bearS b.ts) (.int 0) := by
      have := merge_names (bearS b.ts) []
      rw [foldS_self (bearS b.ts) [] (by rw [List.nil_append]; exact bearS_nodup _)] at this
      exact this
    rw [this]
    rfl
  have S4 : mDpar 6 7 8 (mC (.str "own")) (mNm 4) (mXn (mLd mLn)) (mXn (mLd mLn)) ρ3 β = some (.nx, ρ4, β) := by
    have e1 : mNm 4 ρ3 β = some (.int sz, β) := rfl
    have e2 : mXn (mLd mLn) ρ3 β = some (.own [], β) := rfl
    have e3 : keyD (.str "own") = some (.inr "own") := rfl
    have e4 : mC (.str "own") ρ3 β = some (.str "own", β) := rfl
    have e5 : slotK ρ3[6]? = some (kvF (bearS b.ts) (fun _ => 0)) := rfl
    unfold mDpar
    simp only [e1, e2, e3, e4, e5, Option.bind_some]
    rw [if_pos (by rw [List.length_map, szN]; omega), putF (bearS_own _)]
    rfl
  let I : Nat → List Slot → Bag → Prop := fun i ρ β' => β' = β ∧ ∃ s9 s10 s11 s12 s13 s14 s15 s16 s17 s18 s19 s20, ρ = lbR b st k sz (((b.ts.zip st).take i).foldl (stepB k) (acc0 sz)) s9 s10 s11 s12 s13 s14 s15 s16 s17 s18 s19 s20
  obtain ⟨ρ', β', f1, rfl, s9, s10, s11, s12, s13, s14, s15, s16, s17, s18, s19, s20, rfl⟩ := for_inv (mg := (mGt 2 (mGcons (mGn 9) (mGcons (mGt 8 (mGcons (mGn 10) (mGcons (mGn 11) (mGcons (mGn 12) (mGcons (mGn 13) (mGcons (mGn 14) (mGcons (mGn 15) (mGcons (mGn 16) (mGcons (mGn 17) mGnil))))))))) mGnil)))) (mb := lbB) I (b.ts.mapIdx fun i t => pairD (.int (i : Nat)) (trD t)) 0 ρ4 β ⟨rfl, .no, .no, .no, .no, .no, .no, .no, .no, .no, .no, .no, .no, rfl⟩ (by
    rintro i d ρ β' hd ⟨rfl, s9, s10, s11, s12, s13, s14, s15, s16, s17, s18, s19, s20, rfl⟩
    rw [Nat.zero_add] at *
    rw [List.getElem?_mapIdx] at hd
    obtain ⟨t, ht, rfl⟩ := Option.map_eq_some_iff.mp hd
    have hi := (List.getElem?_eq_some_iff.mp ht).1
    obtain ⟨u, hu⟩ : ∃ u, st[i]? = some u := ⟨st[i]'(by omega), List.getElem?_eq_getElem (by omega)⟩
    have hz : (b.ts.zip st)[i]? = some (t, u) := by
      rw [List.getElem?_zip_eq_some]
      exact ⟨ht, hu⟩
    have hl := foldB_len k ((b.ts.zip st).take i) (acc0 sz)
    rw [List.length_take, List.length_zip] at hl
    have z0 : (acc0 sz).2.1.length = 0 := rfl
    have z1 : (acc0 sz).2.2.length = 0 := rfl
    rw [z0, z1] at hl
    have he : stepB k (((b.ts.zip st).take i).foldl (stepB k) (acc0 sz)) (t, u) = ((b.ts.zip st).take (i + 1)).foldl (stepB k) (acc0 sz) := by
      rw [List.take_add_one, hz, List.foldl_append]
      rfl
    obtain ⟨t18, t19, t20, q⟩ := lb_step h st hk sz (((b.ts.zip st).take i).foldl (stepB k) (acc0 sz)) i (List.mem_of_getElem? ht) u hu s18 s19 s20 (by omega) (by omega) β'
    rw [he] at q
    exact ⟨_, _, β', rfl, q, rfl, _, _, _, _, _, _, _, _, _, _, _, _, rfl⟩)
  have hlz : ((b.ts.zip st).take (0 + (b.ts.mapIdx fun i t => pairD (.int (i : Nat)) (trD t)).length)) = b.ts.zip st := by
    rw [Nat.zero_add, List.length_mapIdx]
    exact List.take_of_length_le (by rw [List.length_zip]; omega)
  rw [hlz] at f1
  have hen : mEnum (mOp ixD (mPk 0) (mC (.int 3))) ρ4 β' = some (b.ts.mapIdx fun i t => pairD (.int (i : Nat)) (trD t), β') := by
    rw [← enum_tr]
    rfl
  refine fn_rt (seq_nx S1 (seq_nx S2 (seq_nx S3 (seq_nx S4 (seq_nx ((mFor_ok hen).trans f1) (mRet_ok (mTup_ok (β1 := β') (ds := [iT (paidB b st k sz), iT (usedB b st k sz), iT (runB b st k sz).2.2]) ?_ ?_)))))))
  · have v0 : lcGo (lbR b st k sz (runB b st k sz) s9 .no s11 s12 s13 s14 s15 s16 s17 s18 s19 s20) (mGn 10) mYes (mDg 6 (mNm 10)) ((bearS b.ts).map .str) β' = some ((bearS b.ts).map (fun s => .int ((runB b st k sz).1 s)), β') :=
      lcGo_map _ _ _ fun s hs => ⟨_, rfl, rfl, mDg_ok (ns := bearS b.ts) (f := (runB b st k sz).1) (s := s) rfl rfl hs⟩
    have v1 : mF tupOfD (mFz (mLc [10] (mIt (mNm 5)) (mGn 10) mYes (mDg 6 (mNm 10)))) (lbR b st k sz (runB b st k sz) s9 s10 s11 s12 s13 s14 s15 s16 s17 s18 s19 s20) β' = some (iT (paidB b st k sz), β') := by
      refine (mF_ok (mFz_ok (mLc_ok (β1 := β') (vs := [10]) (ρ := lbR b st k sz (runB b st k sz) s9 s10 s11 s12 s13 s14 s15 s16 s17 s18 s19 s20) (mIt_ok (β1 := β') (d := .list ((bearS b.ts).map .str)) rfl rfl) v0 (by rw [List.length_map, szN]; omega))) (tupOfD_lst _)).trans ?_
      unfold paidB
      rw [iT, List.map_map]
      rfl
    exact mLc1_ok v1 rfl
  · rw [szN]; exact (by decide : 3 ≤ 16777216)
end K31
namespace K31
open PySem PySem.Spec PyProof.Rows L2 M
/-! ### paid, behind, losses -/
theorem paidB_len (b : Bk) (st : List Int) (k : Str) (sz : Int) : (paidB b st k sz).length = (bearS b.ts).length := by unfold paidB; rw [List.length_map]
theorem usedB_len {b : Bk} {st : List Int} (hst : st.length = b.ts.length) (k : Str) (sz : Int) : (usedB b st k sz).length = b.ts.length := by
  unfold usedB runB
  have := (foldB_len k (b.ts.zip st) (acc0 sz)).1
  rw [List.length_zip] at this
  have z0 : (acc0 sz).2.1.length = 0 := rfl
  omega
theorem ev_borne_one {b : Bk} (h : BkOk b) (st : List Int) {k : Str} (hk : ok k) (sz : Int) (β : Bag) : m_borne_one [.v (bkD b), .v (iT st), .v (lossD k sz)] β = some (.tuple [iT (paidB b st k sz), iT (usedB b st k sz)], β) := by
  unfold m_borne_one b_borne_one
  refine fn_rt (ρ' := [.v (bkD b), .v (iT st), .v (lossD k sz)]) (mRet_ok (mSl_ok (β1 := β) (β2 := β) (β3 := β) (mCall_ok (β1 := β) (ss := [.v (bkD b), .v (iT st), .v (lossD k sz)]) rfl (ev_all_of h st hk sz β)) rfl (mOs_ok (β1 := β) (i := ((2 : Nat) : Int)) rfl) (slT_b _ 2 (by show 2 ≤ 3; omega))))
theorem ev_paid {b : Bk} (h : BkOk b) (st : List Int) {k : Str} (hk : ok k) (sz : Int) (β : Bag) : m_paid [.v (bkD b), .v (iT st), .v (lossD k sz)] β = some (iT (paidB b st k sz), β) := by
  unfold m_paid b_paid
  exact fn_rt (ρ' := [.v (bkD b), .v (iT st), .v (lossD k sz)]) (mRet_ok (mOp_ok (β1 := β) (β2 := β) (mCall_ok (β1 := β) (ss := [.v (bkD b), .v (iT st), .v (lossD k sz)]) rfl (ev_borne_one h st hk sz β)) rfl rfl))
theorem ev_behind {b : Bk} (h : BkOk b) (st : List Int) {k : Str} (hk : ok k) (sz : Int) (β : Bag) : m_behind [.v (bkD b), .v (iT st), .v (lossD k sz)] β = some (iT (usedB b st k sz), β) := by
  unfold m_behind b_behind
  exact fn_rt (ρ' := [.v (bkD b), .v (iT st), .v (lossD k sz)]) (mRet_ok (mOp_ok (β1 := β) (β2 := β) (mCall_ok (β1 := β) (ss := [.v (bkD b), .v (iT st), .v (lossD k sz)]) rfl (ev_borne_one h st hk sz β)) rfl rfl))
/-- what is paid of all sizes of a kind -/
def paidR (b : Bk) (st : List Int) (k : Str) : List (List Int) := (List.range (b.ms + 1)).map fun (n : Nat) => paidB b st k n
def usedR (b : Bk) (st : List Int) (k : Str) : List (List Int) := (List.range (b.ms + 1)).map fun (n : Nat) => usedB b st k n
theorem paidR_uni (b : Bk) (st : List Int) (k : Str) : Uni (bearS b.ts).length (paidR b st k) := fun x hx => by
  obtain ⟨n, _, rfl⟩ := List.mem_map.mp hx
  exact paidB_len b st k n
theorem usedR_uni {b : Bk} {st : List Int} (hst : st.length = b.ts.length) (k : Str) : Uni b.ts.length (usedR b st k) := fun x hx => by
  obtain ⟨n, _, rfl⟩ := List.mem_map.mp hx
  exact usedB_len hst k n
theorem paidR_len (b : Bk) (st : List Int) (k : Str) : (paidR b st k).length = b.ms + 1 := by unfold paidR; rw [List.length_map, List.length_range]
theorem usedR_len (b : Bk) (st : List Int) (k : Str) : (usedR b st k).length = b.ms + 1 := by unfold usedR; rw [List.length_map, List.length_range]
theorem paidR_ok {b : Bk} (h : BkOk b) (st : List Int) (k : Str) : RowOk (paidR b st k) := ⟨by rw [paidR_len]; have := h.ms; omega, fun x hx => by
  rw [paidR_uni b st k x hx]
  have := bearS_len b.ts
  have := h.tl
  omega⟩
theorem usedR_ok {b : Bk} (h : BkOk b) {st : List Int} (hst : st.length = b.ts.length) (k : Str) : RowOk (usedR b st k) := ⟨by rw [usedR_len]; have := h.ms; omega, fun x hx => by
  rw [usedR_uni hst k x hx]
  have := h.tl
  omega⟩
theorem range_ms (b : Bk) : rangeD 0 ((b.ms : Int) + 1) = (List.range (b.ms + 1)).map fun (n : Nat) => PyData.int n := by
  unfold rangeD
  rw [show ((b.ms : Int) + 1 - 0).toNat = b.ms + 1 by omega]
  apply List.map_congr_left
  intro n _
  rw [Int.zero_add]
theorem sizes_rg {b : Bk} (h : BkOk b) {m : ME} {ρ : List Slot} {β : Bag} (hm : m ρ β = some (bkD b, β)) : mRg1 (mOp addD (mOp ixD m (mC (.int 2))) (mC (.int 1))) ρ β = some ((List.range (b.ms + 1)).map fun (n : Nat) => PyData.int n, β) := by
  have hms := h.ms
  rw [← range_ms]
  exact mRg1_ok (mOp_ok (β1 := β) (β2 := β) (mOp_ok (β1 := β) (β2 := β) hm rfl (ix_b2 b)) rfl rfl) (in62_nat (by omega) (by omega))
theorem ev_paid_pieces {b : Bk} (h : BkOk b) (st : List Int) {k : Str} (hk : ok k) (β : Bag) : m_paid_pieces [.v (bkD b), .v (iT st), .v (.str k)] β = some (pcsD (P (paidR b st k) 0), β) := by
  have hms := h.ms
  unfold m_paid_pieces b_paid_pieces
  let ρ : List Slot := [.v (bkD b), .v (iT st), .v (.str k), .no]
  have l1 : lcGo ρ (mGn 3) mYes (mCall m_paid (mAv (mNm 0) (mAv (mNm 1) (mAv (mTup (mLc1 (mNm 2) (mLc1 (mNm 3) mLn))) mAn)))) ((List.range (b.ms + 1)).map fun (n : Nat) => PyData.int n) β = some ((paidR b st k).map iT, β) := by
    unfold paidR
    rw [List.map_map]
    exact lcGo_map _ _ _ fun n _ => ⟨_, rfl, rfl, mCall_ok (β1 := β) (ss := [.v (bkD b), .v (iT st), .v (lossD k n)]) (mAv_ok (β1 := β) rfl (mAv_ok (β1 := β) rfl (mAv_ok (β1 := β) (mTup_ok (β1 := β) rfl (by rw [szN]; exact (by decide : 2 ≤ 16777216))) rfl))) (ev_paid h st hk n β)⟩
  exact fn_rt (ρ' := ρ) (mRet_ok (mCall_ok (β1 := β) (ss := [.v (rowD (paidR b st k))]) (mAv_ok (β1 := β) (mF_ok (mFz_ok (mLc_ok (vs := [3]) (ρ := ρ) (sizes_rg h rfl) l1 (by rw [List.length_map, paidR_len, szN]; omega))) rfl) rfl) (ev_pieces_of _ β (paidR_ok h st k) (by rw [paidR_len]; omega))))
theorem ev_used_pieces {b : Bk} (h : BkOk b) {st : List Int} (hst : st.length = b.ts.length) {k : Str} (hk : ok k) (β : Bag) : m_used_pieces [.v (bkD b), .v (iT st), .v (.str k)] β = some (pcsD (P (usedR b st k) 0), β) := by
  have hms := h.ms
  unfold m_used_pieces b_used_pieces
  let ρ : List Slot := [.v (bkD b), .v (iT st), .v (.str k), .no]
  have l1 : lcGo ρ (mGn 3) mYes (mCall m_behind (mAv (mNm 0) (mAv (mNm 1) (mAv (mTup (mLc1 (mNm 2) (mLc1 (mNm 3) mLn))) mAn)))) ((List.range (b.ms + 1)).map fun (n : Nat) => PyData.int n) β = some ((usedR b st k).map iT, β) := by
    unfold usedR
    rw [List.map_map]
    exact lcGo_map _ _ _ fun n _ => ⟨_, rfl, rfl, mCall_ok (β1 := β) (ss := [.v (bkD b), .v (iT st), .v (lossD k n)]) (mAv_ok (β1 := β) rfl (mAv_ok (β1 := β) rfl (mAv_ok (β1 := β) (mTup_ok (β1 := β) rfl (by rw [szN]; exact (by decide : 2 ≤ 16777216))) rfl))) (ev_behind h st hk n β)⟩
  exact fn_rt (ρ' := ρ) (mRet_ok (mCall_ok (β1 := β) (ss := [.v (rowD (usedR b st k))]) (mAv_ok (β1 := β) (mF_ok (mFz_ok (mLc_ok (vs := [3]) (ρ := ρ) (sizes_rg h rfl) l1 (by rw [List.length_map, usedR_len, szN]; omega))) rfl) rfl) (ev_pieces_of _ β (usedR_ok h hst k) (by rw [usedR_len]; omega))))
/-! ### all losses -/
def lossesL (b : Bk) : List D := b.ks.flatMap fun k => (List.range (b.ms + 1)).map fun (n : Nat) => lossD k n
theorem flat_len {α β : Type} (f : α → List β) (c : Nat) : ∀ xs : List α, (∀ x ∈ xs, (f x).length ≤ c) → (xs.flatMap f).length ≤ xs.length * c
  | [], _ => by simp
  | x :: r, h => by
    have h1 := h x List.mem_cons_self
    have h2 := flat_len f c r fun y hy => h y (List.mem_cons_of_mem _ hy)
    rw [List.flatMap_cons, List.length_append, List.length_cons, Nat.add_mul]
    omega
theorem losses_len {b : Bk} (h : BkOk b) (ks : List Str) (hk : ks.length ≤ 10) : (ks.flatMap fun k => (List.range (b.ms + 1)).map fun (n : Nat) => lossD k n).length ≤ 1010 := by
  have h1 := flat_len (fun k => (List.range (b.ms + 1)).map fun (n : Nat) => lossD k n) (b.ms + 1) ks fun x _ => by rw [List.length_map, List.length_range]; exact Nat.le_refl _
  have h2 := h.ms
  have h3 : ks.length * (b.ms + 1) ≤ 10 * 101 := Nat.mul_le_mul hk (by omega)
  omega
theorem ev_losses_of {b : Bk} (h : BkOk b) (β : Bag) : m_losses_of [.v (bkD b)] β = some (.tuple (lossesL b), β) := by
  unfold m_losses_of b_losses_of
  let ρ : List Slot := [.v (bkD b), .no, .no]
  have two : ∀ {a b : D}, [a, b].length ≤ sizeLine := by intro a b; rw [szN]; exact (by decide : 2 ≤ 16777216)
  have l1 : lc2Go ρ (mGn 1) mYes (mRg1 (mOp addD (mOp ixD (mPk 0) (mC (.int 2))) (mC (.int 1)))) [2] (mGn 2) mYes (mTup (mLc1 (mNm 1) (mLc1 (mNm 2) mLn))) (b.ks.map PyData.str) β = some ((b.ks.flatMap fun k => (List.range (b.ms + 1)).map fun n => (k, n)).map fun p : Str × Nat => lossD p.1 (p.2 : Nat), β) :=
    lc2Go_map PyData.str (fun k => (List.range (b.ms + 1)).map fun n => (k, n)) (fun p : Str × Nat => PyData.int (p.2 : Nat)) (fun p => lossD p.1 (p.2 : Nat)) b.ks (fun k _ => by
      refine ⟨_, rfl, rfl, ?_, fun p hp => ?_⟩
      · rw [List.map_map]
        exact sizes_rg h rfl
      · obtain ⟨n, _, rfl⟩ := List.mem_map.mp hp
        exact ⟨_, rfl, rfl, mTup_ok (β1 := β) rfl two⟩)
  have e : ((b.ks.flatMap fun k => (List.range (b.ms + 1)).map fun n => (k, n)).map fun p : Str × Nat => lossD p.1 (p.2 : Nat)) = lossesL b := by
    unfold lossesL
    rw [List.map_flatMap]
    congr 1
    funext k
    rw [List.map_map]
    rfl
  rw [e] at l1
  have hl := losses_len h b.ks h.kl
  exact fn_rt (ρ' := ρ) (mRet_ok (mF_ok (mFz_ok (mLc2_ok (vs := [1, 2]) (ρ := ρ) (mIt_ok (β1 := β) (d := strT b.ks) rfl rfl) l1 (by rw [szN]; exact Nat.le_trans hl (by decide)))) rfl))
theorem ev_law_losses {b : Bk} (h : BkOk b) (β : Bag) : m_law_losses [.v (bkD b)] β = some (.list (lossesL b), β) := by
  unfold m_law_losses b_law_losses
  have two : ∀ {a b : D}, [a, b].length ≤ sizeLine := by intro a b; rw [szN]; exact (by decide : 2 ≤ 16777216)
  let I : Nat → List Slot → Bag → Prop := fun i ρ β' => β' = β ∧ ∃ s2, ρ = [.v (bkD b), .v (.list ((b.ks.take i).flatMap fun k => (List.range (b.ms + 1)).map fun (n : Nat) => lossD k n)), s2, .no]
  obtain ⟨ρ', β', f1, rfl, s2, rfl⟩ := for_inv (mg := mGn 2) (mb := (mSet 1 (mXv (mOp addD (mPk 1) (mFz (mLc [3] (mRg1 (mOp addD (mOp ixD (mPk 0) (mC (.int 2))) (mC (.int 1)))) (mGn 3) mYes (mTup (mLc1 (mNm 2) (mLc1 (mNm 3) mLn))))))))) I (b.ks.map .str) 0 [.v (bkD b), .v (.list []), .no, .no] β ⟨rfl, .no, rfl⟩ (by
    rintro i d ρ β' hd ⟨rfl, s2, rfl⟩
    rw [Nat.zero_add] at *
    rw [List.getElem?_map] at hd
    obtain ⟨k, hk, rfl⟩ := Option.map_eq_some_iff.mp hd
    have hms := h.ms
    have hl := losses_len h (b.ks.take i) (by rw [List.length_take]; have := h.kl; omega)
    have l1 : lcGo [.v (bkD b), .v (.list ((b.ks.take i).flatMap fun k => (List.range (b.ms + 1)).map fun (n : Nat) => lossD k n)), .v (.str k), .no] (mGn 3) mYes (mTup (mLc1 (mNm 2) (mLc1 (mNm 3) mLn))) ((List.range (b.ms + 1)).map fun (n : Nat) => PyData.int n) β' = some ((List.range (b.ms + 1)).map (fun (n : Nat) => lossD k n), β') :=
      lcGo_map _ _ _ fun n _ => ⟨_, rfl, rfl, mTup_ok (β1 := β') rfl two⟩
    refine ⟨_, _, β', rfl, mSet_ok (mOp_ok (β1 := β') (β2 := β') (d := .list ((b.ks.take i).flatMap fun k => (List.range (b.ms + 1)).map fun (n : Nat) => lossD k n)) rfl (mFz_ok (mLc_ok (vs := [3]) (ρ := [.v (bkD b), .v (.list ((b.ks.take i).flatMap fun k => (List.range (b.ms + 1)).map fun (n : Nat) => lossD k n)), .v (.str k), .no]) (sizes_rg h rfl) l1 (by rw [List.length_map, List.length_range, szN]; omega))) (addD_lst (by rw [List.length_map, List.length_range, szN]; omega))), rfl, .v (.str k), ?_⟩
    have : (b.ks.take (i + 1)).flatMap (fun k => (List.range (b.ms + 1)).map fun (n : Nat) => lossD k n) = (b.ks.take i).flatMap (fun k => (List.range (b.ms + 1)).map fun (n : Nat) => lossD k n) ++ (List.range (b.ms + 1)).map (fun (n : Nat) => lossD k n) := by
      rw [List.take_add_one, hk, List.flatMap_append]
      show _ ++ List.flatMap _ [k] = _
      rw [List.flatMap_singleton]
    rw [this]
    rfl)
  rw [Nat.zero_add, List.length_map, List.take_length] at f1
  have S1 : mSet 1 (mXv (mLst mLn)) ([.v (bkD b)] ++ List.replicate 3 .no) β' = some (.nx, [.v (bkD b), .v (.list []), .no, .no], β') := rfl
  exact fn_rt (seq_nx S1 (seq_nx ((mFor_ok (mIt_ok (β1 := β') (d := strT b.ks) rfl rfl)).trans f1) (mRet_ok rfl)))
theorem ev_law_first (b : Bk) (h : BkOk b) (β : Bag) : m_law_first [.v (bkD b)] β = some (iT (b.ts.map fun _ => 0), β) := by
  have htl := h.tl
  unfold m_law_first b_law_first
  have l1 : lcGo [.v (bkD b), .no] (mGn 1) mYes (mC (.int 0)) (b.ts.map trD) β = some (b.ts.map (fun _ => .int 0), β) := lcGo_map trD (fun _ => .int 0) b.ts fun t _ => ⟨_, rfl, rfl, rfl⟩
  have e : b.ts.map (fun _ => PyData.int 0) = (b.ts.map fun _ => (0 : Int)).map .int := by rw [List.map_map]; rfl
  rw [e] at l1
  exact fn_rt (ρ' := [.v (bkD b), .no]) (mRet_ok (mF_ok (f := tupOfD) (mFz_ok (mLc_ok (β1 := β) (vs := [1]) (ρ := [.v (bkD b), .no]) (mIt_ok (β1 := β) (d := .tuple (b.ts.map trD)) rfl rfl) l1 (by rw [List.length_map, List.length_map, szN]; omega))) rfl))
theorem mostI_pos {t : Tr} (h : TrOk t) : 0 ≤ mostI t ∧ mostI t ≤ 2000 := by
  have h1 := h.fs
  have h2 := h.sc
  unfold mostI
  split
  · omega
  · cases hl : t.lm with
    | none => show (0 : Int) ≤ 0 ∧ (0 : Int) ≤ 2000; omega
    | some l =>
      have := h.lm l hl
      show 0 ≤ l ∧ l ≤ 2000
      omega
theorem fa2_any {α : Type} {R : α → D → Prop} (hR : ∀ x y, R x y → ∃ i, y = .int i) : ∀ {xs : List α} {ys : List D}, Fa2 R xs ys → ∃ l : List Int, ys = l.map .int ∧ l.length = xs.length
  | _, _, .nil => ⟨[], rfl, rfl⟩
  | _, _, .cons h t => by
    obtain ⟨i, rfl⟩ := hR _ _ h
    obtain ⟨l, rfl, hl⟩ := fa2_any hR t
    exact ⟨i :: l, rfl, by simp [hl]⟩
theorem ev_law_state (b : Bk) (h : BkOk b) (β : Bag) : ∃ st β', m_law_state [.bag, .v (bkD b)] β = some (iT st, β') ∧ st.length = b.ts.length := by
  have htl := h.tl
  unfold m_law_state b_law_state
  let ρ : List Slot := [.bag, .v (bkD b), .no]
  obtain ⟨ys, β', l1, l2⟩ := lcGo_all (ρ := ρ) (mg := mGn 2) (mt := mYes) (me := mCall m_law_take (mAb 0 (mAv (mOp addD (mCall m_law_most_used (mAv (mNm 2) mAn)) (mC (.int 1))) mAn))) (R := fun _ y => ∃ i, y = .int i) (b.ts.map trD) (fun x hx β => by
    obtain ⟨t, ht, rfl⟩ := List.mem_map.mp hx
    have hp := mostI_pos (h.ts t ht)
    obtain ⟨r, β', t1, _⟩ := take_ok (e := mOp addD (mCall m_law_most_used (mAv (mNm 2) mAn)) (mC (.int 1))) (ρ := ρ.set 2 (.v (trD t))) (β := β) (β1 := β) (n := mostI t + 1) rfl (mOp_ok (β1 := β) (β2 := β) (mCall_ok (β1 := β) (ss := [.v (trD t)]) rfl (ev_law_most_used (h.ts t ht) β)) rfl rfl) (by omega) (by omega)
    exact ⟨_, β, _, β', rfl, rfl, t1, r, rfl⟩) β
  obtain ⟨l, rfl, hl⟩ := fa2_any (fun x y q => q) l2
  rw [List.length_map] at hl
  exact ⟨l, β', fn_rt (ρ' := ρ) (mRet_ok (mF_ok (mFz_ok (mLc_ok (β1 := β) (vs := [2]) (ρ := ρ) (mIt_ok (β1 := β) (d := .tuple (b.ts.map trD)) rfl rfl) l1 (by rw [List.length_map, szN]; omega))) rfl)), hl⟩
end K31
namespace K31
open PySem PySem.Spec PyProof.Rows L2 M
/-! ### what a bearer bears -/
theorem strsD_map (ns : List Str) : strsD (ns.map .str) = some ns := by
  induction ns with
  | nil => rfl
  | cons s r ih => simp only [List.map_cons, strsD, ih, Option.map_some]
theorem idx_ex {x : Str} (hx : ok x) : ∀ {ns : List Str}, (∀ y ∈ ns, ok y) → x ∈ ns → ∃ j, idxB (.str x) (ns.map .str) = some j ∧ j < ns.length
  | [], _, h => nomatch h
  | y :: r, hn, h => by
    rw [List.map_cons]
    unfold idxB
    by_cases he : PyData.eqv (.str y) (.str x) = true
    · rw [if_pos he]
      exact ⟨0, rfl, Nat.succ_pos _⟩
    · rw [if_neg he]
      have hne : x ≠ y := by
        rintro rfl
        exact he ((nb_eqv _ _ (by unfold nb; exact hx) (by unfold nb; exact hx)).mpr rfl)
      obtain ⟨j, h1, h2⟩ := idx_ex hx (ns := r) (fun z hz => hn z (List.mem_cons_of_mem _ hz)) ((List.mem_cons.mp h).resolve_left hne)
      exact ⟨j + 1, by rw [h1]; rfl, by rw [List.length_cons]; omega⟩
theorem idxT_ok {x : Str} {ns : List Str} {j : Nat} (h : idxB (.str x) (ns.map .str) = some j) : idxTD (strT ns) (.str x) = some (.int (j : Nat)) := by
  unfold idxTD
  simp only [strsD_map, h, Option.bind_some, Option.map_some]
theorem idxL_ok {x : Str} {ns : List Str} {j : Nat} (h : idxB (.str x) (ns.map .str) = some j) : idxLD (.list (ns.map .str)) (.str x) = some (.int (j : Nat)) := by
  unfold idxLD
  simp only
  rw [if_pos (by rw [flat_strs]; rfl), h]
  rfl
def colI (r : List (List Int)) (j : Nat) : List Int := r.map fun x => x[j]?.getD 0
theorem colI_len (r : List (List Int)) (j : Nat) : (colI r j).length = r.length := by unfold colI; rw [List.length_map]
theorem colR_colI (r : List (List Int)) (j : Nat) : colR r j = (colI r j).map fun v => [v] := by unfold colR colI; rw [List.map_map]; rfl
/-- the index of a bearer -/
structure BrAt (b : Bk) (x : Str) (j : Nat) : Prop where
  ix : idxB (.str x) ((bearS b.ts).map .str) = some j
  lt : j < (bearS b.ts).length
theorem brAt {b : Bk} (h : BkOk b) {x : Str} (hx : x ∈ bearS b.ts) : ∃ j, BrAt b x j := by
  obtain ⟨j, h1, h2⟩ := idx_ex (bearS_ok h.ts x hx) (bearS_ok h.ts) hx
  exact ⟨j, h1, h2⟩
theorem ev_ixb {b : Bk} (h : BkOk b) {x : Str} {j : Nat} (hj : BrAt b x j) {m1 m2 : ME} {ρ : List Slot} {β : Bag} (h1 : m1 ρ β = some (bkD b, β)) (h2 : m2 ρ β = some (.str x, β)) : mOp idxTD (mCall m_bearers (mAv m1 mAn)) m2 ρ β = some (.int (j : Nat), β) :=
  mOp_ok (mCall_ok (mAv_ok h1 rfl) (ev_bearers h β)) h2 (idxT_ok hj.ix)
theorem ev_borne_by {b : Bk} (h : BkOk b) {x : Str} {j : Nat} (hj : BrAt b x j) {r : List (List Int)} (hu : Uni (bearS b.ts).length r) (ho : RowOk r) (h0 : 0 < r.length) (β : Bag) : m_borne_by [.v (bkD b), .v (pcsD (P r 0)), .v (.str x)] β = some (pcsD (P (colR r j) 0), β) := by
  unfold m_borne_by b_borne_by
  exact fn_rt (ρ' := [.v (bkD b), .v (pcsD (P r 0)), .v (.str x)]) (mRet_ok (mCall_ok (mAv_ok (β1 := β) rfl (mAv_ok (ev_ixb h hj rfl rfl) rfl)) (ev_column hu ho j hj.lt h0 β)))
theorem ev_paid_by (b : Bk) {w : Nat} {r : List (List Int)} (hu : Uni w r) (ho : RowOk r) (i : Nat) (hi : i < r.length) (β : Bag) : m_paid_by [.v (bkD b), .v (pcsD (P r 0)), .v (.int i)] β = some (iT (gtR r i), β) := by
  unfold m_paid_by b_paid_by
  exact fn_rt (ρ' := [.v (bkD b), .v (pcsD (P r 0)), .v (.int i)]) (mRet_ok (mCall_ok (mAv_ok (β1 := β) rfl (mAv_ok (β1 := β) rfl rfl)) (ev_member_at hu ho i hi β)))
theorem ev_all_borne {b : Bk} (h : BkOk b) (st : List Int) {k : Str} (hk : ok k) {x : Str} {j : Nat} (hj : BrAt b x j) (β : Bag) : m_all_borne [.v (bkD b), .v (iT st), .v (.str k), .v (.str x)] β = some (.list ((colI (paidR b st k) j).map .int), β) := by
  have hms := h.ms
  unfold m_all_borne b_all_borne
  let ρ : List Slot := [.v (bkD b), .v (iT st), .v (.str k), .v (.str x), .v (.int (j : Nat)), .no]
  have S1 : mSet 4 (mXv (mOp idxTD (mCall m_bearers (mAv (mNm 0) mAn)) (mPk 3))) ([.v (bkD b), .v (iT st), .v (.str k), .v (.str x)] ++ List.replicate 2 .no) β = some (.nx, ρ, β) := mSet_ok (ev_ixb h hj rfl rfl)
  have l1 : lcGo ρ (mGn 5) mYes (mOp ixD (mPk 5) (mPk 4)) ((paidR b st k).map iT) β = some ((colI (paidR b st k) j).map .int, β) := by
    unfold colI
    rw [List.map_map]
    exact lcGo_map _ _ _ fun y hy => ⟨_, rfl, rfl, mOp_ok (β1 := β) (β2 := β) (d := iT y) (e := .int (j : Nat)) rfl rfl (ix_iT (by rw [paidR_uni b st k y hy]; exact hj.lt))⟩
  refine fn_rt (ρ' := ρ) (seq_nx S1 (mRet_ok (mFz_ok (mLc_ok (β1 := β) (vs := [5]) (ρ := ρ) (mIt_ok (β1 := β) (d := rowD (paidR b st k)) (mCall_ok (mAv_ok (mCall_ok (mAv_ok (β1 := β) rfl (mAv_ok (β1 := β) rfl (mAv_ok (β1 := β) rfl rfl))) (ev_paid_pieces h st hk β)) rfl) (ev_row_of_P (paidR_uni b st k) (paidR_ok h st k) β)) rfl) l1 (by rw [List.length_map, colI_len, paidR_len, szN]; omega)))))
/-- the items with their indexes -/
def idxL (c : List Int) : List (Nat × Int) := c.mapIdx fun i v => (i, v)
theorem enum_int (c : List Int) : enumD (c.map .int) = (idxL c).map fun p => pairD (.int (p.1 : Nat)) (.int p.2) := by
  unfold enumD idxL
  apply List.ext_getElem?
  intro i
  rw [List.getElem?_mapIdx, List.getElem?_map, List.getElem?_map, List.getElem?_mapIdx]
  cases c[i]? <;> rfl
def posL (c : List Int) : List D := ((idxL c).filter fun p => decide (0 < p.2)).map fun p => .int (p.1 : Nat)
def eqL (c : List Int) (n : Int) : List D := ((idxL c).filter fun p => decide (p.2 = n)).map fun p => .int (p.1 : Nat)
theorem idxL_len (c : List Int) : (idxL c).length = c.length := by unfold idxL; rw [List.length_mapIdx]
theorem posL_len (c : List Int) : (posL c).length ≤ c.length := by
  unfold posL
  rw [List.length_map]
  have := List.length_filter_le (fun p : Nat × Int => decide (0 < p.2)) (idxL c)
  rw [idxL_len] at this
  exact this
theorem eqL_len (c : List Int) (n : Int) : (eqL c n).length ≤ c.length := by
  unfold eqL
  rw [List.length_map]
  have := List.length_filter_le (fun p : Nat × Int => decide (p.2 = n)) (idxL c)
  rw [idxL_len] at this
  exact this
theorem posL_nn (c : List Int) : ∀ x ∈ posL c, nb x = true ∧ x.depth ≤ 0 := fun x hx => by
  unfold posL at hx
  obtain ⟨p, _, rfl⟩ := List.mem_map.mp hx
  exact ⟨rfl, Nat.le_refl _⟩
theorem ev_least_size {b : Bk} (h : BkOk b) (st : List Int) {k : Str} (hk : ok k) {x : Str} {j : Nat} (hj : BrAt b x j) (β : Bag) : m_least_size [.v (bkD b), .v (iT st), .v (.str k), .v (.str x)] β = some ((posL (colI (paidR b st k) j)).head?.getD .none, β) := by
  have hms := h.ms
  unfold m_least_size b_least_size
  generalize hc : colI (paidR b st k) j = c
  have hcl : c.length = b.ms + 1 := by rw [← hc, colI_len, paidR_len]
  let ρ0 : List Slot := [.v (bkD b), .v (iT st), .v (.str k), .v (.str x), .no, .no, .no]
  let ρ : List Slot := [.v (bkD b), .v (iT st), .v (.str k), .v (.str x), .v (.list (posL c)), .no, .no]
  have en : mEnum (mCall m_all_borne (mAv (mNm 0) (mAv (mNm 1) (mAv (mNm 2) (mAv (mNm 3) mAn))))) ρ0 β = some ((idxL c).map fun p => pairD (.int (p.1 : Nat)) (.int p.2), β) := by
    unfold mEnum
    rw [mCall_ok (β1 := β) (ma := mAv (mNm 0) (mAv (mNm 1) (mAv (mNm 2) (mAv (mNm 3) mAn)))) (ss := [.v (bkD b), .v (iT st), .v (.str k), .v (.str x)]) rfl (ev_all_borne h st hk hj β), hc]
    simp only [Option.bind_some, seqD_lst, Option.map_some, enum_int]
  have l1 : lcGo ρ0 (mGt 2 (mGcons (mGn 5) (mGcons (mGn 6) mGnil))) (mTest (mOp gtD (mPk 6) (mC (.int 0)))) (mNm 5) ((idxL c).map fun p => pairD (.int (p.1 : Nat)) (.int p.2)) β = some (posL c, β) :=
    lcGo_filter _ (fun p => .int (p.1 : Nat)) (fun p => decide (0 < p.2)) (idxL c) fun p _ => ⟨_, rfl, mTest_ok (mOp_ok (β1 := β) (β2 := β) (d := .int p.2) rfl rfl (gtD_int _ _)), fun _ => rfl⟩
  have S1 : mSet 4 (mXv (mFz (mLc [5, 6] (mEnum (mCall m_all_borne (mAv (mNm 0) (mAv (mNm 1) (mAv (mNm 2) (mAv (mNm 3) mAn)))))) (mGt 2 (mGcons (mGn 5) (mGcons (mGn 6) mGnil))) (mTest (mOp gtD (mPk 6) (mC (.int 0)))) (mNm 5)))) ρ0 β = some (.nx, ρ, β) :=
    mSet_ok (mFz_ok (mLc_ok (β1 := β) (vs := [5, 6]) (ρ := ρ0) en l1 (by have := posL_len c; rw [szN]; omega)))
  refine fn_rt (ρ' := ρ) (seq_nx S1 (mRet_ok ?_))
  have ht : mTru (mPk 4) ρ β = some (!(posL c).isEmpty, β) := by
    unfold mTru
    show Option.bind (some (PyData.list (posL c), β)) _ = _
    cases posL c <;> rfl
  cases hp : posL c with
  | nil => exact (mIf_f (ht.trans (by rw [hp]; rfl))).trans rfl
  | cons y r =>
    refine (mIf_t (ht.trans (by rw [hp]; rfl))).trans ?_
    refine (mOp_ok (β1 := β) (β2 := β) (d := .list (posL c)) rfl rfl ?_)
    rw [hp]
    exact atI_nat' (n := 0) rfl
theorem intsD_map (c : List Int) : intsD (c.map .int) = some c := by
  induction c with
  | nil => rfl
  | cons x r ih => simp only [List.map_cons, intsD, ih, Option.map_some]
theorem maxLD_ok {c : List Int} (h : 0 < c.length) : ∃ m : Int, maxLD (.list (c.map .int)) = some (.int m) := by
  cases c with
  | nil => exact absurd h (by decide)
  | cons x r => exact ⟨maxI x r, by unfold maxLD; simp only [intsD_map, Option.bind_some]⟩
theorem ev_most_borne {b : Bk} (h : BkOk b) (st : List Int) {k : Str} (hk : ok k) {x : Str} {j : Nat} (hj : BrAt b x j) {m : Int} (hm : maxLD (.list ((colI (paidR b st k) j).map .int)) = some (.int m)) (β : Bag) : m_most_borne [.v (bkD b), .v (iT st), .v (.str k), .v (.str x)] β = some (.int m, β) := by
  unfold m_most_borne b_most_borne
  exact fn_rt (ρ' := [.v (bkD b), .v (iT st), .v (.str k), .v (.str x)]) (mRet_ok (mF_ok (mCall_ok (β1 := β) (ss := [.v (bkD b), .v (iT st), .v (.str k), .v (.str x)]) rfl (ev_all_borne h st hk hj β)) hm))
theorem ev_sizes_borne {b : Bk} (h : BkOk b) (st : List Int) {k : Str} (hk : ok k) {x : Str} {j : Nat} (hj : BrAt b x j) (n : Int) (β : Bag) : m_sizes_borne [.v (bkD b), .v (iT st), .v (.str k), .v (.str x), .v (.int n)] β = some (.tuple (eqL (colI (paidR b st k) j) n), β) := by
  have hms := h.ms
  unfold m_sizes_borne b_sizes_borne
  generalize hc : colI (paidR b st k) j = c
  have hcl : c.length = b.ms + 1 := by rw [← hc, colI_len, paidR_len]
  let ρ0 : List Slot := [.v (bkD b), .v (iT st), .v (.str k), .v (.str x), .v (.int n), .no, .no]
  have en : mEnum (mCall m_all_borne (mAv (mNm 0) (mAv (mNm 1) (mAv (mNm 2) (mAv (mNm 3) mAn))))) ρ0 β = some ((idxL c).map fun p => pairD (.int (p.1 : Nat)) (.int p.2), β) := by
    unfold mEnum
    rw [mCall_ok (β1 := β) (ma := mAv (mNm 0) (mAv (mNm 1) (mAv (mNm 2) (mAv (mNm 3) mAn)))) (ss := [.v (bkD b), .v (iT st), .v (.str k), .v (.str x)]) rfl (ev_all_borne h st hk hj β), hc]
    simp only [Option.bind_some, seqD_lst, Option.map_some, enum_int]
  have l1 : lcGo ρ0 (mGt 2 (mGcons (mGn 5) (mGcons (mGn 6) mGnil))) (mTest (mOp eqD (mPk 6) (mPk 4))) (mNm 5) ((idxL c).map fun p => pairD (.int (p.1 : Nat)) (.int p.2)) β = some (eqL c n, β) :=
    lcGo_filter _ (fun p => .int (p.1 : Nat)) (fun p => decide (p.2 = n)) (idxL c) fun p _ => ⟨_, rfl, mTest_ok (mOp_ok (β1 := β) (β2 := β) (d := .int p.2) rfl rfl (eqD_int _ _)), fun _ => rfl⟩
  exact fn_rt (ρ' := ρ0) (mRet_ok (mF_ok (mFz_ok (mLc_ok (β1 := β) (vs := [5, 6]) (ρ := ρ0) en l1 (by have := eqL_len c n; rw [szN]; omega))) rfl))
theorem P_last {r : List (List Int)} (h0 : 0 < r.length) : ∃ qs p, P r 0 = qs ++ [p] := by
  rcases List.eq_nil_or_concat (P r 0) with e | ⟨qs, p, e⟩
  · rw [P_cons h0] at e
    exact absurd e (List.cons_ne_nil _ _)
  · exact ⟨qs, p, by rw [e, List.concat_eq_append]⟩
theorem ev_steady_from {b : Bk} (h : BkOk b) (st : List Int) {k : Str} (hk : ok k) {qs : List Pc} {p : Pc} (hp : P (paidR b st k) 0 = qs ++ [p]) (β : Bag) : m_steady_from [.v (bkD b), .v (iT st), .v (.str k)] β = some (.int (p.lo : Nat), β) := by
  unfold m_steady_from b_steady_from
  refine fn_rt (ρ' := [.v (bkD b), .v (iT st), .v (.str k)]) (mRet_ok (mOp_ok (β1 := β) (β2 := β) (mOp_ok (β1 := β) (β2 := β) (e := .int (-1)) (mCall_ok (β1 := β) (ss := [.v (bkD b), .v (iT st), .v (.str k)]) rfl (ev_paid_pieces h st hk β)) rfl ?_) rfl (ix_pc0 p)))
  show atI ((P (paidR b st k) 0).map pcD) (-1) = _
  rw [hp, List.map_append]
  exact atI_last
end K31
namespace K31
open PySem PySem.Spec PyProof.Rows L2 M
/-! ### _law_paid_right -/
theorem neNil {ds : List D} (h : ∀ x ∈ ds, nb x = true ∧ x.depth ≤ 0) : neD (.list ds) (.list []) = some (.bool (!ds.isEmpty)) := by
  have h1 : pn (.list ds) := by
    refine ⟨?_, ?_⟩
    · unfold nb
      have := nbA_of (f := id) ds fun d hd => (h d hd).1
      rwa [List.map_id] at this
    · unfold PyData.depth
      have := depthA_of (f := id) (k := 0) ds fun d hd => (h d hd).2
      rw [List.map_id] at this
      omega
  rw [neD_pn h1 ⟨rfl, by decide⟩]
  cases ds with
  | nil => simp
  | cons x r => simp
theorem bag_ok {x : ME} {ρ : List Slot} (hb : ρ[0]? = some .bag) {β : Bag} {ma : MA} {q : List Slot × Bag} (h : ma ρ β = some q) : mAb 0 ma ρ β = some (.bag :: q.1, q.2) := by
  simp only [mAb, hb, h, Option.map_some]
theorem nd_posL (c : List Int) : ndA (posL c) ≤ c.length := by
  have h1 := posL_len c
  have : posL c = (((idxL c).filter fun p => decide (0 < p.2)).map fun p => (p.1 : Int)).map .int := by unfold posL; rw [List.map_map]; rfl
  rw [this, ndA_ints, List.length_map]
  unfold posL at h1
  rw [List.length_map] at h1
  exact h1
theorem eqL_map (c : List Int) (n : Int) : eqL c n = (((idxL c).filter fun p => decide (p.2 = n)).map fun p => (p.1 : Int)).map .int := by unfold eqL; rw [List.map_map]; rfl
set_option maxHeartbeats 4000000 in
open Classical in
theorem ev_paid_right {b : Bk} (h : BkOk b) (β : Bag) : ∃ β', m_law_paid_right [.bag, .v (bkD b)] β = some (.bool true, β') := by
  have hms := h.ms
  have htl := h.tl
  have hbl := bearS_len b.ts
  have hkl := h.kl
  unfold m_law_paid_right b_law_paid_right
  let ρ0 : List Slot := [.bag, .v (bkD b), .no, .no, .no, .no, .no, .no, .no, .no, .no, .no, .no, .no, .no, .no, .no, .no]
  obtain ⟨st, β1, s1, hst⟩ := ev_law_state b h β
  obtain ⟨kx, β2, s2, s2m⟩ := some_ok (e := mF lstOfD (mOp ixD (mPk 1) (mC (.int 1)))) (ρ := ρ0) (β := β1) (β1 := β1) (d := .list (b.ks.map .str)) rfl rfl rfl (by simpa using h.kn) (by rw [List.length_map]; omega)
  obtain ⟨k, hkm, rfl⟩ := List.mem_map.mp s2m
  have hk := h.ks k hkm
  obtain ⟨px, β3, s3, s3m⟩ := some_ok (e := mCall m_law_bearers (mAv (mNm 1) mAn)) (ρ := ρ0) (β := β2) (β1 := β2) (d := .list ((bearS b.ts).map .str)) rfl (mCall_ok (β1 := β2) (ss := [.v (bkD b)]) rfl (ev_law_bearers h β2)) rfl (by
    have := bearS_own b.ts
    intro e
    rw [List.map_eq_nil_iff.mp e] at this
    cases this) (by rw [List.length_map]; omega)
  obtain ⟨x, hxm, rfl⟩ := List.mem_map.mp s3m
  obtain ⟨j, hj⟩ := brAt h hxm
  generalize hc : colI (paidR b st k) j = c
  have hcl : c.length = b.ms + 1 := by rw [← hc, colI_len, paidR_len]
  let ρ1 : List Slot := [.bag, .v (bkD b), .v (iT st), .v (.str k), .v (.str x), .no, .no, .no, .no, .no, .no, .no, .no, .no, .no, .no, .no, .no]
  have three : ∀ {a b c : D}, [a, b, c].length ≤ sizeLine := by intro a b c; rw [szN]; exact (by decide : 3 ≤ 16777216)
  have four : ∀ {a b c d : D}, [a, b, c, d].length ≤ sizeLine := by intro a b c d; rw [szN]; exact (by decide : 4 ≤ 16777216)
  have two : ∀ {a b : D}, [a, b].length ≤ sizeLine := by intro a b; rw [szN]; exact (by decide : 2 ≤ 16777216)
  have one : ∀ {a : D}, [a].length ≤ sizeLine := by intro a; rw [szN]; exact (by decide : 1 ≤ 16777216)
  have S1 : mAsg (mTup (mLc1 (mCall m_law_state (mAb 0 (mAv (mNm 1) mAn))) (mLc1 (mCall m_law_some (mAb 0 (mAv (mF lstOfD (mOp ixD (mPk 1) (mC (.int 1)))) mAn))) (mLc1 (mCall m_law_some (mAb 0 (mAv (mCall m_law_bearers (mAv (mNm 1) mAn)) mAn))) mLn)))) (mGt 3 (mGcons (mGn 2) (mGcons (mGn 3) (mGcons (mGn 4) mGnil)))) ρ0 β = some (.nx, ρ1, β3) :=
    mAsg_ok (d := .tuple [iT st, .str k, .str x]) (mTup_ok (mLc1_ok (mCall_ok (β1 := β) (ss := [.bag, .v (bkD b)]) rfl s1) (mLc1_ok s2 (mLc1_ok s3 rfl))) three) rfl
  let bs : List D := (List.range (b.ms + 1)).map fun (n : Nat) => bearD b st k n
  let ρ2 : List Slot := [.bag, .v (bkD b), .v (iT st), .v (.str k), .v (.str x), .v (.list bs), .no, .no, .no, .no, .no, .no, .no, .no, .no, .no, .no, .no]
  have S2 : mSet 5 (mXv (mFz (mLc [10] (mRg1 (mOp addD (mOp ixD (mPk 1) (mC (.int 2))) (mC (.int 1)))) (mGn 10) mYes (mCall m_law_bear (mAv (mNm 1) (mAv (mNm 2) (mAv (mTup (mLc1 (mNm 3) (mLc1 (mNm 10) mLn))) mAn))))))) ρ1 β3 = some (.nx, ρ2, β3) := by
    have l1 : lcGo ρ1 (mGn 10) mYes (mCall m_law_bear (mAv (mNm 1) (mAv (mNm 2) (mAv (mTup (mLc1 (mNm 3) (mLc1 (mNm 10) mLn))) mAn)))) ((List.range (b.ms + 1)).map fun (n : Nat) => PyData.int n) β3 = some (bs, β3) :=
      lcGo_map _ _ _ fun n _ => ⟨_, rfl, rfl, mCall_ok (β1 := β3) (ss := [.v (bkD b), .v (iT st), .v (lossD k n)]) (mAv_ok (β1 := β3) rfl (mAv_ok (β1 := β3) rfl (mAv_ok (β1 := β3) (mTup_ok (β1 := β3) rfl two) rfl))) (ev_law_bear h st hst hk n β3)⟩
    exact mSet_ok (mFz_ok (mLc_ok (vs := [10]) (ρ := ρ1) (sizes_rg h rfl) l1 (by show (List.map _ _).length ≤ _; rw [List.length_map, List.length_range, szN]; omega)))
  let r := paidR b st k
  let us := usedR b st k
  have rl : r.length = b.ms + 1 := paidR_len b st k
  have ul : us.length = b.ms + 1 := usedR_len b st k
  let ρ3 : List Slot := [.bag, .v (bkD b), .v (iT st), .v (.str k), .v (.str x), .v (.list bs), .v (rowD r), .v (rowD us), .v (.int (j : Nat)), .no, .no, .no, .no, .no, .no, .no, .no, .no]
  have S3 : mAsg (mTup (mLc1 (mF tupOfD (mFz (mLc [16] (mIt (mNm 5)) (mGn 16) mYes (mOp ixD (mPk 16) (mC (.int 0)))))) (mLc1 (mF tupOfD (mFz (mLc [16] (mIt (mNm 5)) (mGn 16) mYes (mOp ixD (mPk 16) (mC (.int 1)))))) (mLc1 (mOp idxLD (mCall m_law_bearers (mAv (mNm 1) mAn)) (mPk 4)) mLn)))) (mGt 3 (mGcons (mGn 6) (mGcons (mGn 7) (mGcons (mGn 8) mGnil)))) ρ2 β3 = some (.nx, ρ3, β3) := by
    have l1 : lcGo ρ2 (mGn 16) mYes (mOp ixD (mPk 16) (mC (.int 0))) bs β3 = some (r.map iT, β3) := by
      show lcGo ρ2 _ _ _ _ β3 = some ((List.map _ _).map iT, β3)
      rw [List.map_map]
      exact lcGo_map _ _ _ fun n _ => ⟨_, rfl, rfl, rfl⟩
    have l2 : lcGo ρ2 (mGn 16) mYes (mOp ixD (mPk 16) (mC (.int 1))) bs β3 = some (us.map iT, β3) := by
      show lcGo ρ2 _ _ _ _ β3 = some ((List.map _ _).map iT, β3)
      rw [List.map_map]
      exact lcGo_map _ _ _ fun n _ => ⟨_, rfl, rfl, rfl⟩
    refine mAsg_ok (d := .tuple [rowD r, rowD us, .int (j : Nat)]) (mTup_ok (mLc1_ok (β1 := β3) (mF_ok (mFz_ok (mLc_ok (β1 := β3) (vs := [16]) (ρ := ρ2) (mIt_ok (β1 := β3) (d := .list bs) rfl rfl) l1 ?_)) rfl) (mLc1_ok (β1 := β3) (mF_ok (mFz_ok (mLc_ok (β1 := β3) (vs := [16]) (ρ := ρ2) (mIt_ok (β1 := β3) (d := .list bs) rfl rfl) l2 ?_)) rfl) (mLc1_ok (β1 := β3) (mOp_ok (β2 := β3) (mCall_ok (β1 := β3) (ss := [.v (bkD b)]) rfl (ev_law_bearers h β3)) rfl (idxL_ok hj.ix)) rfl))) three) rfl
    · rw [List.length_map, rl, szN]; omega
    · rw [List.length_map, ul, szN]; omega
  obtain ⟨n', β4, n1, n2, n3⟩ := take_ok (e := mOp addD (mOp ixD (mPk 1) (mC (.int 2))) (mC (.int 1))) (ρ := ρ3) (β := β3) (β1 := β3) (n := (b.ms : Int) + 1) rfl rfl (by omega) (by omega)
  obtain ⟨sz, rfl⟩ : ∃ q : Nat, n' = (q : Int) := ⟨n'.toNat, by omega⟩
  let ρ4 : List Slot := [.bag, .v (bkD b), .v (iT st), .v (.str k), .v (.str x), .v (.list bs), .v (rowD r), .v (rowD us), .v (.int (j : Nat)), .v (.list (c.map .int)), .v (.int (sz : Nat)), .no, .no, .no, .no, .no, .no, .no]
  have S4 : mPar2 9 10 (mXv (mFz (mLc [16] (mIt (mNm 6)) (mGn 16) mYes (mOp ixD (mPk 16) (mPk 8))))) (mXv (mCall m_law_take (mAb 0 (mAv (mOp addD (mOp ixD (mPk 1) (mC (.int 2))) (mC (.int 1))) mAn)))) ρ3 β3 = some (.nx, ρ4, β4) := by
    have l1 : lcGo ρ3 (mGn 16) mYes (mOp ixD (mPk 16) (mPk 8)) (r.map iT) β3 = some (c.map .int, β3) := by
      rw [← hc]
      unfold colI
      rw [List.map_map]
      exact lcGo_map _ _ _ fun y hy => ⟨_, rfl, rfl, mOp_ok (β1 := β3) (β2 := β3) (d := iT y) (e := .int (j : Nat)) rfl rfl (ix_iT (by rw [paidR_uni b st k y hy]; exact hj.lt))⟩
    exact mPar2_ok (mFz_ok (mLc_ok (β1 := β3) (vs := [16]) (ρ := ρ3) (mIt_ok (β1 := β3) (d := rowD r) rfl rfl) l1 (by rw [List.length_map, szN]; omega))) n1
  have hal : mOp addD (mPk 9) (mLst (mLc1 (mF negD (mC (.int 1))) (mLc1 (mC (.int 99)) mLn))) ρ4 β4 = some (.list ((c ++ [-1, 99]).map .int), β4) := by
    refine (mOp_ok (β1 := β4) (β2 := β4) (d := .list (c.map .int)) (e := .list [.int (-1), .int 99]) rfl (mLst_ok (β1 := β4) rfl two) (addD_lst (by rw [List.length_map, szN]; show c.length + 2 ≤ _; omega))).trans ?_
    rw [List.map_append]
    rfl
  obtain ⟨nx, β5, m1, m2⟩ := some_ok (ρ := ρ4) (β := β4) (β1 := β4) rfl hal rfl (by simp) (by rw [List.length_map, List.length_append]; show c.length + 2 ≤ _; omega)
  obtain ⟨num, _, rfl⟩ := List.mem_map.mp m2
  obtain ⟨qs, p, hP⟩ := P_last (r := r) (by omega)
  have rok := paidR_ok h st k
  have uok := usedR_ok h hst k
  have evr : ∀ β, m_law_pieces [.v (rowD r)] β = some (pcsD (P r 0), β) := fun β => ev_law_pieces r β rok
  let ρ5 : List Slot := [.bag, .v (bkD b), .v (iT st), .v (.str k), .v (.str x), .v (.list bs), .v (rowD r), .v (rowD us), .v (.int (j : Nat)), .v (.list (c.map .int)), .v (.int (sz : Nat)), .v (.int num), .v (pcD p), .no, .no, .no, .no, .no]
  have S5 : mAsg (mTup (mLc1 (mCall m_law_some (mAb 0 (mAv (mOp addD (mPk 9) (mLst (mLc1 (mF negD (mC (.int 1))) (mLc1 (mC (.int 99)) mLn)))) mAn))) (mLc1 (mOp ixD (mCall m_law_pieces (mAv (mNm 6) mAn)) (mF negD (mC (.int 1)))) mLn))) (mGt 2 (mGcons (mGn 11) (mGcons (mGn 12) mGnil))) ρ4 β4 = some (.nx, ρ5, β5) := by
    refine mAsg_ok (d := .tuple [.int num, pcD p]) (mTup_ok (mLc1_ok m1 (mLc1_ok (β1 := β5) (mOp_ok (β1 := β5) (β2 := β5) (e := .int (-1)) (mCall_ok (β1 := β5) (ss := [.v (rowD r)]) rfl (evr β5)) rfl ?_) rfl)) two) rfl
    show atI ((P r 0).map pcD) (-1) = _
    rw [hP, List.map_append]
    exact atI_last
  let ρ6 : List Slot := [.bag, .v (bkD b), .v (iT st), .v (.str k), .v (.str x), .v (.list bs), .v (rowD r), .v (rowD us), .v (.int (j : Nat)), .v (.list (c.map .int)), .v (.int (sz : Nat)), .v (.int num), .v (pcD p), .v (.list (posL c)), .no, .no, .no, .no]
  have hen : ∀ (ρ : List Slot) (β : Bag), ρ[9]? = some (.v (.list (c.map .int))) → mEnum (mNm 9) ρ β = some ((idxL c).map fun p => pairD (.int (p.1 : Nat)) (.int p.2), β) := by
    intro ρ β hρ
    unfold mEnum mNm
    simp only [hρ, getV, Option.map_some, Option.bind_some, seqD_lst, enum_int]
  have S6 : mSet 13 (mXv (mFz (mLc [16, 17] (mEnum (mNm 9)) (mGt 2 (mGcons (mGn 16) (mGcons (mGn 17) mGnil))) (mTest (mOp gtD (mPk 17) (mC (.int 0)))) (mNm 16)))) ρ5 β5 = some (.nx, ρ6, β5) := by
    have l1 : lcGo ρ5 (mGt 2 (mGcons (mGn 16) (mGcons (mGn 17) mGnil))) (mTest (mOp gtD (mPk 17) (mC (.int 0)))) (mNm 16) ((idxL c).map fun p => pairD (.int (p.1 : Nat)) (.int p.2)) β5 = some (posL c, β5) :=
      lcGo_filter _ (fun p => .int (p.1 : Nat)) (fun p => decide (0 < p.2)) (idxL c) fun p _ => ⟨_, rfl, mTest_ok (mOp_ok (β1 := β5) (β2 := β5) (d := .int p.2) rfl rfl (gtD_int _ _)), fun _ => rfl⟩
    exact mSet_ok (mFz_ok (mLc_ok (vs := [16, 17]) (ρ := ρ5) (hen ρ5 β5 rfl) l1 (by have := posL_len c; rw [szN]; omega)))
  let T1 : List D := [pcsD (P r 0), pcsD (P us 0), iT (gtR r sz), pcsD (P (colR r j) 0)]
  let ρ7 : List Slot := [.bag, .v (bkD b), .v (iT st), .v (.str k), .v (.str x), .v (.list bs), .v (rowD r), .v (rowD us), .v (.int (j : Nat)), .v (.list (c.map .int)), .v (.int (sz : Nat)), .v (.int num), .v (pcD p), .v (.list (posL c)), .v (.list T1), .no, .no, .no]
  have S7 : mSet 14 (mXv (mLst (mLc1 (mCall m_paid_pieces (mAv (mNm 1) (mAv (mNm 2) (mAv (mNm 3) mAn)))) (mLc1 (mCall m_used_pieces (mAv (mNm 1) (mAv (mNm 2) (mAv (mNm 3) mAn)))) (mLc1 (mCall m_paid_by (mAv (mNm 1) (mAv (mCall m_law_pieces (mAv (mNm 6) mAn)) (mAv (mNm 10) mAn)))) (mLc1 (mCall m_borne_by (mAv (mNm 1) (mAv (mCall m_law_pieces (mAv (mNm 6) mAn)) (mAv (mNm 4) mAn)))) mLn)))))) ρ6 β5 = some (.nx, ρ7, β5) :=
    mSet_ok (d := .list T1) (mLst_ok (mLc1_ok (β1 := β5) (mCall_ok (β1 := β5) (ss := [.v (bkD b), .v (iT st), .v (.str k)]) rfl (ev_paid_pieces h st hk β5)) (mLc1_ok (β1 := β5) (mCall_ok (β1 := β5) (ss := [.v (bkD b), .v (iT st), .v (.str k)]) rfl (ev_used_pieces h hst hk β5))
      (mLc1_ok (β1 := β5) (mCall_ok (β1 := β5) (ss := [.v (bkD b), .v (pcsD (P r 0)), .v (.int (sz : Nat))]) (mAv_ok (β1 := β5) rfl (mAv_ok (β1 := β5) (mCall_ok (β1 := β5) (ss := [.v (rowD r)]) rfl (evr β5)) (mAv_ok (β1 := β5) rfl rfl))) (ev_paid_by b (paidR_uni b st k) rok sz (by rw [paidR_len]; omega) β5))
      (mLc1_ok (β1 := β5) (mCall_ok (β1 := β5) (ss := [.v (bkD b), .v (pcsD (P r 0)), .v (.str x)]) (mAv_ok (β1 := β5) rfl (mAv_ok (β1 := β5) (mCall_ok (β1 := β5) (ss := [.v (rowD r)]) rfl (evr β5)) (mAv_ok (β1 := β5) rfl rfl))) (ev_borne_by h hj (paidR_uni b st k) rok (by rw [paidR_len]; omega) β5)) rfl)))) four)
  let ρ8 : List Slot := [.bag, .v (bkD b), .v (iT st), .v (.str k), .v (.str x), .v (.list bs), .v (rowD r), .v (rowD us), .v (.int (j : Nat)), .v (.list (c.map .int)), .v (.int (sz : Nat)), .v (.int num), .v (pcD p), .v (.list (posL c)), .v (.list T1), .v (.list T1), .no, .no]
  have d4 : mCall m_law_pieces (mAv (mF tupOfD (mFz (mLc [16] (mIt (mNm 9)) (mGn 16) mYes (mTup (mLc1 (mNm 16) mLn))))) mAn) ρ7 β5 = some (pcsD (P (colR r j) 0), β5) := by
    have l1 : lcGo ρ7 (mGn 16) mYes (mTup (mLc1 (mNm 16) mLn)) (c.map .int) β5 = some ((colR r j).map iT, β5) := by
      rw [colR_colI, hc, List.map_map]
      exact lcGo_map _ _ _ fun v _ => ⟨_, rfl, rfl, mTup_ok (β1 := β5) rfl one⟩
    exact mCall_ok (β1 := β5) (ss := [.v (rowD (colR r j))]) (mAv_ok (mF_ok (mFz_ok (mLc_ok (β1 := β5) (vs := [16]) (ρ := ρ7) (mIt_ok (β1 := β5) (d := .list (c.map .int)) rfl rfl) l1 (by rw [List.length_map, colR_colI, List.length_map, hc, szN]; omega))) rfl) rfl) (ev_law_pieces _ β5 (colR_ok rok j))
  have S8 : mSet 15 (mXv (mLst (mLc1 (mCall m_law_pieces (mAv (mNm 6) mAn)) (mLc1 (mCall m_law_pieces (mAv (mNm 7) mAn)) (mLc1 (mOp ixD (mPk 6) (mPk 10)) (mLc1 (mCall m_law_pieces (mAv (mF tupOfD (mFz (mLc [16] (mIt (mNm 9)) (mGn 16) mYes (mTup (mLc1 (mNm 16) mLn))))) mAn)) mLn)))))) ρ7 β5 = some (.nx, ρ8, β5) :=
    mSet_ok (d := .list T1) (mLst_ok (mLc1_ok (β1 := β5) (mCall_ok (β1 := β5) (ss := [.v (rowD r)]) rfl (evr β5)) (mLc1_ok (β1 := β5) (mCall_ok (β1 := β5) (ss := [.v (rowD us)]) rfl (ev_law_pieces us β5 uok)) (mLc1_ok (β1 := β5) (mOp_ok (β1 := β5) (β2 := β5) (d := rowD r) (e := .int (sz : Nat)) rfl rfl (atI_row (by omega))) (mLc1_ok d4 rfl)))) four)
  obtain ⟨mx, hmx⟩ := maxLD_ok (c := c) (by omega)
  let lst : D := (posL c).head?.getD .none
  let T2 : List D := [.int (p.lo : Nat), lst, .int mx, .tuple (eqL c num)]
  let ρ9 : List Slot := [.bag, .v (bkD b), .v (iT st), .v (.str k), .v (.str x), .v (.list bs), .v (rowD r), .v (rowD us), .v (.int (j : Nat)), .v (.list (c.map .int)), .v (.int (sz : Nat)), .v (.int num), .v (pcD p), .v (.list (posL c)), .v (.list (T1 ++ T2)), .v (.list T1), .no, .no]
  have eight : T1.length + T2.length ≤ sizeLine := by rw [szN]; exact (by decide : 4 + 4 ≤ 16777216)
  have q1 := ev_least_size h st hk hj β5
  have q2 := ev_most_borne h st hk hj (by rw [hc]; exact hmx) β5
  have q3 := ev_sizes_borne h st hk hj num β5
  rw [hc] at q1 q3
  have S9 : mSet 14 (mXv (mOp addD (mPk 14) (mLst (mLc1 (mCall m_steady_from (mAv (mNm 1) (mAv (mNm 2) (mAv (mNm 3) mAn)))) (mLc1 (mCall m_least_size (mAv (mNm 1) (mAv (mNm 2) (mAv (mNm 3) (mAv (mNm 4) mAn))))) (mLc1 (mCall m_most_borne (mAv (mNm 1) (mAv (mNm 2) (mAv (mNm 3) (mAv (mNm 4) mAn))))) (mLc1 (mCall m_sizes_borne (mAv (mNm 1) (mAv (mNm 2) (mAv (mNm 3) (mAv (mNm 4) (mAv (mNm 11) mAn)))))) mLn))))))) ρ8 β5 = some (.nx, ρ9, β5) :=
    mSet_ok (mOp_ok (β1 := β5) (d := .list T1) (e := .list T2) rfl (mLst_ok (mLc1_ok (β1 := β5) (mCall_ok (β1 := β5) (ss := [.v (bkD b), .v (iT st), .v (.str k)]) rfl (ev_steady_from h st hk hP β5)) (mLc1_ok (β1 := β5) (mCall_ok (β1 := β5) (ss := [.v (bkD b), .v (iT st), .v (.str k), .v (.str x)]) rfl q1) (mLc1_ok (β1 := β5) (mCall_ok (β1 := β5) (ss := [.v (bkD b), .v (iT st), .v (.str k), .v (.str x)]) rfl q2) (mLc1_ok (β1 := β5) (mCall_ok (β1 := β5) (ss := [.v (bkD b), .v (iT st), .v (.str k), .v (.str x), .v (.int num)]) rfl q3) rfl)))) four) (addD_lst eight))
  have z2 : mIf (mTest (mOp neD (mPk 13) (mLst mLn))) (mOp ixD (mPk 13) (mC (.int 0))) (mC .none) ρ9 β5 = some (lst, β5) := by
    have ht : mTest (mOp neD (mPk 13) (mLst mLn)) ρ9 β5 = some (!(posL c).isEmpty, β5) := mTest_ok (mOp_ok (β1 := β5) (β2 := β5) (d := .list (posL c)) rfl rfl (neNil (posL_nn c)))
    show _ = some ((posL c).head?.getD .none, β5)
    cases hp : posL c with
    | nil => exact (mIf_f (ht.trans (by rw [hp]; rfl))).trans rfl
    | cons y ys =>
      refine (mIf_t (ht.trans (by rw [hp]; rfl))).trans (mOp_ok (β1 := β5) (β2 := β5) (d := .list (posL c)) rfl rfl ?_)
      rw [hp]
      exact atI_nat' (n := 0) rfl
  have z4 : mF tupOfD (mFz (mLc [16, 17] (mEnum (mNm 9)) (mGt 2 (mGcons (mGn 16) (mGcons (mGn 17) mGnil))) (mTest (mOp eqD (mPk 17) (mPk 11))) (mNm 16))) ρ9 β5 = some (.tuple (eqL c num), β5) := by
    have l1 : lcGo ρ9 (mGt 2 (mGcons (mGn 16) (mGcons (mGn 17) mGnil))) (mTest (mOp eqD (mPk 17) (mPk 11))) (mNm 16) ((idxL c).map fun p => pairD (.int (p.1 : Nat)) (.int p.2)) β5 = some (eqL c num, β5) :=
      lcGo_filter _ (fun p => .int (p.1 : Nat)) (fun p => decide (p.2 = num)) (idxL c) fun p _ => ⟨_, rfl, mTest_ok (mOp_ok (β1 := β5) (β2 := β5) (d := .int p.2) rfl rfl (eqD_int _ _)), fun _ => rfl⟩
    exact mF_ok (mFz_ok (mLc_ok (vs := [16, 17]) (ρ := ρ9) (hen ρ9 β5 rfl) l1 (by have := eqL_len c num; rw [szN]; omega))) rfl
  have FIN2 : mOp addD (mPk 15) (mLst (mLc1 (mOp ixD (mPk 12) (mC (.int 0))) (mLc1 (mIf (mTest (mOp neD (mPk 13) (mLst mLn))) (mOp ixD (mPk 13) (mC (.int 0))) (mC .none)) (mLc1 (mF maxLD (mPk 9)) (mLc1 (mF tupOfD (mFz (mLc [16, 17] (mEnum (mNm 9)) (mGt 2 (mGcons (mGn 16) (mGcons (mGn 17) mGnil))) (mTest (mOp eqD (mPk 17) (mPk 11))) (mNm 16)))) mLn))))) ρ9 β5 = some (.list (T1 ++ T2), β5) :=
    mOp_ok (β1 := β5) (d := .list T1) (e := .list T2) rfl (mLst_ok (mLc1_ok (β1 := β5) (mOp_ok (β1 := β5) (β2 := β5) (d := pcD p) rfl rfl (ix_pc0 p)) (mLc1_ok z2 (mLc1_ok (β1 := β5) (mF_ok (β1 := β5) (d := .list (c.map .int)) rfl hmx) (mLc1_ok z4 rfl)))) four) (addD_lst eight)
  have ilst : pb lst = true ∧ nd lst = 1 := by
    show pb ((posL c).head?.getD .none) = true ∧ nd ((posL c).head?.getD .none) = 1
    cases hp : posL c with
    | nil => exact ⟨rfl, rfl⟩
    | cons y ys =>
      have hy : y ∈ posL c := by rw [hp]; exact List.mem_cons_self
      unfold posL at hy
      obtain ⟨p, _, rfl⟩ := List.mem_map.mp hy
      exact ⟨rfl, rfl⟩
  have pbd : pb (.list (T1 ++ T2)) = true := by
    have e1 : pb (.tuple (eqL c num)) = true := by rw [eqL_map]; exact pb_iT _
    show (pb (pcsD (P r 0)) && (pb (pcsD (P us 0)) && (pb (iT (gtR r sz)) && (pb (pcsD (P (colR r j) 0)) && (true && (pb lst && (true && (pb (.tuple (eqL c num)) && true)))))))) = true
    rw [pb_pcs, pb_pcs, pb_iT, pb_pcs, ilst.1, e1]
    rfl
  have ndd : nd (.list (T1 ++ T2)) ≤ 900000 := by
    have n1 := nd_pcs (paidR_uni b st k)
    have n2 := nd_pcs (usedR_uni hst k)
    have n3 := nd_iTE (gtR r sz)
    have uC : Uni 1 (colR r j) := fun x hx => by
      unfold colR at hx
      obtain ⟨y, _, rfl⟩ := List.mem_map.mp hx
      rfl
    have n4 := nd_pcs uC
    have n5 : nd (.tuple (eqL c num)) ≤ c.length + 1 := by
      have := eqL_len c num
      rw [eqL_map] at this ⊢
      rw [nd_iTE]
      rw [List.length_map] at this
      omega
    have hg := (paidR_uni b st k).gt (i := sz) (by rw [paidR_len]; omega)
    have e1 : r.length * (2 * (bearS b.ts).length + 5) ≤ 101 * 207 := Nat.mul_le_mul (by omega) (by omega)
    have e2 : us.length * (2 * b.ts.length + 5) ≤ 101 * 205 := Nat.mul_le_mul (by omega) (by omega)
    have e4 : (colR r j).length * (2 * 1 + 5) ≤ 101 * 7 := Nat.mul_le_mul (by rw [colR_colI, List.length_map, hc]; omega) (by omega)
    have e3 : (gtR r sz).length = (bearS b.ts).length := hg
    show (nd (pcsD (P r 0)) + (nd (pcsD (P us 0)) + (nd (iT (gtR r sz)) + (nd (pcsD (P (colR r j) 0)) + (1 + (nd lst + (1 + (nd (.tuple (eqL c num)) + 0)))))))) + 1 ≤ 900000
    rw [ilst.2]
    have n1' : nd (pcsD (P r 0)) ≤ r.length * (2 * (bearS b.ts).length + 5) + 1 := n1
    have n2' : nd (pcsD (P us 0)) ≤ us.length * (2 * b.ts.length + 5) + 1 := n2
    omega
  obtain ⟨cf, f1, f2⟩ := ev_alike (.list (T1 ++ T2)) (.list (T1 ++ T2)) β5 pbd pbd ndd
  have hcf : cf = true := f2.mpr rfl
  subst hcf
  have FIN := mCall_ok (f := m_law_alike) (mAv_ok (m := mNm 14) (ρ := ρ9) (β := β5) (β1 := β5) (d := .list (T1 ++ T2)) rfl (mAv_ok (ma := mAn) FIN2 rfl)) f1
  exact ⟨β5, fn_rt (ρ' := ρ9) (seq_nx S1 (seq_nx S2 (seq_nx S3 (seq_nx S4 (seq_nx S5 (seq_nx S6 (seq_nx S7 (seq_nx S8 (seq_nx S9 (mRet_ok FIN))))))))))⟩
end K31
namespace K31
open PySem PySem.Spec PyProof.Rows L2 M
/-! ### _law_met ends -/
theorem keysD_iT (st : List Int) : keysD (iT st) = some (st.map fun i => (Sum.inl i : Key)) := by
  show keysD.go (st.map .int) = _
  induction st with
  | nil => rfl
  | cons x r ih =>
    rw [List.map_cons]
    unfold keysD.go
    rw [ih]
    rfl
theorem put_new {kvs : List (List Key × D)} {k : List Key} {v : D} (h : (getA kvs k).isSome = false) : (putA kvs k v).length = kvs.length + 1 := by
  have : (kvs.any fun kv => decide (kv.1 = k)) = false := by
    rw [Bool.eq_false_iff]
    intro hc
    rw [List.any_eq_true] at hc
    unfold getA at h
    rw [Option.isSome_map, List.find?_isSome.mpr hc] at h
    cases h
  unfold putA
  rw [this]
  simp
structure MetI (b : Bk) (kvs : List (List Key × D)) (ln : List (List Int)) : Prop where
  len : ln.length = kvs.length
  most : kvs.length ≤ 60
  wid : ∀ s ∈ ln, s.length = b.ts.length
abbrev meR (b : Bk) (kvs : List (List Key × D)) (ln : List (List Int)) (n : Nat) (s5 s6 s7 : Slot) : List Slot := [.v (bkD b), .v (.int 60), .dt kvs, .own (ln.map iT), .v (.int (n : Nat)), s5, s6, s7]
abbrev meIn : MS := (mSeq (mSet 7 (mXv (mOp ixD (mCall m_law_bear (mAv (mNm 0) (mAv (mNm 5) (mAv (mNm 6) mAn)))) (mC (.int 1)))))
    (mIfS (mTest (mTin true 2 (mNm 7))) (mSeq (mIfS (mTest (mOp eqD (mTlen 2) (mPk 1))) (mRet (mC .none)) (fun ρ β => some (.nx, ρ, β)))
    (mSeq (mTput 2 (mNm 7) (mC (.bool true)))
    (mApp 3 (mNm 7)))) (fun ρ β => some (.nx, ρ, β))))
theorem me_in {b : Bk} (h : BkOk b) {kvs : List (List Key × D)} {ln : List (List Int)} (hI : MetI b kvs ln) (n : Nat) (st : List Int) (hst : st.length = b.ts.length) {k : Str} (hk : ok k) (sz : Int) (s7 : Slot) (β : Bag) :
    (∃ kvs' ln' t7, meIn (meR b kvs ln n (.v (iT st)) (.v (lossD k sz)) s7) β = some (.nx, meR b kvs' ln' n (.v (iT st)) (.v (lossD k sz)) t7, β) ∧ MetI b kvs' ln' ∧ ln.length ≤ ln'.length) ∨ ∃ ρ', meIn (meR b kvs ln n (.v (iT st)) (.v (lossD k sz)) s7) β = some (.rt .none, ρ', β) := by
  have hl := hI.len
  have hm := hI.most
  let u := usedB b st k sz
  have hu : u.length = b.ts.length := usedB_len hst k sz
  let ρ1 := meR b kvs ln n (.v (iT st)) (.v (lossD k sz)) (.v (iT u))
  have S1 : mSet 7 (mXv (mOp ixD (mCall m_law_bear (mAv (mNm 0) (mAv (mNm 5) (mAv (mNm 6) mAn)))) (mC (.int 1)))) (meR b kvs ln n (.v (iT st)) (.v (lossD k sz)) s7) β = some (.nx, ρ1, β) :=
    mSet_ok (mOp_ok (β1 := β) (β2 := β) (mCall_ok (β1 := β) (ss := [.v (bkD b), .v (iT st), .v (lossD k sz)]) rfl (ev_law_bear h st hst hk sz β)) rfl rfl)
  have ht : mTest (mTin true 2 (mNm 7)) ρ1 β = some (!(getA kvs (u.map fun i => (Sum.inl i : Key))).isSome, β) := by
    refine mTest_ok ?_
    have e1 : mNm 7 ρ1 β = some (iT u, β) := rfl
    have e2 : slotT ρ1[2]? = some kvs := rfl
    unfold mTin
    simp only [e1, e2, keysD_iT, Option.bind_some, Option.map_some, if_true]
  cases hg : (getA kvs (u.map fun i => (Sum.inl i : Key))).isSome with
  | true => exact .inl ⟨kvs, ln, .v (iT u), seq_nx S1 ((mIfS_f (ht.trans (by rw [hg]; rfl))).trans rfl), hI, Nat.le_refl _⟩
  | false =>
  have go := mIfS_t (m1 := (mSeq (mIfS (mTest (mOp eqD (mTlen 2) (mPk 1))) (mRet (mC .none)) (fun ρ β => some (.nx, ρ, β))) (mSeq (mTput 2 (mNm 7) (mC (.bool true))) (mApp 3 (mNm 7))))) (m2 := fun ρ β => some (.nx, ρ, β)) (ht.trans (by rw [hg]; rfl))
  have hl2 : mTest (mOp eqD (mTlen 2) (mPk 1)) ρ1 β = some (decide ((kvs.length : Int) = 60), β) := mTest_ok (mOp_ok (β1 := β) (β2 := β) (d := .int (kvs.length : Nat)) (e := .int 60) rfl rfl (eqD_int _ _))
  by_cases h60 : (kvs.length : Int) = 60
  · exact .inr ⟨ρ1, seq_nx S1 (go.trans (seq_rt ((mIfS_t (hl2.trans (by rw [decide_eq_true h60]))).trans rfl)))⟩
  let kvs' := putA kvs (u.map fun i => (Sum.inl i : Key)) (.bool true)
  have hpl : kvs'.length = kvs.length + 1 := put_new hg
  let ρ2 := meR b kvs' ln n (.v (iT st)) (.v (lossD k sz)) (.v (iT u))
  have S3 : mTput 2 (mNm 7) (mC (.bool true)) ρ1 β = some (.nx, ρ2, β) := by
    have e0 : mC (.bool true) ρ1 β = some (.bool true, β) := rfl
    have e1 : mNm 7 ρ1 β = some (iT u, β) := rfl
    have e2 : slotT ρ1[2]? = some kvs := rfl
    unfold mTput
    simp only [e0, e1, e2, keysD_iT, Option.bind_some]
    rw [if_pos (by rw [szN]; omega)]
    rfl
  have S4 : mApp 3 (mNm 7) ρ2 β = some (.nx, meR b kvs' (ln ++ [u]) n (.v (iT st)) (.v (lossD k sz)) (.v (iT u)), β) := by
    refine (mApp_ok (β1 := β) (ds := ln.map iT) (d := iT u) rfl rfl (by rw [List.length_map, szN]; omega)).trans ?_
    have : (ln ++ [u]).map iT = ln.map iT ++ [iT u] := by rw [List.map_append]; rfl
    show _ = some (Out.nx, [Slot.v (bkD b), .v (.int 60), .dt kvs', .own ((ln ++ [u]).map iT), _, _, _, _], β)
    rw [this]
    rfl
  refine .inl ⟨kvs', ln ++ [u], .v (iT u), seq_nx S1 (go.trans (seq_nx ((mIfS_f (hl2.trans (by rw [decide_eq_false h60]))).trans rfl) (seq_nx S3 S4))), ⟨by rw [List.length_append, List.length_singleton]; omega, by omega, fun s hs => ?_⟩, by rw [List.length_append]; omega⟩
  rcases List.mem_append.mp hs with hs | hs
  · exact hI.wid s hs
  · rw [List.mem_singleton.mp hs]; exact hu
theorem ev_law_met {b : Bk} (h : BkOk b) (β : Bag) : ∃ d, m_law_met [.v (bkD b), .v (.int 60)] β = some (d, β) := by
  unfold m_law_met b_law_met
  let f0 := b.ts.map fun _ => (0 : Int)
  let ρ0 : List Slot := [.v (bkD b), .v (.int 60), .no, .no, .no, .no, .no, .no]
  have ef : mCall m_law_first (mAv (mNm 0) mAn) ρ0 β = some (iT f0, β) := mCall_ok (β1 := β) (ss := [.v (bkD b)]) rfl (ev_law_first b h β)
  have S1 : mPar3 2 3 4 (mXt (mCall m_law_first (mAv (mNm 0) mAn)) (mC (.bool true))) (mXn (mLd (mLc1 (mCall m_law_first (mAv (mNm 0) mAn)) mLn))) (mXv (mC (.int 0))) ρ0 β = some (.nx, meR b [(f0.map fun i => (Sum.inl i : Key), .bool true)] [f0] 0 .no .no .no, β) := by
    refine mPar3_ok (β1 := β) (β2 := β) (a := .dt [(f0.map fun i => (Sum.inl i : Key), .bool true)]) (b := .own ([f0].map iT)) (c := .v (.int 0)) ?_ ?_ rfl
    · have e0 : mC (.bool true) ρ0 β = some (.bool true, β) := rfl
      unfold mXt
      simp only [ef, e0, keysD_iT, Option.bind_some, Option.map_some]
    · have : mLd (mLc1 (mCall m_law_first (mAv (mNm 0) mAn)) mLn) ρ0 β = some ([iT f0], β) := mLd_ok (mLc1_ok ef rfl) (by rw [szN]; exact (by decide : 1 ≤ 16777216))
      unfold mXn
      rw [this]
      rfl
  let I : Nat → List Slot → Bag → Prop := fun m ρ β' => β' = β ∧ ∃ kvs ln n s5 s6 s7, ρ = meR b kvs ln n s5 s6 s7 ∧ MetI b kvs ln ∧ n ≤ ln.length ∧ m = 60 - n
  let post : Out → List Slot → Bag → Prop := fun o ρ β' => β' = β ∧ ((o = .nx ∧ ∃ kvs ln n s5 s6 s7, ρ = meR b kvs ln n s5 s6 s7) ∨ ∃ d, o = .rt d)
  have step : ∀ m ρ β2, I m ρ β2 → (∃ β1, mTest (mOp ltD (mPk 4) (mF lenD (mPk 3))) ρ β2 = some (false, β1) ∧ post .nx ρ β1) ∨ ∃ β1 ρ' β', mTest (mOp ltD (mPk 4) (mF lenD (mPk 3))) ρ β2 = some (true, β1) ∧ (((mSeq (mPar2 5 4 (mXv (mOp ixD (mPk 3) (mPk 4))) (mXv (mOp addD (mPk 4) (mC (.int 1)))))
    (mFor (mIt (mCall m_law_losses (mAv (mNm 0) mAn))) (mGn 6) meIn)) ρ β1 = some (.nx, ρ', β') ∧ ∃ m', m' < m ∧ I m' ρ' β') ∨ ∃ d, (mSeq (mPar2 5 4 (mXv (mOp ixD (mPk 3) (mPk 4))) (mXv (mOp addD (mPk 4) (mC (.int 1)))))
    (mFor (mIt (mCall m_law_losses (mAv (mNm 0) mAn))) (mGn 6) meIn)) ρ β1 = some (.rt d, ρ', β') ∧ post (.rt d) ρ' β') := by
    rintro m ρ β2 ⟨rfl, kvs, ln, n, s5, s6, s7, rfl, hI, hn, rfl⟩
    have hl := hI.len
    have hm := hI.most
    have ht : mTest (mOp ltD (mPk 4) (mF lenD (mPk 3))) (meR b kvs ln n s5 s6 s7) β2 = some (decide ((n : Int) < (ln.length : Int)), β2) := mTest_ok (mOp_ok (β1 := β2) (β2 := β2) (d := .int (n : Nat)) (e := .int (ln.length : Nat)) rfl (mF_ok (β1 := β2) (d := .list (ln.map iT)) rfl (by rw [lenD_lst, List.length_map])) (ltD_int _ _))
    by_cases hlt : n < ln.length
    rotate_left
    · exact .inl ⟨β2, ht.trans (by rw [decide_eq_false (by omega)]), rfl, .inl ⟨rfl, _, _, _, _, _, _, rfl⟩⟩
    have ht := ht.trans (by rw [decide_eq_true (by omega)] : _ = some (true, β2))
    have hst := hI.wid (gtR ln n) (List.mem_of_getElem? (gtR_some hlt))
    have P1 : mPar2 5 4 (mXv (mOp ixD (mPk 3) (mPk 4))) (mXv (mOp addD (mPk 4) (mC (.int 1)))) (meR b kvs ln n s5 s6 s7) β2 = some (.nx, meR b kvs ln (n + 1) (.v (iT (gtR ln n))) s6 s7, β2) :=
      mPar2_ok (β1 := β2) (β2 := β2) (d := iT (gtR ln n)) (e := .int ((n + 1 : Nat) : Int)) (mOp_ok (β1 := β2) (β2 := β2) (d := .list (ln.map iT)) (e := .int (n : Nat)) rfl rfl (atI_row hlt)) rfl
    let J : Nat → List Slot → Bag → Prop := fun _ ρ β' => β' = β2 ∧ ∃ kvs' ln' t6 t7, ρ = meR b kvs' ln' (n + 1) (.v (iT (gtR ln n))) t6 t7 ∧ MetI b kvs' ln' ∧ ln.length ≤ ln'.length
    have lp := for_ret (mg := mGn 6) (mb := meIn) (post := fun d β' => β' = β2) J (lossesL b) 0 (meR b kvs ln (n + 1) (.v (iT (gtR ln n))) s6 s7) β2 ⟨rfl, kvs, ln, s6, s7, rfl, hI, Nat.le_refl _⟩ (by
      rintro i d ρ β' hd ⟨rfl, kvs', ln', t6, t7, rfl, hI', hle⟩
      have hdm := List.mem_of_getElem? hd
      obtain ⟨k, hk, hd2⟩ := List.mem_flatMap.mp hdm
      obtain ⟨sz, _, rfl⟩ := List.mem_map.mp hd2
      rcases me_in h hI' (n + 1) (gtR ln n) hst (h.ks k hk) (sz : Nat) t7 β' with ⟨kvs2, ln2, u7, q1, q2, q3⟩ | ⟨ρ', q1⟩
      · exact ⟨_, _, β', rfl, .inl ⟨q1, rfl, kvs2, ln2, _, _, rfl, q2, by omega⟩⟩
      · exact ⟨_, ρ', β', rfl, .inr ⟨_, q1, rfl⟩⟩)
    have hlo : mIt (mCall m_law_losses (mAv (mNm 0) mAn)) (meR b kvs ln (n + 1) (.v (iT (gtR ln n))) s6 s7) β2 = some (lossesL b, β2) := mIt_ok (mCall_ok (β1 := β2) (ss := [.v (bkD b)]) rfl (ev_law_losses h β2)) rfl
    rcases lp with ⟨ρ', β', q1, rfl, kvs', ln', t6, t7, rfl, hI', hle⟩ | ⟨d, ρ', β', q1, rfl⟩
    · exact .inr ⟨β', _, β', ht, .inl ⟨seq_nx P1 ((mFor_ok hlo).trans q1), 60 - (n + 1), by omega, rfl, kvs', ln', n + 1, _, _, _, rfl, hI', by omega, rfl⟩⟩
    · exact .inr ⟨β', ρ', β', ht, .inr ⟨d, seq_nx P1 ((mFor_ok hlo).trans q1), rfl, .inr ⟨d, rfl⟩⟩⟩
  obtain ⟨o, ρ', β', w1, rfl, w2⟩ := wh_ind I post step 1000000 60 _ β (by omega) ⟨rfl, [(f0.map fun i => (Sum.inl i : Key), .bool true)], [f0], 0, .no, .no, .no, rfl, ⟨rfl, by show 1 ≤ 60; omega, fun s hs => by rw [List.mem_singleton.mp hs]; exact List.length_map ..⟩, Nat.zero_le _, rfl⟩
  rcases w2 with ⟨rfl, kvs, ln, n, s5, s6, s7, rfl⟩ | ⟨d, rfl⟩
  · exact ⟨_, fn_rt (seq_nx S1 (seq_nx w1 rfl))⟩
  · exact ⟨d, fn_rt (seq_nx S1 (seq_rt w1))⟩
end K31
namespace K31
open PySem PySem.Spec PyProof.Rows L2 M
/-! ### drawn treaties -/
theorem pn_strT {xs : List Str} (h : ∀ x ∈ xs, ok x) : pn (strT xs) := by
  refine ⟨?_, ?_⟩
  · unfold nb
    exact nbA_of xs fun x hx => by unfold nb; exact h x hx
  · unfold PyData.depth
    have := depthA_of (f := PyData.str) (k := 0) xs fun _ _ => Nat.le_refl _
    omega
theorem sub_strs {ys : List D} {ks : List Str} (h : ∀ y ∈ ys, ∃ x ∈ ks.map PyData.str, y = x) : ∃ l : List Str, ys = l.map .str ∧ ∀ x ∈ l, x ∈ ks := by
  induction ys with
  | nil => exact ⟨[], rfl, nofun⟩
  | cons y r ih =>
    obtain ⟨l, rfl, hl⟩ := ih fun z hz => h z (List.mem_cons_of_mem _ hz)
    obtain ⟨x, hx, rfl⟩ := h y List.mem_cons_self
    obtain ⟨k, hk, rfl⟩ := List.mem_map.mp hx
    exact ⟨k :: l, rfl, fun z hz => (List.mem_cons.mp hz).elim (fun e => e ▸ hk) (hl z)⟩
abbrev trR (nm pt : Str) (srcs ks : List Str) (s5 s6 s7 s8 s9 s10 : Slot) : List Slot := [.bag, .v (.str nm), .v (.str pt), .v (.list (srcs.map .str)), .v (strT ks), s5, s6, s7, s8, s9, s10, .no, .no]
open Classical in
theorem ev_treaty {nm pt : Str} {srcs ks : List Str} (hnm : ok nm) (hpt : ok pt) (hsr : ∀ x ∈ srcs, ok x) (hks : ∀ x ∈ ks, ok x) (hk0 : ks ≠ []) (hkl : ks.length ≤ 10) (hsl : srcs.length ≤ 1000) (hex : ∃ s ∈ srcs, s ≠ pt) (β : Bag) :
    ∃ t β', m_law_treaty [.bag, .v (.str nm), .v (.str pt), .v (.list (srcs.map .str)), .v (strT ks)] β = some (trD t, β') ∧ TrOk t ∧ t.nm = nm ∧ t.pt = pt ∧ t.src ∈ srcs ∧ t.src ≠ pt := by
  unfold m_law_treaty b_law_treaty
  let ρ0 := trR nm pt srcs ks .no .no .no .no .no .no
  obtain ⟨sx, β1, s1, s1m⟩ := some_ok (e := mLst (mLc1 (mC (.str "layer")) (mLc1 (mC (.str "layer")) (mLc1 (mC (.str "share")) (mLc1 (mC (.str "stop")) mLn))))) (ρ := ρ0) (β := β) (β1 := β) (d := .list [.str "layer", .str "layer", .str "share", .str "stop"]) rfl rfl rfl (by simp) (by simp)
  have hso : ∃ so : Str, sx = .str so ∧ ok so ∧ (so = "layer" ∨ so = "share" ∨ so = "stop") := by
    simp only [List.mem_cons, List.not_mem_nil, or_false] at s1m
    rcases s1m with rfl | rfl | rfl | rfl
    · exact ⟨_, rfl, ok_layer, .inl rfl⟩
    · exact ⟨_, rfl, ok_layer, .inl rfl⟩
    · exact ⟨_, rfl, ok_share, .inr (.inl rfl)⟩
    · exact ⟨_, rfl, ok_stop, .inr (.inr rfl)⟩
  obtain ⟨so, rfl, hsok, hsc⟩ := hso
  let ρ1 := trR nm pt srcs ks (.v (.str so)) .no .no .no .no .no
  -- the kinds
  obtain ⟨ys, β2, o1, o2, o3⟩ := lcGo_rel (ρ := ρ1) (mg := mGn 11) (mt := mTest (mOp gtD (mCall m_law_take (mAb 0 (mAv (mC (.int 4)) mAn))) (mC (.int 0)))) (me := mNm 11) (R := fun x y => y = x) (ks.map .str) (fun x hx β => by
    obtain ⟨r, β', t1, _⟩ := take_ok (e := mC (.int 4)) (ρ := ρ1.set 11 (.v x)) (β := β) (β1 := β) (n := 4) rfl rfl (by omega) (by omega)
    exact ⟨_, _, β', rfl, mTest_ok (mOp_ok t1 rfl (gtD_int _ _)), fun _ => ⟨x, β', rfl, rfl⟩⟩) β1
  obtain ⟨l, rfl, hl⟩ := sub_strs o3
  rw [List.length_map, List.length_map] at o2
  let ρ2 := trR nm pt srcs ks (.v (.str so)) (.v (strT l)) .no .no .no .no
  have S2 : mSet 6 (mXv (mF tupOfD (mFz (mLc [11] (mIt (mNm 4)) (mGn 11) (mTest (mOp gtD (mCall m_law_take (mAb 0 (mAv (mC (.int 4)) mAn))) (mC (.int 0)))) (mNm 11))))) ρ1 β1 = some (.nx, ρ2, β2) :=
    mSet_ok (mF_ok (mFz_ok (mLc_ok (β1 := β1) (vs := [11]) (ρ := ρ1) (mIt_ok (β1 := β1) (d := strT ks) rfl rfl) o1 (by rw [List.length_map, szN]; omega))) rfl)
  have hS3 : ∃ on : List Str, mSet 6 (mXv (mIf (mTest (mOp neD (mPk 6) (mTup mLn))) (mNm 6) (mNm 4))) ρ2 β2 = some (.nx, trR nm pt srcs ks (.v (.str so)) (.v (strT on)) .no .no .no .no, β2) ∧ (∀ x ∈ on, x ∈ ks) ∧ on.length ≤ 10 := by
    have ht : mTest (mOp neD (mPk 6) (mTup mLn)) ρ2 β2 = some (!(l.map PyData.str).isEmpty, β2) := mTest_ok (mOp_ok (β1 := β2) (β2 := β2) (d := strT l) rfl rfl (pn_nend (pn_strT fun x hx => hks x (hl x hx)) rfl))
    cases he : (l.map PyData.str).isEmpty with
    | true => exact ⟨ks, mSet_ok ((mIf_f (ht.trans (by rw [he]; rfl))).trans rfl), fun x hx => hx, hkl⟩
    | false => exact ⟨l, mSet_ok ((mIf_t (ht.trans (by rw [he]; rfl))).trans rfl), hl, by omega⟩
  obtain ⟨on, S3, hon, honl⟩ := hS3
  let ρ3 := trR nm pt srcs ks (.v (.str so)) (.v (strT on)) .no .no .no .no
  -- the source
  have lsrc : lcGo ρ3 (mGn 12) (mTest (mOp neD (mPk 12) (mPk 2))) (mNm 12) (srcs.map .str) β2 = some ((srcs.filter fun s => !decide (s = pt)).map .str, β2) :=
    lcGo_filter PyData.str PyData.str (fun s => !decide (s = pt)) srcs fun s hs => ⟨_, rfl, mTest_ok (mOp_ok (β1 := β2) (β2 := β2) (d := .str s) (e := .str pt) rfl rfl (neD_str (hsr s hs) hpt)), fun _ => rfl⟩
  have esrc : mFz (mLc [12] (mIt (mNm 3)) (mGn 12) (mTest (mOp neD (mPk 12) (mPk 2))) (mNm 12)) ρ3 β2 = some (.list ((srcs.filter fun s => !decide (s = pt)).map .str), β2) :=
    mFz_ok (mLc_ok (β1 := β2) (vs := [12]) (ρ := ρ3) (mIt_ok (β1 := β2) (d := .list (srcs.map .str)) rfl rfl) lsrc (by rw [List.length_map]; have := List.length_filter_le (fun s => !decide (s = pt)) srcs; rw [szN]; omega))
  obtain ⟨s0, hs0, hs0p⟩ := hex
  obtain ⟨vx, β3, v1, v2⟩ := some_ok (ρ := ρ3) (β := β2) rfl esrc rfl (by
    intro e
    have : s0 ∈ srcs.filter fun s => !decide (s = pt) := List.mem_filter.mpr ⟨hs0, by rw [decide_eq_false hs0p]; rfl⟩
    rw [List.map_eq_nil_iff.mp e] at this
    cases this) (by rw [List.length_map]; have := List.length_filter_le (fun s => !decide (s = pt)) srcs; omega)
  obtain ⟨src, hsm, rfl⟩ := List.mem_map.mp v2
  obtain ⟨hsrc, hsp⟩ := List.mem_filter.mp hsm
  have hsp : src ≠ pt := by
    rintro rfl
    simp at hsp
  let ρ4 := trR nm pt srcs ks (.v (.str so)) (.v (strT on)) (.v (.str src)) .no .no .no
  have S4 : mSet 7 (mXv (mCall m_law_some (mAb 0 (mAv (mFz (mLc [12] (mIt (mNm 3)) (mGn 12) (mTest (mOp neD (mPk 12) (mPk 2))) (mNm 12))) mAn)))) ρ3 β2 = some (.nx, ρ4, β3) := mSet_ok v1
  -- the numbers
  have tst : ∀ (x : Str) (hx : ok x) (s8 s9 : Slot) (β : Bag), mTest (mOp eqD (mPk 5) (mC (.str x))) (trR nm pt srcs ks (.v (.str so)) (.v (strT on)) (.v (.str src)) s8 s9 .no) β = some (decide (so = x), β) := fun x hx s8 s9 β => mTest_ok (mOp_ok (β1 := β) (β2 := β) (d := .str so) rfl rfl (eqD_str hsok hx))
  have hS5 : ∃ fs sc β4, (mIfS (mTest (mOp eqD (mPk 5) (mC (.str "layer")))) (mPar2 8 9 (mXv (mOp addD (mC (.int 1)) (mCall m_law_take (mAb 0 (mAv (mC (.int 6)) mAn))))) (mXv (mCall m_law_take (mAb 0 (mAv (mC (.int 5)) mAn))))) (mIfS (mTest (mOp eqD (mPk 5) (mC (.str "share")))) (mSeq (mSet 9 (mXv (mOp addD (mC (.int 1)) (mCall m_law_take (mAb 0 (mAv (mC (.int 4)) mAn))))))
    (mSet 8 (mXv (mOp addD (mC (.int 1)) (mCall m_law_take (mAb 0 (mAv (mNm 9) mAn))))))) (mPar2 8 9 (mXv (mOp addD (mC (.int 1)) (mCall m_law_take (mAb 0 (mAv (mC (.int 5)) mAn))))) (mXv (mCall m_law_take (mAb 0 (mAv (mC (.int 4)) mAn))))))) ρ4 β3 = some (.nx, trR nm pt srcs ks (.v (.str so)) (.v (strT on)) (.v (.str src)) (.v (.int fs)) (.v (.int sc)) .no, β4) ∧ (0 ≤ fs ∧ fs ≤ 1000) ∧ (0 ≤ sc ∧ sc ≤ 1000) ∧ (so ≠ "stop" → so ≠ "layer" → 1 ≤ sc) := by
    by_cases hly : so = "layer"
    · obtain ⟨a, β5, a1, a2, a3⟩ := take_ok (e := mC (.int 6)) (ρ := ρ4) (β := β3) (β1 := β3) (n := 6) rfl rfl (by omega) (by omega)
      obtain ⟨c, β6, c1, c2, c3⟩ := take_ok (e := mC (.int 5)) (ρ := ρ4) (β := β5) (β1 := β5) (n := 5) rfl rfl (by omega) (by omega)
      exact ⟨1 + a, c, β6, (mIfS_t ((tst _ ok_layer .no .no β3).trans (by rw [decide_eq_true hly]))).trans (mPar2_ok (mOp_ok (β1 := β3) (d := .int 1) rfl a1 rfl) c1), by omega, by omega, fun _ q => absurd hly q⟩
    by_cases hsh : so = "share"
    · obtain ⟨a, β5, a1, a2, a3⟩ := take_ok (e := mC (.int 4)) (ρ := ρ4) (β := β3) (β1 := β3) (n := 4) rfl rfl (by omega) (by omega)
      obtain ⟨c, β6, c1, c2, c3⟩ := take_ok (e := mNm 9) (ρ := trR nm pt srcs ks (.v (.str so)) (.v (strT on)) (.v (.str src)) .no (.v (.int (1 + a))) .no) (β := β5) (β1 := β5) (n := 1 + a) rfl rfl (by omega) (by omega)
      exact ⟨1 + c, 1 + a, β6, (mIfS_f ((tst _ ok_layer .no .no β3).trans (by rw [decide_eq_false hly]))).trans ((mIfS_t ((tst _ ok_share .no .no β3).trans (by rw [decide_eq_true hsh]))).trans (seq_nx (mSet_ok (mOp_ok (β1 := β3) (d := .int 1) rfl a1 rfl)) (mSet_ok (mOp_ok (β1 := β5) (d := .int 1) rfl c1 rfl)))), by omega, by omega, fun _ _ => by omega⟩
    · have hst : so = "stop" := (hsc.resolve_left hly).resolve_left hsh
      obtain ⟨a, β5, a1, a2, a3⟩ := take_ok (e := mC (.int 5)) (ρ := ρ4) (β := β3) (β1 := β3) (n := 5) rfl rfl (by omega) (by omega)
      obtain ⟨c, β6, c1, c2, c3⟩ := take_ok (e := mC (.int 4)) (ρ := ρ4) (β := β5) (β1 := β5) (n := 4) rfl rfl (by omega) (by omega)
      exact ⟨1 + a, c, β6, (mIfS_f ((tst _ ok_layer .no .no β3).trans (by rw [decide_eq_false hly]))).trans ((mIfS_f ((tst _ ok_share .no .no β3).trans (by rw [decide_eq_false hsh]))).trans (mPar2_ok (mOp_ok (β1 := β3) (d := .int 1) rfl a1 rfl) c1)), by omega, by omega, fun q _ => absurd hst q⟩
  obtain ⟨fs, sc, β4, S5, hfs, hscb, hshr⟩ := hS5
  let ρ5 := trR nm pt srcs ks (.v (.str so)) (.v (strT on)) (.v (.str src)) (.v (.int fs)) (.v (.int sc)) .no
  have hS6 : ∃ lm β5, mSet 10 (mXv (mIf (mOr (mTest (mOp eqD (mPk 5) (mC (.str "stop")))) (mTest (mOp eqD (mCall m_law_take (mAb 0 (mAv (mC (.int 3)) mAn))) (mC (.int 0))))) (mC .none) (mOp addD (mC (.int 1)) (mCall m_law_take (mAb 0 (mAv (mC (.int 8)) mAn)))))) ρ5 β4 = some (.nx, trR nm pt srcs ks (.v (.str so)) (.v (strT on)) (.v (.str src)) (.v (.int fs)) (.v (.int sc)) (.v (limD lm)), β5) ∧ ∀ l, lm = some l → 0 ≤ l ∧ l ≤ 1000 := by
    have ht := tst _ ok_stop (.v (.int fs)) (.v (.int sc)) β4
    by_cases hst : so = "stop"
    · exact ⟨none, β4, mSet_ok ((mIf_t (mOr_t (ht.trans (by rw [decide_eq_true hst])))).trans rfl), nofun⟩
    · obtain ⟨a, β5, a1, a2, a3⟩ := take_ok (e := mC (.int 3)) (ρ := ρ5) (β := β4) (β1 := β4) (n := 3) rfl rfl (by omega) (by omega)
      have hz : mTest (mOp eqD (mCall m_law_take (mAb 0 (mAv (mC (.int 3)) mAn))) (mC (.int 0))) ρ5 β4 = some (decide (a = 0), β5) := mTest_ok (mOp_ok a1 rfl (eqD_int _ _))
      have h2 := (mOr_f (m2 := mTest (mOp eqD (mCall m_law_take (mAb 0 (mAv (mC (.int 3)) mAn))) (mC (.int 0)))) (ht.trans (by rw [decide_eq_false hst]))).trans hz
      by_cases ha : a = 0
      · exact ⟨none, β5, mSet_ok ((mIf_t (h2.trans (by rw [decide_eq_true ha]))).trans rfl), nofun⟩
      · obtain ⟨c, β6, c1, c2, c3⟩ := take_ok (e := mC (.int 8)) (ρ := ρ5) (β := β5) (β1 := β5) (n := 8) rfl rfl (by omega) (by omega)
        exact ⟨some (1 + c), β6, mSet_ok ((mIf_f (h2.trans (by rw [decide_eq_false ha]))).trans (mOp_ok (β1 := β5) (d := .int 1) rfl c1 rfl)), fun l hl => by cases hl; omega⟩
  obtain ⟨lm, β5, S6, hlm⟩ := hS6
  let t : Tr := ⟨nm, pt, so, src, fs, sc, lm, on⟩
  refine ⟨t, β5, fn_rt (seq_nx (mSet_ok s1) (seq_nx S2 (seq_nx S3 (seq_nx S4 (seq_nx S5 (seq_nx S6 (mRet_ok (mTup_ok (β1 := β5) (ds := [.str nm, .str pt, .str so, .str src, .int fs, .int sc, limD lm, strT on]) rfl (by rw [szN]; exact (by decide : 8 ≤ 16777216)))))))))), ⟨hnm, hpt, hsok, hsr src hsrc, fun k hk => hks k (hon k hk), hfs, hscb, hshr, hlm, by show on.length ≤ 1000; omega⟩, rfl, rfl, hsrc, hsp⟩
end K31
namespace K31
open PySem PySem.Spec PyProof.Rows L2 M
/-! ### _law_treaties, _law_book -/
theorem bag0_ok {ρ : List Slot} (hb : ρ[0]? = some .bag) {β : Bag} {ma : MA} {q : List Slot × Bag} (h : ma ρ β = some q) : mAb 0 ma ρ β = some (.bag :: q.1, q.2) := by
  simp only [mAb, hb, h, Option.map_some]
theorem mPar2X_ok {i j : Nat} {x1 x2 : MX} {ρ : List Slot} {β β1 β2 : Bag} {a c : Slot} (h1 : x1 ρ β = some (a, β1)) (h2 : x2 ρ β1 = some (c, β2)) : mPar2 i j x1 x2 ρ β = some (.nx, (ρ.set i a).set j c, β2) := by
  simp only [mPar2, h1, h2, Option.bind_some, Option.map_some]
theorem mXv_ok {m : ME} {ρ : List Slot} {β β1 : Bag} {d : D} (h : m ρ β = some (d, β1)) : mXv m ρ β = some (.v d, β1) := by
  simp only [mXv, h, Option.map_some]
theorem add_dedupe2 {x : Str} {ns : List Str} (hx : ok x) (hn : ∀ y ∈ ns, ok y) (hl : ns.length ≤ 1000000) {e1 e2 e3 : ME} {ρ : List Slot} {β : Bag} (h1 : e1 ρ β = some (.list (ns.map .str), β)) (h2 : e2 ρ β = some (.str x, β)) (h3 : e3 ρ β = some (.str x, β)) : mOp addD e1 (mOp mulD (mLst (mLc1 e2 mLn)) (mF M.intD (mOp (inD true) e3 e1))) ρ β = some (.list ((addS ns x).map .str), β) := by
  have hi := mF_ok (f := M.intD) (mOp_ok (f := inD true) (β1 := β) h3 h1 (inD_str rfl hx hn)) rfl
  have hs : mLst (mLc1 e2 mLn) ρ β = some (.list [.str x], β) := mLst_ok (mLc1_ok h2 rfl) (by rw [szN]; exact (by decide : 1 ≤ 16777216))
  by_cases hm : x ∈ ns
  · rw [decide_eq_true hm] at hi
    refine (mOp_ok h1 (mOp_ok hs hi (mul_rep0 _)) (addD_lst (by rw [List.length_map, List.length_nil, szN]; omega))).trans ?_
    unfold addS
    rw [if_pos hm, List.append_nil]
  · rw [decide_eq_false hm] at hi
    refine (mOp_ok h1 (mOp_ok hs hi (mul_rep1 _ (by rw [szN]; exact (by decide : 1 ≤ 16777216)))) (addD_lst (by rw [List.length_map, List.length_singleton, szN]; omega))).trans ?_
    unfold addS
    rw [if_neg hm, List.map_append]
    rfl
structure TsOk (ts : List Tr) : Prop where
  ok : ∀ t ∈ ts, TrOk t
  src : ∀ t ∈ ts, t.src ∈ bearS ts
theorem bearS_snoc (ts : List Tr) (t : Tr) : bearS (ts ++ [t]) = addS (bearS ts) t.pt := by
  unfold bearS
  rw [List.map_append, List.foldl_append]
  rfl
theorem TsOk.snoc {ts : List Tr} {t : Tr} (h : TsOk ts) (ht : TrOk t) (hs : t.src ∈ bearS ts) : TsOk (ts ++ [t]) := by
  refine ⟨fun u hu => ?_, fun u hu => ?_⟩
  · rcases List.mem_append.mp hu with hu | hu
    · exact h.ok u hu
    · rw [List.mem_singleton.mp hu]; exact ht
  · rw [bearS_snoc, addS_mem]
    rcases List.mem_append.mp hu with hu | hu
    · exact .inl (h.src u hu)
    · rw [List.mem_singleton.mp hu]; exact .inl hs
abbrev tsR (ks : List Str) (n : Nat) (ts : List Tr) (s5 s6 : Slot) : List Slot := [.bag, .v (strT ks), .v (.int (n : Nat)), .own (ts.map trD), .v (.list ((bearS ts).map .str)), s5, s6, .no]
abbrev tsB : MS := (mSeq (mSet 6 (mXv (mCall m_law_some (mAb 0 (mAv (mLst (mLc1 (mC (.str "re")) (mLc1 (mC (.str "mut")) (mLc1 (mC (.str "gov")) mLn)))) mAn)))))
    (mSeq (mSet 6 (mXv (mIf (mTest (mOp neD (mFz (mLc [7] (mIt (mNm 4)) (mGn 7) (mTest (mOp neD (mPk 7) (mPk 6))) (mC (.int 1)))) (mLst mLn))) (mNm 6) (mC (.str "re")))))
    (mSeq (mApp 3 (mCall m_law_treaty (mAb 0 (mAv (mOp ixD (mLst (mLc1 (mC (.str "ta")) (mLc1 (mC (.str "tb")) (mLc1 (mC (.str "tc")) (mLc1 (mC (.str "td")) mLn))))) (mPk 5)) (mAv (mNm 6) (mAv (mNm 4) (mAv (mNm 1) mAn)))))))
    (mSet 4 (mXv (mOp addD (mPk 4) (mOp mulD (mLst (mLc1 (mNm 6) mLn)) (mF M.intD (mOp (inD true) (mPk 6) (mPk 4)))))))))) 
theorem ok_re : ok "re" := by unfold ok; decide +kernel
theorem ok_mut : ok "mut" := by unfold ok; decide +kernel
theorem ok_gov : ok "gov" := by unfold ok; decide +kernel
theorem own_re : ("own" : Str) ≠ "re" := by decide +kernel
theorem own_mut : ("own" : Str) ≠ "mut" := by decide +kernel
theorem own_gov : ("own" : Str) ≠ "gov" := by decide +kernel
def nmL : List Str := ["ta", "tb", "tc", "td", "te"]
theorem nmL_ok : ∀ x ∈ nmL, ok x := by unfold nmL ok; decide +kernel
theorem ts_step {ks : List Str} (hks : ∀ x ∈ ks, ok x) (hk0 : ks ≠ []) (hkl : ks.length ≤ 10) {n : Nat} {ts : List Tr} (h : TsOk ts) (hl : ts.length < 4) (s6 : Slot) (β : Bag) : ∃ t t6 β', tsB (tsR ks n ts (.v (.int (ts.length : Nat))) s6) β = some (.nx, tsR ks n (ts ++ [t]) (.v (.int (ts.length : Nat))) t6, β') ∧ TsOk (ts ++ [t]) := by
  have hbl := bearS_len ts
  have hbo := bearS_ok h.ok
  let s5 : Slot := .v (.int (ts.length : Nat))
  let ρ0 := tsR ks n ts s5 s6
  obtain ⟨px, β1, p1, p2⟩ := some_ok (e := mLst (mLc1 (mC (.str "re")) (mLc1 (mC (.str "mut")) (mLc1 (mC (.str "gov")) mLn)))) (ρ := ρ0) (β := β) (β1 := β) (d := .list [.str "re", .str "mut", .str "gov"]) rfl rfl rfl (by simp) (by simp)
  have hp : ∃ p : Str, px = .str p ∧ ok p ∧ ("own" : Str) ≠ p := by
    simp only [List.mem_cons, List.not_mem_nil, or_false] at p2
    rcases p2 with rfl | rfl | rfl
    · exact ⟨_, rfl, ok_re, own_re⟩
    · exact ⟨_, rfl, ok_mut, own_mut⟩
    · exact ⟨_, rfl, ok_gov, own_gov⟩
  obtain ⟨p, rfl, hpo, hpw⟩ := hp
  let ρ1 := tsR ks n ts s5 (.v (.str p))
  have S2 : ∃ q : Str, mSet 6 (mXv (mIf (mTest (mOp neD (mFz (mLc [7] (mIt (mNm 4)) (mGn 7) (mTest (mOp neD (mPk 7) (mPk 6))) (mC (.int 1)))) (mLst mLn))) (mNm 6) (mC (.str "re")))) ρ1 β1 = some (.nx, tsR ks n ts s5 (.v (.str q)), β1) ∧ ok q ∧ ("own" : Str) ≠ q := by
    have l1 : lcGo ρ1 (mGn 7) (mTest (mOp neD (mPk 7) (mPk 6))) (mC (.int 1)) ((bearS ts).map .str) β1 = some (((bearS ts).filter fun s => !decide (s = p)).map (fun _ => .int 1), β1) :=
      lcGo_filter PyData.str (fun _ => .int 1) (fun s => !decide (s = p)) (bearS ts) fun s hs => ⟨_, rfl, mTest_ok (mOp_ok (β1 := β1) (β2 := β1) (d := .str s) (e := .str p) rfl rfl (neD_str (hbo s hs) hpo)), fun _ => rfl⟩
    have e1 : mFz (mLc [7] (mIt (mNm 4)) (mGn 7) (mTest (mOp neD (mPk 7) (mPk 6))) (mC (.int 1))) ρ1 β1 = some (.list (((bearS ts).filter fun s => !decide (s = p)).map (fun _ => .int 1)), β1) :=
      mFz_ok (mLc_ok (β1 := β1) (vs := [7]) (ρ := ρ1) (mIt_ok (β1 := β1) (d := .list ((bearS ts).map .str)) rfl rfl) l1 (by rw [List.length_map]; have := List.length_filter_le (fun s => !decide (s = p)) (bearS ts); rw [szN]; omega))
    have ht : mTest (mOp neD (mFz (mLc [7] (mIt (mNm 4)) (mGn 7) (mTest (mOp neD (mPk 7) (mPk 6))) (mC (.int 1)))) (mLst mLn)) ρ1 β1 = some (!(((bearS ts).filter fun s => !decide (s = p)).map (fun _ => PyData.int 1)).isEmpty, β1) :=
      mTest_ok (mOp_ok (β1 := β1) (β2 := β1) (e := .list []) e1 rfl (neNil fun x hx => by obtain ⟨_, _, rfl⟩ := List.mem_map.mp hx; exact ⟨rfl, Nat.le_refl _⟩))
    cases he : (((bearS ts).filter fun s => !decide (s = p)).map (fun _ => PyData.int 1)).isEmpty with
    | true => exact ⟨"re", mSet_ok ((mIf_f (ht.trans (by rw [he]; rfl))).trans rfl), ok_re, own_re⟩
    | false => exact ⟨p, mSet_ok ((mIf_t (ht.trans (by rw [he]; rfl))).trans rfl), hpo, hpw⟩
  obtain ⟨q, S2, hqo, hqw⟩ := S2
  let ρ2 := tsR ks n ts s5 (.v (.str q))
  have hi : ts.length < nmL.length := by show _ < 5; omega
  have hnm := nmL_ok nmL[ts.length] (List.getElem_mem _)
  obtain ⟨t, β2, t1, t2, t3, t4, t5, t6⟩ := ev_treaty (nm := nmL[ts.length]) (pt := q) (srcs := bearS ts) (ks := ks) hnm hqo hbo hks hk0 hkl (by omega) ⟨"own", bearS_own ts, hqw⟩ β1
  have hix : mOp ixD (mLst (mLc1 (mC (.str "ta")) (mLc1 (mC (.str "tb")) (mLc1 (mC (.str "tc")) (mLc1 (mC (.str "td")) mLn))))) (mPk 5) ρ2 β1 = some (.str nmL[ts.length], β1) := by
    refine mOp_ok (β1 := β1) (β2 := β1) (d := .list ((nmL.take 4).map .str)) (e := .int (ts.length : Nat)) rfl rfl ?_
    refine atI_nat' ?_
    rw [List.getElem?_map, List.getElem?_take, if_pos hl, List.getElem?_eq_getElem hi]
    rfl
  have S3 : mApp 3 (mCall m_law_treaty (mAb 0 (mAv (mOp ixD (mLst (mLc1 (mC (.str "ta")) (mLc1 (mC (.str "tb")) (mLc1 (mC (.str "tc")) (mLc1 (mC (.str "td")) mLn))))) (mPk 5)) (mAv (mNm 6) (mAv (mNm 4) (mAv (mNm 1) mAn)))))) ρ2 β1 = some (.nx, [.bag, .v (strT ks), .v (.int (n : Nat)), .own (ts.map trD ++ [trD t]), .v (.list ((bearS ts).map .str)), s5, .v (.str q), .no], β2) :=
    mApp_ok (ds := ts.map trD) (d := trD t) (mCall_ok (β1 := β1) (ss := [.bag, .v (.str nmL[ts.length]), .v (.str q), .v (.list ((bearS ts).map .str)), .v (strT ks)]) (bag0_ok rfl (mAv_ok hix rfl)) t1) rfl (by rw [List.length_map, szN]; omega)
  refine ⟨t, .v (.str q), β2, seq_nx (mSet_ok p1) (seq_nx S2 (seq_nx S3 ?_)), h.snoc t2 t5⟩
  have e : tsR ks n (ts ++ [t]) s5 (.v (.str q)) = [.bag, .v (strT ks), .v (.int (n : Nat)), .own (ts.map trD ++ [trD t]), .v (.list ((addS (bearS ts) q).map .str)), s5, .v (.str q), .no] := by
    unfold tsR
    rw [bearS_snoc, t4, List.map_append]
    rfl
  show _ = some (Out.nx, tsR ks n (ts ++ [t]) s5 (.v (.str q)), β2)
  rw [e]
  exact mSet_ok (add_dedupe2 (x := q) (ns := bearS ts) hqo hbo (by omega) rfl rfl rfl)
theorem ev_treaties {ks : List Str} (hks : ∀ x ∈ ks, ok x) (hk0 : ks ≠ []) (hkl : ks.length ≤ 10) (n : Nat) (hn : n ≤ 4) (β : Bag) : ∃ ts β', m_law_treaties [.bag, .v (strT ks), .v (.int (n : Nat))] β = some (.tuple (ts.map trD), β') ∧ ts.length = n ∧ TsOk ts := by
  unfold m_law_treaties b_law_treaties
  let ρ0 : List Slot := [.bag, .v (strT ks), .v (.int (n : Nat)), .no, .no, .no, .no, .no]
  have S1 : mPar2 3 4 (mXn (mLd mLn)) (mXv (mLst (mLc1 (mC (.str "own")) mLn))) ρ0 β = some (.nx, tsR ks n [] .no .no, β) := mPar2X_ok (β1 := β) (a := .own []) rfl (mXv_ok (mLst_ok (β1 := β) (ds := [.str "own"]) rfl (by rw [szN]; exact (by decide : 1 ≤ 16777216))))
  let I : Nat → List Slot → Bag → Prop := fun i ρ β' => ∃ ts s5 s6, ρ = tsR ks n ts s5 s6 ∧ ts.length = i ∧ TsOk ts
  obtain ⟨ρ', β', f1, ts, s5, s6, rfl, hl, hT⟩ := for_inv (mg := mGn 5) (mb := tsB) I (rangeD 0 (n : Int)) 0 (tsR ks n [] .no .no) β ⟨[], .no, .no, rfl, rfl, ⟨nofun, nofun⟩⟩ (by
    rintro i d ρ β' hd ⟨ts, s5, s6, rfl, hl, hT⟩
    rw [Nat.zero_add] at *
    obtain ⟨hi, rfl⟩ := rangeD_at hd
    obtain ⟨t, t6, β2, q1, q2⟩ := ts_step (n := n) hks hk0 hkl hT (by omega) s6 β'
    rw [hl] at q1
    rw [Int.zero_add]
    exact ⟨_, _, β2, rfl, q1, ts ++ [t], _, _, rfl, by rw [List.length_append, List.length_singleton, hl], q2⟩)
  have hlen : (rangeD 0 (n : Int)).length = n := by unfold rangeD; rw [List.length_map, List.length_range]; omega
  rw [Nat.zero_add, hlen] at hl
  exact ⟨ts, β', fn_rt (seq_nx S1 (seq_nx ((mFor_ok (mRg1_ok (β1 := β) (i := (n : Int)) rfl (in62_nat (by omega) (by omega)))).trans f1) (mRet_ok (mF_ok (β1 := β') (d := .list (ts.map trD)) rfl rfl)))), hl, hT⟩
theorem BkOk.of {nm : Str} {ks : List Str} {ms : Nat} {ts : List Tr} (hks : ∀ x ∈ ks, ok x) (hk0 : ks ≠ []) (hkl : ks.length ≤ 10) (hm : ms ≤ 100) (h : TsOk ts) (hl : ts.length ≤ 100) : BkOk ⟨nm, ks, ms, ts⟩ := ⟨hks, hk0, hkl, hm, h.ok, h.src, hl⟩
theorem ok_fire : ok "fire" := by unfold ok; decide +kernel
theorem ok_sea : ok "sea" := by unfold ok; decide +kernel
theorem ok_ta : ok "ta" := by unfold ok; decide +kernel
abbrev bkB : MS := (mSeq (mSet 4 (mXv (mTup (mLc1 (mC (.str "drawn")) (mLc1 (mNm 1) (mLc1 (mNm 2) (mLc1 (mCall m_law_treaties (mAb 0 (mAv (mNm 1) (mAv (mOp addD (mC (.int 1)) (mCall m_law_take (mAb 0 (mAv (mC (.int 3)) mAn)))) mAn)))) mLn)))))))
    (mIfS (mTest (mOp notND (mCall m_law_met (mAv (mNm 4) (mAv (mC (.int 60)) mAn))) (mC .none))) (mRet (mNm 4)) (fun ρ β => some (.nx, ρ, β))))
structure Drawn (b : Bk) : Prop where
  ok : BkOk b
  t0 : 0 < b.ts.length
  t4 : b.ts.length ≤ 4
theorem ev_book (β : Bag) : ∃ b β', m_law_book [.bag] β = some (bkD b, β') ∧ Drawn b := by
  unfold m_law_book b_law_book
  let ρ0 : List Slot := [.bag, .no, .no, .no, .no]
  obtain ⟨r, β1, r1, r2, r3⟩ := take_ok (e := mC (.int 2)) (ρ := ρ0) (β := β) (β1 := β) (n := 2) rfl rfl (by omega) (by omega)
  obtain ⟨q, hq⟩ : ∃ q : Nat, r = (q : Int) := ⟨r.toNat, by omega⟩
  let kk : List Str := ["fire", "sea"]
  let ks : List Str := kk.take (1 + q)
  have hkk : ∀ x ∈ kk, ok x := fun x hx => by
    simp only [kk, List.mem_cons, List.not_mem_nil, or_false] at hx
    rcases hx with rfl | rfl
    · exact ok_fire
    · exact ok_sea
  have hks : ∀ x ∈ ks, ok x := fun x hx => hkk x (List.mem_of_mem_take hx)
  have hkl : ks.length ≤ 10 := by show (List.take _ _).length ≤ 10; rw [List.length_take]; show min _ 2 ≤ 10; omega
  have hk0 : ks ≠ [] := by
    intro e
    have : ks.length = 0 := by rw [e]; rfl
    have h2 : ks.length = min (1 + q) 2 := List.length_take
    omega
  let ρ1 : List Slot := [.bag, .v (strT ks), .no, .no, .no]
  have S1 : mSet 1 (mXv (mSl slD (mTup (mLc1 (mC (.str "fire")) (mLc1 (mC (.str "sea")) mLn))) mOn (mOs (mOp addD (mC (.int 1)) (mCall m_law_take (mAb 0 (mAv (mC (.int 2)) mAn))))))) ρ0 β = some (.nx, ρ1, β1) :=
    mSet_ok (mSl_ok (β1 := β) (β2 := β) (d := strT kk) (hi := some ((1 + q : Nat) : Int)) (mTup_ok (β1 := β) rfl (by rw [szN]; exact (by decide : 2 ≤ 16777216))) rfl (mOs_ok (mOp_ok (β1 := β) (d := .int 1) rfl r1 (by rw [addD_int, hq]; congr 2))) (slD_b PyData.str kk (1 + q) (by show _ ≤ 2; omega)))
  obtain ⟨m, β2, m1, m2, m3⟩ := take_ok (e := mC (.int 7)) (ρ := ρ1) (β := β1) (β1 := β1) (n := 7) rfl rfl (by omega) (by omega)
  obtain ⟨ms, hms⟩ : ∃ q : Nat, 4 + m = (q : Int) := ⟨(4 + m).toNat, by omega⟩
  let ρ2 (s3 s4 : Slot) : List Slot := [.bag, .v (strT ks), .v (.int (ms : Nat)), s3, s4]
  have S2 : mSet 2 (mXv (mOp addD (mC (.int 4)) (mCall m_law_take (mAb 0 (mAv (mC (.int 7)) mAn))))) ρ1 β1 = some (.nx, ρ2 .no .no, β2) := mSet_ok (mOp_ok (β1 := β1) (d := .int 4) rfl m1 (by rw [addD_int, hms]))
  let I : Nat → List Slot → Bag → Prop := fun i ρ β' => ∃ s3 s4, ρ = ρ2 s3 s4
  let post : D → Bag → Prop := fun d _ => ∃ b, d = bkD b ∧ Drawn b
  have lp := for_ret (mg := mGn 3) (mb := bkB) (post := post) I (rangeD 0 5) 0 (ρ2 .no .no) β2 ⟨.no, .no, rfl⟩ (by
    rintro i d ρ β' hd ⟨s3, s4, rfl⟩
    obtain ⟨n, β3, n1, n2, n3⟩ := take_ok (e := mC (.int 3)) (ρ := ρ2 (.v d) s4) (β := β') (β1 := β') (n := 3) rfl rfl (by omega) (by omega)
    obtain ⟨tn, htn⟩ : ∃ q : Nat, 1 + n = (q : Int) := ⟨(1 + n).toNat, by omega⟩
    obtain ⟨ts, β4, t1, t2, t3⟩ := ev_treaties hks hk0 hkl tn (by omega) β3
    let b : Bk := ⟨"drawn", ks, ms, ts⟩
    have hb : BkOk b := BkOk.of hks hk0 hkl (by omega) t3 (by omega)
    have T1 : mSet 4 (mXv (mTup (mLc1 (mC (.str "drawn")) (mLc1 (mNm 1) (mLc1 (mNm 2) (mLc1 (mCall m_law_treaties (mAb 0 (mAv (mNm 1) (mAv (mOp addD (mC (.int 1)) (mCall m_law_take (mAb 0 (mAv (mC (.int 3)) mAn)))) mAn)))) mLn)))))) (ρ2 (.v d) s4) β' = some (.nx, ρ2 (.v d) (.v (bkD b)), β4) :=
      mSet_ok (mTup_ok (ds := [.str "drawn", strT ks, .int (ms : Nat), .tuple (ts.map trD)]) (mLc1_ok (β1 := β') rfl (mLc1_ok (β1 := β') rfl (mLc1_ok (β1 := β') rfl (mLc1_ok (mCall_ok (β1 := β3) (ss := [.bag, .v (strT ks), .v (.int (tn : Nat))]) (bag0_ok rfl (mAv_ok (β1 := β') (d := strT ks) rfl (mAv_ok (mOp_ok (β1 := β') (d := .int 1) rfl n1 (by rw [addD_int, htn])) rfl))) t1) rfl)))) (by rw [szN]; exact (by decide : 4 ≤ 16777216)))
    obtain ⟨x, hx⟩ := ev_law_met hb β4
    have ht : mTest (mOp notND (mCall m_law_met (mAv (mNm 4) (mAv (mC (.int 60)) mAn))) (mC .none)) (ρ2 (.v d) (.v (bkD b))) β4 = some (!isNn x, β4) := mTest_ok (mOp_ok (β1 := β4) (β2 := β4) (mCall_ok (β1 := β4) (ss := [.v (bkD b), .v (.int 60)]) rfl hx) rfl rfl)
    cases hn : isNn x with
    | true => exact ⟨_, _, β4, rfl, .inl ⟨seq_nx T1 ((mIfS_f (ht.trans (by rw [hn]; rfl))).trans rfl), _, _, rfl⟩⟩
    | false => exact ⟨_, _, β4, rfl, .inr ⟨bkD b, seq_nx T1 ((mIfS_t (ht.trans (by rw [hn]; rfl))).trans rfl), b, rfl, ⟨hb, by show 0 < ts.length; omega, by show ts.length ≤ 4; omega⟩⟩⟩)
  have hr : mRg1 (mC (.int 5)) (ρ2 .no .no) β2 = some (rangeD 0 5, β2) := mRg1_ok (β1 := β2) rfl (in62_nat (by omega) (by omega))
  rcases lp with ⟨ρ', β', f1, s3, s4, rfl⟩ | ⟨z, ρ', β', f1, b, rfl, hD⟩
  · let t : Tr := ⟨"ta", "re", "layer", "own", 4, 2, some 6, ks⟩
    let b : Bk := ⟨"plain", ks, ms, [t]⟩
    have hto : TrOk t := ⟨ok_ta, ok_re, ok_layer, ok_own, hks, by show (0 : Int) ≤ 4 ∧ (4 : Int) ≤ 1000; omega, by show (0 : Int) ≤ 2 ∧ (2 : Int) ≤ 1000; omega, fun _ h => absurd rfl h, fun l hl => by cases hl; omega, by show ks.length ≤ 1000; omega⟩
    have hT : TsOk [t] := ⟨fun u hu => by rw [List.mem_singleton.mp hu]; exact hto, fun u hu => by rw [List.mem_singleton.mp hu]; exact bearS_own _⟩
    have hb : BkOk b := BkOk.of hks hk0 hkl (by omega) hT (by show 1 ≤ 100; omega)
    refine ⟨b, β', fn_rt (seq_nx S1 (seq_nx S2 (seq_nx ((mFor_ok hr).trans f1) (mRet_ok (mTup_ok (β1 := β') (ds := [.str "plain", strT ks, .int (ms : Nat), .tuple [trD t]]) (mLc1_ok (β1 := β') rfl (mLc1_ok (β1 := β') rfl (mLc1_ok (β1 := β') rfl (mLc1_ok (β1 := β') (mTup_ok (β1 := β') (mLc1_ok (β1 := β') (mTup_ok (β1 := β') rfl ?_) rfl) ?_) rfl)))) ?_))))), hb, by show 0 < 1; omega, by show 1 ≤ 4; omega⟩
    · rw [szN]; exact (by decide : 8 ≤ 16777216)
    · rw [szN]; exact (by decide : 1 ≤ 16777216)
    · rw [szN]; exact (by decide : 4 ≤ 16777216)
  · exact ⟨b, β', fn_rt (seq_nx S1 (seq_nx S2 (seq_rt ((mFor_ok hr).trans f1)))), hD⟩
end K31
namespace K31
open PySem PySem.Spec PyProof.Rows L2 M
/-! ### _law_turned -/
theorem p63 : (2 : Int) ^ 63 = 9223372036854775808 := by decide +kernel
theorem bnd63 {k : Nat} (h : k ≤ 1000) : -(2 ^ 63) ≤ (k : Int) ∧ (k : Int) < 2 ^ 63 := by
  rw [p63]
  omega
theorem sIx {k n : Nat} (h : k < n) : seqIndex? (k : Int) n = some k := by
  have hj : ¬ ((k : Int) < 0) := by omega
  unfold seqIndex?
  simp only [if_neg hj]
  rw [if_pos (by rw [Bool.and_eq_true_iff]; exact ⟨decide_eq_true (by omega), decide_eq_true (by omega)⟩)]
  rfl
theorem mPopAt_ok {i : Nat} {m : ME} {ρ : List Slot} {β β1 : Bag} {ds : List D} {k : Nat} (h : m ρ β = some (.int (k : Nat), β1)) (hs : ρ[i]? = some (.own ds)) (hk : k < ds.length) (hl : ds.length ≤ 1000) : mPopAt i m ρ β = some (.nx, ρ.set i (.own (ds.eraseIdx k)), β1) := by
  unfold mPopAt
  refine Option.bind_eq_some_iff.mpr ⟨_, h, ?_⟩
  refine Option.bind_eq_some_iff.mpr ⟨ds, by rw [hs]; rfl, ?_⟩
  refine Option.bind_eq_some_iff.mpr ⟨(k : Int), rfl, ?_⟩
  refine (if_pos (bnd63 (by omega))).trans ?_
  refine Option.bind_eq_some_iff.mpr ⟨k, sIx hk, ?_⟩
  rw [List.getElem?_eq_getElem hk, Option.map_some]
theorem mLput_ok {i : Nat} {mj mv : ME} {ρ : List Slot} {β β1 β2 : Bag} {ds : List D} {k : Nat} {d : D} (hv : mv ρ β = some (d, β1)) (hj : mj ρ β1 = some (.int (k : Nat), β2)) (hs : ρ[i]? = some (.own ds)) (hk : k < ds.length) : mLput i mj mv ρ β = some (.nx, ρ.set i (.own (ds.set k d)), β2) := by
  have e1 : slotO ρ[i]? = some ds := by rw [hs]; rfl
  have e2 : ixN ds.length (k : Int) = some k := by
    unfold ixN
    rw [if_pos (Int.natCast_nonneg k), if_pos (by omega)]
    rfl
  unfold mLput
  simp only [hv, hj, e1, e2, Option.bind_some, Option.map_some, toI]
theorem mIfS_p {mt : MT} {m1 m2 : MS} {ρ : List Slot} {β β1 : Bag} {c : Bool} (Q : Option (Out × List Slot × Bag) → Prop) (h : mt ρ β = some (c, β1)) (h1 : c = true → Q (m1 ρ β1)) (h2 : c = false → Q (m2 ρ β1)) : Q (mIfS mt m1 m2 ρ β) := by
  cases c with
  | true => rw [mIfS_t h]; exact h1 rfl
  | false => rw [mIfS_f h]; exact h2 rfl
theorem mAnd_b {m1 m2 : MT} {ρ : List Slot} {β : Bag} {c1 c2 : Bool} (h1 : m1 ρ β = some (c1, β)) (h2 : c1 = true → m2 ρ β = some (c2, β)) : mAnd m1 m2 ρ β = some (c1 && c2, β) := by
  cases c1 with
  | true => rw [mAnd_t h1, h2 rfl]; rfl
  | false => rw [mAnd_f h1]; rfl
theorem erase_map {α β : Type} (f : α → β) : ∀ (xs : List α) (k : Nat), (xs.map f).eraseIdx k = (xs.eraseIdx k).map f
  | [], _ => rfl
  | _ :: _, 0 => rfl
  | x :: r, k + 1 => by
    show f x :: (r.map f).eraseIdx k = f x :: (r.eraseIdx k).map f
    rw [erase_map f r k]
theorem pigeon : ∀ (xs ys : List Str), xs.Nodup → (∀ x ∈ xs, x ∈ ys) → xs.length ≤ ys.length
  | [], _, _, _ => Nat.zero_le _
  | x :: r, ys, hn, h => by
    have hx := h x List.mem_cons_self
    obtain ⟨hxr, hnr⟩ := List.nodup_cons.mp hn
    obtain ⟨a, b, rfl⟩ := List.append_of_mem hx
    have ih := pigeon r (a ++ b) hnr fun z hz => by
      have hz' := h z (List.mem_cons_of_mem _ hz)
      have hne : z ≠ x := by rintro rfl; exact hxr hz
      rcases List.mem_append.mp hz' with q | q
      · exact List.mem_append.mpr (.inl q)
      · rcases List.mem_cons.mp q with q | q
        · exact absurd q hne
        · exact List.mem_append.mpr (.inr q)
    rw [List.length_append] at ih
    rw [List.length_append, List.length_cons, List.length_cons]
    omega
theorem nmL_nodup : nmL.Nodup := by unfold nmL; decide +kernel
theorem fresh_ex (ns : List Str) (h : ns.length < 5) : ∃ x r, nmL.filter (fun x => !decide (x ∈ ns)) = x :: r ∧ x ∈ nmL := by
  cases he : nmL.filter (fun x => !decide (x ∈ ns)) with
  | cons x r =>
    have hx : x ∈ nmL.filter (fun x => !decide (x ∈ ns)) := by rw [he]; exact List.mem_cons_self
    exact ⟨x, r, rfl, (List.mem_filter.mp hx).1⟩
  | nil =>
    exfalso
    have := pigeon nmL ns nmL_nodup fun x hx => by
      by_cases hm : x ∈ ns
      · exact hm
      · have hx : x ∈ nmL.filter (fun x => !decide (x ∈ ns)) := List.mem_filter.mpr ⟨hx, by rw [decide_eq_false hm]; rfl⟩
        rw [he] at hx
        cases hx
    have h5 : nmL.length = 5 := rfl
    omega
abbrev tuR (b : Bk) (s2 s3 : Slot) (way at_ : Int) (t : Tr) (s14 s15 s16 s17 s18 : Slot) : List Slot := [.bag, .v (bkD b), s2, s3, .v (.int way), .v (.int at_), .v (.str t.nm), .v (.str t.pt), .v (.str t.so), .v (.str t.src), .v (.int t.fs), .v (.int t.sc), .v (limD t.lm), .v (strT t.on), s14, s15, s16, s17, s18, .no]
abbrev tuTup (so fs sc lm : ME) : ME := mTup (mLc1 (mNm 6) (mLc1 (mNm 7) (mLc1 so (mLc1 (mNm 9) (mLc1 fs (mLc1 sc (mLc1 lm (mLc1 (mNm 13) mLn))))))))
abbrev tuFresh : MS := (mSeq (mSet 14 (mXv (mFz (mLc [19] (mIt (mLst (mLc1 (mC (.str "ta")) (mLc1 (mC (.str "tb")) (mLc1 (mC (.str "tc")) (mLc1 (mC (.str "td")) (mLc1 (mC (.str "te")) mLn))))))) (mGn 19) (mTest (mOp (inD true) (mPk 19) (mFz (mLc [17] (mIt (mPk 3)) (mGn 17) mYes (mOp ixD (mPk 17) (mC (.int 0))))))) (mNm 19)))))
    (mApp 3 (mCall m_law_treaty (mAb 0 (mAv (mOp ixD (mPk 14) (mC (.int 0))) (mAv (mCall m_law_some (mAb 0 (mAv (mLst (mLc1 (mC (.str "re")) (mLc1 (mC (.str "mut")) mLn))) mAn))) (mAv (mLst (mLc1 (mC (.str "own")) mLn)) (mAv (mOp ixD (mPk 1) (mC (.int 1))) mAn))))))))
abbrev tuIf : MS := (mIfS (mAnd (mTest (mOp eqD (mPk 4) (mC (.int 0)))) (mTest (mOp gtD (mF lenD (mPk 3)) (mC (.int 1))))) (mPopAt 3 (mNm 5)) (mIfS (mAnd (mTest (mOp eqD (mPk 4) (mC (.int 1)))) (mTest (mOp ltD (mF lenD (mPk 3)) (mC (.int 4))))) tuFresh (mIfS (mAnd (mTest (mOp eqD (mPk 4) (mC (.int 2)))) (mTest (mOp neD (mPk 8) (mC (.str "stop"))))) (mLput 3 (mNm 5) (tuTup (mNm 8) (mNm 10) (mNm 11) (mIf (mTest (mOp notND (mPk 12) (mC .none))) (mC .none) (mC (.int 5))))) (mIfS (mAnd (mTest (mOp eqD (mPk 4) (mC (.int 3)))) (mTest (mOp eqD (mPk 8) (mC (.str "layer"))))) (mLput 3 (mNm 5) (tuTup (mNm 8) (mOp addD (mC (.int 1)) (mCall m_law_take (mAb 0 (mAv (mC (.int 6)) mAn)))) (mNm 11) (mNm 12))) (mIfS (mAnd (mTest (mOp eqD (mPk 8) (mC (.str "layer")))) (mAnd (mTest (mOp notND (mPk 12) (mC .none))) (mAnd (mTest (mOp eqD (mPk 11) (mC (.int 0)))) (mTest (mOp geD (mPk 10) (mPk 12)))))) (mLput 3 (mNm 5) (tuTup (mC (.str "stop")) (mNm 12) (mC (.int 0)) (mC .none))) (fun ρ β => some (.nx, ρ, β)))))))
theorem eight {ds : List D} (h : ds.length = 8) : ds.length ≤ sizeLine := by rw [h, szN]; exact (by decide : 8 ≤ 16777216)
theorem tu_tup {so fs sc lm : ME} {b : Bk} {s2 s3 : Slot} {way at_ : Int} {t t' : Tr} {s14 s15 s16 s17 s18 : Slot} {β β1 : Bag} (h1 : so (tuR b s2 s3 way at_ t s14 s15 s16 s17 s18) β = some (.str t'.so, β)) (h2 : fs (tuR b s2 s3 way at_ t s14 s15 s16 s17 s18) β = some (.int t'.fs, β1)) (h3 : sc (tuR b s2 s3 way at_ t s14 s15 s16 s17 s18) β1 = some (.int t'.sc, β1)) (h4 : lm (tuR b s2 s3 way at_ t s14 s15 s16 s17 s18) β1 = some (limD t'.lm, β1)) (e1 : t'.nm = t.nm) (e2 : t'.pt = t.pt) (e3 : t'.src = t.src) (e4 : t'.on = t.on) : tuTup so fs sc lm (tuR b s2 s3 way at_ t s14 s15 s16 s17 s18) β = some (trD t', β1) := by
  have : trD t' = .tuple [.str t.nm, .str t.pt, .str t'.so, .str t.src, .int t'.fs, .int t'.sc, limD t'.lm, strT t.on] := by
    unfold trD
    rw [e1, e2, e3, e4]
  rw [this]
  exact mTup_ok (mLc1_ok (β1 := β) rfl (mLc1_ok (β1 := β) rfl (mLc1_ok h1 (mLc1_ok (β1 := β) rfl (mLc1_ok h2 (mLc1_ok h3 (mLc1_ok h4 (mLc1_ok (β1 := β1) rfl rfl)))))))) (eight rfl)
def TuQ (b : Bk) (s2 : Slot) (way at_ : Int) (t : Tr) (s15 s16 s17 s18 : Slot) (r : Option (Out × List Slot × Bag)) : Prop := ∃ (ts' : List Tr) (s14 : Slot) (β' : Bag), r = some (.nx, tuR b s2 (.own (ts'.map trD)) way at_ t s14 s15 s16 s17 s18, β') ∧ (∀ u ∈ ts', TrOk u) ∧ ts'.length ≤ 4
theorem tu_put {so fs sc lm : ME} {b : Bk} {s2 : Slot} {way : Int} {k : Nat} {t t' : Tr} {ts : List Tr} {s14 s15 s16 s17 s18 : Slot} {β β1 : Bag} (hts : ∀ u ∈ ts, TrOk u) (hl : ts.length ≤ 4) (hk : k < ts.length) (ht : TrOk t')
    (h : tuTup so fs sc lm (tuR b s2 (.own (ts.map trD)) way (k : Nat) t s14 s15 s16 s17 s18) β = some (trD t', β1)) : TuQ b s2 way (k : Nat) t s15 s16 s17 s18 (mLput 3 (mNm 5) (tuTup so fs sc lm) (tuR b s2 (.own (ts.map trD)) way (k : Nat) t s14 s15 s16 s17 s18) β) := by
  refine ⟨ts.set k t', s14, β1, (mLput_ok (β2 := β1) (ds := ts.map trD) (k := k) h rfl rfl (by rw [List.length_map]; exact hk)).trans ?_, fun u hu => ?_, by rw [List.length_set]; exact hl⟩
  · rw [← List.map_set]
    rfl
  · rcases List.mem_or_eq_of_mem_set hu with q | q
    · exact hts u q
    · rw [q]; exact ht
theorem tu_fresh {b : Bk} (h : BkOk b) (s2 : Slot) (way at_ : Int) (t : Tr) {ts : List Tr} (hts : ∀ u ∈ ts, TrOk u) (hl : ts.length < 4) (s14 s15 s16 s17 s18 : Slot) (β : Bag) : TuQ b s2 way at_ t s15 s16 s17 s18 (tuFresh (tuR b s2 (.own (ts.map trD)) way at_ t s14 s15 s16 s17 s18) β) := by
  let ρ0 := tuR b s2 (.own (ts.map trD)) way at_ t s14 s15 s16 s17 s18
  let ρi (x : D) (y : Slot) : List Slot := [.bag, .v (bkD b), s2, .own (ts.map trD), .v (.int way), .v (.int at_), .v (.str t.nm), .v (.str t.pt), .v (.str t.so), .v (.str t.src), .v (.int t.fs), .v (.int t.sc), .v (limD t.lm), .v (strT t.on), s14, s15, s16, y, s18, .v x]
  have ns_ok : ∀ y ∈ ts.map (·.nm), ok y := fun y hy => by
    obtain ⟨u, hu, rfl⟩ := List.mem_map.mp hy
    exact (hts u hu).nm
  have l0 : ∀ x, mFz (mLc [17] (mIt (mPk 3)) (mGn 17) mYes (mOp ixD (mPk 17) (mC (.int 0)))) (ρi x s17) β = some (.list ((ts.map (·.nm)).map .str), β) := fun x => by
    have : lcGo (ρi x .no) (mGn 17) mYes (mOp ixD (mPk 17) (mC (.int 0))) (ts.map trD) β = some ((ts.map (·.nm)).map .str, β) := by
      rw [List.map_map]
      exact lcGo_map _ _ _ fun u _ => ⟨_, rfl, rfl, rfl⟩
    exact mFz_ok (mLc_ok (β1 := β) (vs := [17]) (ρ := ρi x s17) (mIt_ok (β1 := β) (d := .list (ts.map trD)) rfl rfl) this (by rw [List.length_map, List.length_map, szN]; omega))
  have l1 : lcGo ρ0 (mGn 19) (mTest (mOp (inD true) (mPk 19) (mFz (mLc [17] (mIt (mPk 3)) (mGn 17) mYes (mOp ixD (mPk 17) (mC (.int 0))))))) (mNm 19) (nmL.map .str) β = some ((nmL.filter fun x => !decide (x ∈ ts.map (·.nm))).map .str, β) :=
    lcGo_filter PyData.str PyData.str (fun x => !decide (x ∈ ts.map (·.nm))) nmL fun x hx => ⟨ρi (.str x) s17, rfl, mTest_ok (mOp_ok (β1 := β) (β2 := β) (d := .str x) rfl (l0 (.str x)) (inD_str (neg := true) rfl (nmL_ok x hx) ns_ok)), fun _ => rfl⟩
  obtain ⟨x, r, hf, hx⟩ := fresh_ex (ts.map (·.nm)) (by rw [List.length_map]; omega)
  rw [hf] at l1
  let ρ1 := tuR b s2 (.own (ts.map trD)) way at_ t (.v (.list ((x :: r).map .str))) s15 s16 s17 s18
  have hle : (x :: r).length ≤ 5 := by
    rw [← hf]
    exact Nat.le_trans (List.length_filter_le _ _) (Nat.le_refl 5)
  have S1 : mSet 14 (mXv (mFz (mLc [19] (mIt (mLst (mLc1 (mC (.str "ta")) (mLc1 (mC (.str "tb")) (mLc1 (mC (.str "tc")) (mLc1 (mC (.str "td")) (mLc1 (mC (.str "te")) mLn))))))) (mGn 19) (mTest (mOp (inD true) (mPk 19) (mFz (mLc [17] (mIt (mPk 3)) (mGn 17) mYes (mOp ixD (mPk 17) (mC (.int 0))))))) (mNm 19)))) ρ0 β = some (.nx, ρ1, β) :=
    mSet_ok (mFz_ok (mLc_ok (β1 := β) (vs := [19]) (ρ := ρ0) (mIt_ok (β1 := β) (d := .list (nmL.map .str)) (mLst_ok (β1 := β) rfl (by rw [szN]; exact (by decide : 5 ≤ 16777216))) rfl) l1 (by rw [List.length_map, szN]; omega)))
  obtain ⟨px, β1, p1, p2⟩ := some_ok (e := mLst (mLc1 (mC (.str "re")) (mLc1 (mC (.str "mut")) mLn))) (ρ := ρ1) (β := β) (β1 := β) (d := .list [.str "re", .str "mut"]) rfl rfl rfl (by simp) (by simp)
  have hp : ∃ p : Str, px = .str p ∧ ok p ∧ ("own" : Str) ≠ p := by
    simp only [List.mem_cons, List.not_mem_nil, or_false] at p2
    rcases p2 with rfl | rfl
    · exact ⟨_, rfl, ok_re, own_re⟩
    · exact ⟨_, rfl, ok_mut, own_mut⟩
  obtain ⟨p, rfl, hpo, hpw⟩ := hp
  obtain ⟨u, β2, u1, u2, _⟩ := ev_treaty (nm := x) (pt := p) (srcs := ["own"]) (ks := b.ks) (nmL_ok x hx) hpo (fun z hz => by rw [List.mem_singleton.mp hz]; exact ok_own) h.ks h.kn h.kl (by show 1 ≤ 1000; omega) ⟨"own", List.mem_cons_self, hpw⟩ β1
  refine ⟨ts ++ [u], .v (.list ((x :: r).map .str)), β2, seq_nx S1 ((mApp_ok (ds := ts.map trD) (d := trD u) (mCall_ok (β1 := β1) (ss := [.bag, .v (.str x), .v (.str p), .v (.list (([("own" : Str)] : List Str).map .str)), .v (strT b.ks)]) (bag0_ok rfl (mAv_ok (β1 := β) (mOp_ok (β1 := β) (β2 := β) (d := .list ((x :: r).map .str)) (e := .int 0) rfl rfl (atI_nat' (n := 0) rfl)) (mAv_ok p1 (mAv_ok (β1 := β1) (mLst_ok (β1 := β1) rfl (by rw [szN]; exact (by decide : 1 ≤ 16777216))) rfl)))) u1) rfl (by rw [List.length_map, szN]; omega)).trans ?_), fun z hz => ?_, by rw [List.length_append]; show ts.length + 1 ≤ 4; omega⟩
  · rw [show (ts ++ [u]).map trD = ts.map trD ++ [trD u] by rw [List.map_append]; rfl]
    rfl
  · rcases List.mem_append.mp hz with q | q
    · exact hts z q
    · rw [List.mem_singleton.mp q]; exact u2
theorem tu_if {b : Bk} (h : BkOk b) (h4 : b.ts.length ≤ 4) (s2 : Slot) (way : Int) {k : Nat} {t : Tr} (hk : b.ts[k]? = some t) (s14 s15 s16 s17 s18 : Slot) (β : Bag) : TuQ b s2 way (k : Nat) t s15 s16 s17 s18 (tuIf (tuR b s2 (.own (b.ts.map trD)) way (k : Nat) t s14 s15 s16 s17 s18) β) := by
  have htm := List.mem_of_getElem? hk
  have hkl := (List.getElem?_eq_some_iff.mp hk).1
  have hto := h.ts t htm
  let ρ := tuR b s2 (.own (b.ts.map trD)) way (k : Nat) t s14 s15 s16 s17 s18
  have tw : ∀ n : Int, mTest (mOp eqD (mPk 4) (mC (.int n))) ρ β = some (decide (way = n), β) := fun n => mTest_ok (mOp_ok (β1 := β) (β2 := β) (d := .int way) rfl rfl (eqD_int _ _))
  have tl : mF lenD (mPk 3) ρ β = some (.int (b.ts.length : Nat), β) := mF_ok (β1 := β) (d := .list (b.ts.map trD)) rfl (by rw [lenD_lst, List.length_map])
  have tso : ∀ (x : Str) (hx : ok x), mTest (mOp eqD (mPk 8) (mC (.str x))) ρ β = some (decide (t.so = x), β) := fun x hx => mTest_ok (mOp_ok (β1 := β) (β2 := β) (d := .str t.so) rfl rfl (eqD_str hto.so hx))
  have tns : mTest (mOp neD (mPk 8) (mC (.str "stop"))) ρ β = some (!decide (t.so = "stop"), β) := mTest_ok (mOp_ok (β1 := β) (β2 := β) (d := .str t.so) rfl rfl (neD_str hto.so ok_stop))
  have tlm : mTest (mOp notND (mPk 12) (mC .none)) ρ β = some (!t.lm.isNone, β) := mTest_ok (mOp_ok (β1 := β) (β2 := β) (d := limD t.lm) rfl rfl (notN_lim _))
  refine mIfS_p (TuQ b s2 way (k : Nat) t s15 s16 s17 s18) (mAnd_b (c2 := decide ((1 : Int) < (b.ts.length : Nat))) (tw 0) fun _ => mTest_ok (mOp_ok tl rfl (gtD_int _ _))) (fun _ => ?_) (fun _ => ?_)
  · refine ⟨b.ts.eraseIdx k, s14, β, (mPopAt_ok (β1 := β) (ds := b.ts.map trD) (k := k) rfl rfl (by rw [List.length_map]; exact hkl) (by rw [List.length_map]; omega)).trans ?_, fun u hu => h.ts u (List.mem_of_mem_eraseIdx hu), by have := List.length_eraseIdx_le b.ts k; omega⟩
    rw [erase_map]
    rfl
  refine mIfS_p (TuQ b s2 way (k : Nat) t s15 s16 s17 s18) (mAnd_b (c2 := decide (((b.ts.length : Nat) : Int) < 4)) (tw 1) fun _ => mTest_ok (mOp_ok tl rfl (ltD_int _ _))) (fun hc => ?_) (fun _ => ?_)
  · have := of_decide_eq_true (Bool.and_eq_true_iff.mp hc).2
    exact tu_fresh h s2 way (k : Nat) t h.ts (by omega) s14 s15 s16 s17 s18 β
  refine mIfS_p (TuQ b s2 way (k : Nat) t s15 s16 s17 s18) (mAnd_b (tw 2) fun _ => tns) (fun hc => ?_) (fun _ => ?_)
  · let t' : Tr := ⟨t.nm, t.pt, t.so, t.src, t.fs, t.sc, if t.lm.isNone then some 5 else none, t.on⟩
    have ht' : TrOk t' := ⟨hto.nm, hto.pt, hto.so, hto.src, hto.on, hto.fs, hto.sc, hto.shr, fun l hl => by
      have hl : (if t.lm.isNone then some (5 : Int) else none) = some l := hl
      split at hl
      · cases hl; omega
      · (cases hl), hto.onl⟩
    refine tu_put h.ts h4 hkl ht' (β1 := β) (tu_tup (t' := t') rfl rfl rfl ?_ rfl rfl rfl rfl)
    cases hlm : t.lm.isNone with
    | true =>
      refine (mIf_f (tlm.trans (by rw [hlm]; rfl))).trans ?_
      show _ = some (limD (if t.lm.isNone then some 5 else none), β)
      rw [hlm]
      rfl
    | false =>
      refine (mIf_t (tlm.trans (by rw [hlm]; rfl))).trans ?_
      show _ = some (limD (if t.lm.isNone then some 5 else none), β)
      rw [hlm]
      rfl
  refine mIfS_p (TuQ b s2 way (k : Nat) t s15 s16 s17 s18) (mAnd_b (tw 3) fun _ => tso _ ok_layer) (fun hc => ?_) (fun _ => ?_)
  · obtain ⟨r, β1, r1, r2, r3⟩ := take_ok (e := mC (.int 6)) (ρ := ρ) (β := β) (β1 := β) (n := 6) rfl rfl (by omega) (by omega)
    let t' : Tr := ⟨t.nm, t.pt, t.so, t.src, 1 + r, t.sc, t.lm, t.on⟩
    have ht' : TrOk t' := ⟨hto.nm, hto.pt, hto.so, hto.src, hto.on, by show 0 ≤ 1 + r ∧ 1 + r ≤ 1000; omega, hto.sc, hto.shr, hto.lm, hto.onl⟩
    exact tu_put h.ts h4 hkl ht' (β1 := β1) (tu_tup (t' := t') rfl (mOp_ok (β1 := β) (d := .int 1) rfl r1 rfl) rfl rfl rfl rfl rfl rfl)
  have tsc : mTest (mOp eqD (mPk 11) (mC (.int 0))) ρ β = some (decide (t.sc = 0), β) := mTest_ok (mOp_ok (β1 := β) (β2 := β) (d := .int t.sc) rfl rfl (eqD_int _ _))
  refine mIfS_p (TuQ b s2 way (k : Nat) t s15 s16 s17 s18) (mAnd_b (tso _ ok_layer) fun _ => mAnd_b (c2 := decide (t.sc = 0) && decide (t.lm.getD 0 ≤ t.fs)) tlm fun hc => mAnd_b tsc fun _ => ?_) (fun hc => ?_) (fun _ => ?_)
  · cases hlm : t.lm with
    | none => rw [hlm] at hc; cases hc
    | some l =>
      have h12 : mPk 12 ρ β = some (.int l, β) := by
        show some (limD t.lm, β) = _
        rw [hlm]
        rfl
      exact mTest_ok (mOp_ok (β1 := β) (β2 := β) (d := .int t.fs) rfl h12 (geD_int _ _))
  · cases hlm : t.lm with
    | none => rw [hlm] at hc; simp at hc
    | some l =>
      let t' : Tr := ⟨t.nm, t.pt, "stop", t.src, l, 0, none, t.on⟩
      have hl := hto.lm l hlm
      have ht' : TrOk t' := ⟨hto.nm, hto.pt, ok_stop, hto.src, hto.on, hl, by show (0 : Int) ≤ 0 ∧ (0 : Int) ≤ 1000; omega, fun q => absurd rfl q, (fun l hl => by cases hl), hto.onl⟩
      refine tu_put h.ts h4 hkl ht' (β1 := β) (tu_tup (t' := t') rfl ?_ rfl rfl rfl rfl rfl rfl)
      show some (limD t.lm, β) = _
      rw [hlm]
      rfl
  · exact ⟨b.ts, s14, β, rfl, h.ts, h4⟩
/-! the parties, one by one -/
abbrev tuP : MS := (mSeq (mSet 16 (mXv (mAndV (mNm 16) (mAndV (mOrV (mOp eqD (mOp ixD (mPk 17) (mC (.int 3))) (mC (.str "own"))) (mOp (inD false) (mOp ixD (mPk 17) (mC (.int 3))) (mPk 15))) (mOp neD (mOp ixD (mPk 17) (mC (.int 3))) (mOp ixD (mPk 17) (mC (.int 1))))))))
    (mApp 15 (mOp ixD (mPk 17) (mC (.int 1)))))
theorem mAndV_b {m1 m2 : ME} {ρ : List Slot} {β : Bag} {c1 c2 : Bool} (h1 : m1 ρ β = some (.bool c1, β)) (h2 : m2 ρ β = some (.bool c2, β)) : mAndV m1 m2 ρ β = some (.bool (c1 && c2), β) := by
  unfold mAndV
  simp only [h1, Option.bind_some, toB]
  cases c1 with
  | true => rw [if_pos rfl, h2]; rfl
  | false => rfl
theorem mOrV_b {m1 m2 : ME} {ρ : List Slot} {β : Bag} {c1 c2 : Bool} (h1 : m1 ρ β = some (.bool c1, β)) (h2 : m2 ρ β = some (.bool c2, β)) : mOrV m1 m2 ρ β = some (.bool (c1 || c2), β) := by
  unfold mOrV
  simp only [h1, Option.bind_some, toB]
  cases c1 with
  | false => exact h2
  | true => rfl
theorem tu_parties {b : Bk} (s2 : Slot) (way at_ : Int) (t : Tr) {ts : List Tr} (hts : ∀ u ∈ ts, TrOk u) (hl : ts.length ≤ 4) (s14 s17 s18 : Slot) (β : Bag) : ∃ (c : Bool) (s15 t17 : Slot), forGo (mGn 17) tuP (ts.map trD) (tuR b s2 (.v (.list (ts.map trD))) way at_ t s14 (.own []) (.v (.bool true)) s17 s18) β = some (.nx, tuR b s2 (.v (.list (ts.map trD))) way at_ t s14 s15 (.v (.bool c)) t17 s18, β) ∧ (c = true → TsOk ts) := by
  let I : Nat → List Slot → Bag → Prop := fun i ρ β' => β' = β ∧ ∃ (c : Bool) (t17 : Slot), ρ = tuR b s2 (.v (.list (ts.map trD))) way at_ t s14 (.own (((ts.take i).map (·.pt)).map .str)) (.v (.bool c)) t17 s18 ∧ (c = true → ∀ u ∈ ts.take i, u.src = "own" ∨ u.src ∈ (ts.take i).map (·.pt))
  obtain ⟨ρ', β', f1, rfl, c, t17, rfl, hI⟩ := for_inv (mg := mGn 17) (mb := tuP) I (ts.map trD) 0 (tuR b s2 (.v (.list (ts.map trD))) way at_ t s14 (.own []) (.v (.bool true)) s17 s18) β ⟨rfl, true, s17, rfl, fun _ => nofun⟩ (by
    rintro i d ρ β' hd ⟨rfl, c, t17, rfl, hI⟩
    rw [Nat.zero_add] at *
    rw [List.getElem?_map] at hd
    obtain ⟨u, hu, rfl⟩ := Option.map_eq_some_iff.mp hd
    have hum := List.mem_of_getElem? hu
    have huo := hts u hum
    have hil := (List.getElem?_eq_some_iff.mp hu).1
    let ns := (ts.take i).map (·.pt)
    have hns : ∀ y ∈ ns, ok y := fun y hy => by
      obtain ⟨v, hv, rfl⟩ := List.mem_map.mp hy
      exact (hts v (List.mem_of_mem_take hv)).pt
    let ρ1 := tuR b s2 (.v (.list (ts.map trD))) way at_ t s14 (.own (ns.map .str)) (.v (.bool c)) (.v (trD u)) s18
    let c' := c && ((decide (u.src = "own") || decide (u.src ∈ ns)) && !decide (u.src = u.pt))
    have e3 : mOp ixD (mPk 17) (mC (.int 3)) ρ1 β' = some (.str u.src, β') := rfl
    have e1 : mOp ixD (mPk 17) (mC (.int 1)) ρ1 β' = some (.str u.pt, β') := rfl
    have q1 : mSet 16 (mXv (mAndV (mNm 16) (mAndV (mOrV (mOp eqD (mOp ixD (mPk 17) (mC (.int 3))) (mC (.str "own"))) (mOp (inD false) (mOp ixD (mPk 17) (mC (.int 3))) (mPk 15))) (mOp neD (mOp ixD (mPk 17) (mC (.int 3))) (mOp ixD (mPk 17) (mC (.int 1))))))) ρ1 β' = some (.nx, tuR b s2 (.v (.list (ts.map trD))) way at_ t s14 (.own (ns.map .str)) (.v (.bool c')) (.v (trD u)) s18, β') :=
      mSet_ok (mAndV_b (c1 := c) rfl (mAndV_b (mOrV_b (mOp_ok (β2 := β') e3 rfl (eqD_str huo.src ok_own)) (mOp_ok (β2 := β') (e := .list (ns.map .str)) e3 rfl (inD_str (neg := false) rfl huo.src hns))) (mOp_ok e3 e1 (neD_str huo.src huo.pt))))
    have htk : (ts.take (i + 1)).map (·.pt) = ns ++ [u.pt] := by
      rw [List.take_add_one, hu, List.map_append]
      rfl
    have q2 : mApp 15 (mOp ixD (mPk 17) (mC (.int 1))) (tuR b s2 (.v (.list (ts.map trD))) way at_ t s14 (.own (ns.map .str)) (.v (.bool c')) (.v (trD u)) s18) β' = some (.nx, tuR b s2 (.v (.list (ts.map trD))) way at_ t s14 (.own (((ts.take (i + 1)).map (·.pt)).map .str)) (.v (.bool c')) (.v (trD u)) s18, β') := by
      refine (mApp_ok (β1 := β') (ds := ns.map .str) (d := .str u.pt) rfl rfl (by rw [List.length_map, List.length_map, List.length_take, szN]; omega)).trans ?_
      rw [htk, show (ns ++ [u.pt]).map PyData.str = ns.map .str ++ [.str u.pt] by rw [List.map_append]; rfl]
      rfl
    refine ⟨_, _, β', rfl, seq_nx q1 q2, rfl, c', .v (trD u), rfl, fun hc v hv => ?_⟩
    obtain ⟨hc1, hc2⟩ := Bool.and_eq_true_iff.mp hc
    obtain ⟨hc3, _⟩ := Bool.and_eq_true_iff.mp hc2
    rw [htk, List.mem_append]
    rw [List.take_add_one, hu] at hv
    rcases List.mem_append.mp hv with hv | hv
    · exact (hI hc1 v hv).imp id .inl
    · have hv : v ∈ [u] := hv
      rw [List.mem_singleton.mp hv]
      rcases Bool.or_eq_true_iff.mp hc3 with q | q
      · exact .inl (of_decide_eq_true q)
      · exact .inr (.inl (of_decide_eq_true q)))
  rw [Nat.zero_add, List.length_map, List.take_length] at hI f1
  refine ⟨c, _, t17, f1, fun hc => ⟨hts, fun u hu => (foldS_mem _ _ _).mpr ?_⟩⟩
  rcases hI hc u hu with q | q
  · rw [q]; exact .inl List.mem_cons_self
  · exact .inr q
abbrev tuB : MS := (mSeq (mPar2 3 4 (mXn (mNl (mOp ixD (mPk 1) (mC (.int 3))))) (mXv (mCall m_law_take (mAb 0 (mAv (mC (.int 5)) mAn)))))
    (mSeq (mSet 5 (mXv (mCall m_law_take (mAb 0 (mAv (mF lenD (mPk 3)) mAn)))))
    (mSeq (mAsg (mOp ixD (mPk 3) (mPk 5)) (mGt 8 (mGcons (mGn 6) (mGcons (mGn 7) (mGcons (mGn 8) (mGcons (mGn 9) (mGcons (mGn 10) (mGcons (mGn 11) (mGcons (mGn 12) (mGcons (mGn 13) mGnil))))))))))
    (mSeq tuIf
    (mSeq (mPar2 15 16 (mXn (mLd mLn)) (mXv (mC (.bool true))))
    (mSeq (mFzS 3 (mFor (mIt (mNm 3)) (mGn 17) tuP))
    (mSeq (mSet 18 (mXv (mTup (mLc1 (mOp ixD (mPk 1) (mC (.int 0))) (mLc1 (mOp ixD (mPk 1) (mC (.int 1))) (mLc1 (mOp ixD (mPk 1) (mC (.int 2))) (mLc1 (mF tupOfD (mPk 3)) mLn)))))))
    (mIfS (mAnd (mTru (mPk 16)) (mTest (mOp notND (mCall m_law_met (mAv (mNm 18) (mAv (mC (.int 60)) mAn))) (mC .none)))) (mRet (mNm 18)) (fun ρ β => some (.nx, ρ, β))))))))))
def Like (b b' : Bk) : Prop := BkOk b' ∧ b'.ks = b.ks ∧ b'.ms = b.ms
theorem tu_step {b : Bk} (h : BkOk b) (h0 : 0 < b.ts.length) (h4 : b.ts.length ≤ 4) (s2 s3 s4 s5 s6 s7 s8 s9 s10 s11 s12 s13 s14 s15 s16 s17 s18 : Slot) (β : Bag) :
    ∃ t3 t4 t5 t6 t7 t8 t9 t10 t11 t12 t13 t14 t15 t16 t17 t18 β', tuB [.bag, .v (bkD b), s2, s3, s4, s5, s6, s7, s8, s9, s10, s11, s12, s13, s14, s15, s16, s17, s18, .no] β = some (.nx, [.bag, .v (bkD b), s2, t3, t4, t5, t6, t7, t8, t9, t10, t11, t12, t13, t14, t15, t16, t17, t18, .no], β') ∨ ∃ b' ρ', tuB [.bag, .v (bkD b), s2, s3, s4, s5, s6, s7, s8, s9, s10, s11, s12, s13, s14, s15, s16, s17, s18, .no] β = some (.rt (bkD b'), ρ', β') ∧ Like b b' := by
  let ρ0 : List Slot := [.bag, .v (bkD b), s2, s3, s4, s5, s6, s7, s8, s9, s10, s11, s12, s13, s14, s15, s16, s17, s18, .no]
  obtain ⟨way, β1, w1, w2, w3⟩ := take_ok (e := mC (.int 5)) (ρ := ρ0) (β := β) (β1 := β) (n := 5) rfl rfl (by omega) (by omega)
  let ρ1 : List Slot := [.bag, .v (bkD b), s2, .own (b.ts.map trD), .v (.int way), s5, s6, s7, s8, s9, s10, s11, s12, s13, s14, s15, s16, s17, s18, .no]
  have S1 : mPar2 3 4 (mXn (mNl (mOp ixD (mPk 1) (mC (.int 3))))) (mXv (mCall m_law_take (mAb 0 (mAv (mC (.int 5)) mAn)))) ρ0 β = some (.nx, ρ1, β1) := mPar2X_ok (β1 := β) (a := .own (b.ts.map trD)) rfl (mXv_ok w1)
  obtain ⟨kk, β2, k1, k2, k3⟩ := take_ok (e := mF lenD (mPk 3)) (ρ := ρ1) (β := β1) (β1 := β1) (n := (b.ts.length : Nat)) rfl (mF_ok (β1 := β1) (d := .list (b.ts.map trD)) rfl (by rw [lenD_lst, List.length_map])) (by omega) (by omega)
  obtain ⟨k, rfl⟩ : ∃ q : Nat, kk = (q : Int) := ⟨kk.toNat, by omega⟩
  let ρ2 : List Slot := [.bag, .v (bkD b), s2, .own (b.ts.map trD), .v (.int way), .v (.int (k : Nat)), s6, s7, s8, s9, s10, s11, s12, s13, s14, s15, s16, s17, s18, .no]
  have S2 : mSet 5 (mXv (mCall m_law_take (mAb 0 (mAv (mF lenD (mPk 3)) mAn)))) ρ1 β1 = some (.nx, ρ2, β2) := mSet_ok k1
  obtain ⟨t, ht⟩ : ∃ t, b.ts[k]? = some t := ⟨b.ts[k]'(by omega), List.getElem?_eq_getElem (by omega)⟩
  have S3 : mAsg (mOp ixD (mPk 3) (mPk 5)) (mGt 8 (mGcons (mGn 6) (mGcons (mGn 7) (mGcons (mGn 8) (mGcons (mGn 9) (mGcons (mGn 10) (mGcons (mGn 11) (mGcons (mGn 12) (mGcons (mGn 13) mGnil))))))))) ρ2 β2 = some (.nx, tuR b s2 (.own (b.ts.map trD)) way (k : Nat) t s14 s15 s16 s17 s18, β2) :=
    mAsg_ok (d := trD t) (mOp_ok (β1 := β2) (β2 := β2) (d := .list (b.ts.map trD)) (e := .int (k : Nat)) rfl rfl (atI_nat' (by rw [List.getElem?_map, ht]; rfl))) rfl
  obtain ⟨ts, t14, β3, S4, hts, hl⟩ := tu_if h h4 s2 way ht s14 s15 s16 s17 s18 β2
  have S5 : mPar2 15 16 (mXn (mLd mLn)) (mXv (mC (.bool true))) (tuR b s2 (.own (ts.map trD)) way (k : Nat) t t14 s15 s16 s17 s18) β3 = some (.nx, tuR b s2 (.own (ts.map trD)) way (k : Nat) t t14 (.own []) (.v (.bool true)) s17 s18, β3) := mPar2X_ok (β1 := β3) (a := .own []) rfl rfl
  obtain ⟨c, t15, t17, f1, f2⟩ := tu_parties (b := b) s2 way (k : Nat) t hts hl t14 s17 s18 β3
  have S6 : mFzS 3 (mFor (mIt (mNm 3)) (mGn 17) tuP) (tuR b s2 (.own (ts.map trD)) way (k : Nat) t t14 (.own []) (.v (.bool true)) s17 s18) β3 = some (.nx, tuR b s2 (.v (.list (ts.map trD))) way (k : Nat) t t14 t15 (.v (.bool c)) t17 s18, β3) :=
    (mFor_ok (β1 := β3) (ds := ts.map trD) (ρ := tuR b s2 (.v (.list (ts.map trD))) way (k : Nat) t t14 (.own []) (.v (.bool true)) s17 s18) (mIt_ok (β1 := β3) (d := .list (ts.map trD)) rfl rfl)).trans f1
  let b' : Bk := ⟨b.nm, b.ks, b.ms, ts⟩
  let ρ7 := tuR b s2 (.v (.list (ts.map trD))) way (k : Nat) t t14 t15 (.v (.bool c)) t17 (.v (bkD b'))
  have S7 : mSet 18 (mXv (mTup (mLc1 (mOp ixD (mPk 1) (mC (.int 0))) (mLc1 (mOp ixD (mPk 1) (mC (.int 1))) (mLc1 (mOp ixD (mPk 1) (mC (.int 2))) (mLc1 (mF tupOfD (mPk 3)) mLn)))))) (tuR b s2 (.v (.list (ts.map trD))) way (k : Nat) t t14 t15 (.v (.bool c)) t17 s18) β3 = some (.nx, ρ7, β3) :=
    mSet_ok (mTup_ok (β1 := β3) (ds := [.str b.nm, strT b.ks, .int b.ms, .tuple (ts.map trD)]) rfl (by rw [szN]; exact (by decide : 4 ≤ 16777216)))
  have S := fun r (z : mIfS (mAnd (mTru (mPk 16)) (mTest (mOp notND (mCall m_law_met (mAv (mNm 18) (mAv (mC (.int 60)) mAn))) (mC .none)))) (mRet (mNm 18)) (fun ρ β => some (.nx, ρ, β)) ρ7 β3 = r) => seq_nx S1 (seq_nx S2 (seq_nx S3 (seq_nx S4 (seq_nx S5 (seq_nx S6 (seq_nx S7 z))))))
  have tc : mTru (mPk 16) ρ7 β3 = some (c, β3) := rfl
  cases c with
  | false => exact ⟨_, _, _, _, _, _, _, _, _, _, _, _, _, _, _, _, _, .inl (S _ ((mIfS_f (mAnd_f tc)).trans rfl))⟩
  | true =>
    have hb : BkOk b' := BkOk.of h.ks h.kn h.kl h.ms (f2 rfl) (by omega)
    obtain ⟨x, hx⟩ := ev_law_met hb β3
    have tn : mTest (mOp notND (mCall m_law_met (mAv (mNm 18) (mAv (mC (.int 60)) mAn))) (mC .none)) ρ7 β3 = some (!isNn x, β3) := mTest_ok (mOp_ok (β1 := β3) (β2 := β3) (mCall_ok (β1 := β3) (ss := [.v (bkD b'), .v (.int 60)]) rfl hx) rfl rfl)
    cases hn : isNn x with
    | true => exact ⟨_, _, _, _, _, _, _, _, _, _, _, _, _, _, _, _, _, .inl (S _ ((mIfS_f ((mAnd_t tc).trans (tn.trans (by rw [hn]; rfl)))).trans rfl))⟩
    | false => exact ⟨.no, .no, .no, .no, .no, .no, .no, .no, .no, .no, .no, .no, .no, .no, .no, .no, _, .inr ⟨b', _, S _ ((mIfS_t ((mAnd_t tc).trans (tn.trans (by rw [hn]; rfl)))).trans rfl), hb, rfl, rfl⟩⟩
theorem ev_turned {b : Bk} (hD : Drawn b) (β : Bag) : ∃ b' β', m_law_turned [.bag, .v (bkD b)] β = some (bkD b', β') ∧ Like b b' := by
  unfold m_law_turned b_law_turned
  let ρ0 : List Slot := [.bag, .v (bkD b), .no, .no, .no, .no, .no, .no, .no, .no, .no, .no, .no, .no, .no, .no, .no, .no, .no, .no]
  let I : Nat → List Slot → Bag → Prop := fun i ρ β' => ∃ s2 s3 s4 s5 s6 s7 s8 s9 s10 s11 s12 s13 s14 s15 s16 s17 s18 : Slot, ρ = [.bag, .v (bkD b), s2, s3, s4, s5, s6, s7, s8, s9, s10, s11, s12, s13, s14, s15, s16, s17, s18, .no]
  let post : D → Bag → Prop := fun d _ => ∃ b', d = bkD b' ∧ Like b b'
  have lp := for_ret (mg := mGn 2) (mb := tuB) (post := post) I (rangeD 0 4) 0 ρ0 β ⟨.no, .no, .no, .no, .no, .no, .no, .no, .no, .no, .no, .no, .no, .no, .no, .no, .no, rfl⟩ (by
    rintro i d ρ β' hd ⟨s2, s3, s4, s5, s6, s7, s8, s9, s10, s11, s12, s13, s14, s15, s16, s17, s18, rfl⟩
    obtain ⟨t3, t4, t5, t6, t7, t8, t9, t10, t11, t12, t13, t14, t15, t16, t17, t18, β2, q | ⟨b', ρ', q, hL⟩⟩ := tu_step hD.ok hD.t0 hD.t4 (.v d) s3 s4 s5 s6 s7 s8 s9 s10 s11 s12 s13 s14 s15 s16 s17 s18 β'
    · exact ⟨_, _, β2, rfl, .inl ⟨q, _, _, _, _, _, _, _, _, _, _, _, _, _, _, _, _, _, rfl⟩⟩
    · exact ⟨_, ρ', β2, rfl, .inr ⟨_, q, b', rfl, hL⟩⟩)
  have hr : mRg1 (mC (.int 4)) ρ0 β = some (rangeD 0 4, β) := mRg1_ok (β1 := β) rfl (in62_nat (by omega) (by omega))
  rcases lp with ⟨ρ', β', f1, s2, s3, s4, s5, s6, s7, s8, s9, s10, s11, s12, s13, s14, s15, s16, s17, s18, rfl⟩ | ⟨z, ρ', β', f1, b', rfl, hL⟩
  · exact ⟨b, β', fn_rt (seq_nx ((mFor_ok hr).trans f1) (mRet_ok rfl)), hD.ok, rfl, rfl⟩
  · exact ⟨b', β', fn_rt (seq_rt ((mFor_ok hr).trans f1)), hL⟩
end K31
namespace K31
open PySem PySem.Spec PyProof.Rows L2 M
/-! ### the law behind its first statement -/
def b_law : MS := (mSeq (mFor (mRg1 (mC (.int 3))) (mGn 2) (mIfS (mNot (mTru (mCall m_law_runs_right (mAb 1 mAn)))) (mRet (mC (.bool false))) (fun ρ β => some (.nx, ρ, β))))
    (mSeq (mSet 3 (mXv (mCall m_law_book (mAb 1 mAn))))
    (mSeq (mFor (mRg1 (mC (.int 4))) (mGn 2) (mIfS (mNot (mTru (mCall m_law_paid_right (mAb 1 (mAv (mNm 3) mAn))))) (mRet (mC (.bool false))) (fun ρ β => some (.nx, ρ, β))))
    (mSeq (mSet 4 (mXv (mCall m_law_turned (mAb 1 (mAv (mNm 3) mAn)))))
    (mSeq (mIfS (mTest (mOp neD (mCall m_law_bearers (mAv (mNm 4) mAn)) (mCall m_law_bearers (mAv (mNm 3) mAn)))) (mSet 4 (mXv (mNm 3))) (fun ρ β => some (.nx, ρ, β)))
    (mSeq (mAsg (mTup (mLc1 (mCall m_law_state (mAb 1 (mAv (mNm 3) mAn))) (mLc1 (mCall m_law_state (mAb 1 (mAv (mNm 4) mAn))) mLn))) (mGt 2 (mGcons (mGn 5) (mGcons (mGn 6) mGnil))))
    (mSeq (mSet 7 (mXv (mFz (mLc [8] (mIt (mCall m_law_losses (mAv (mNm 3) mAn))) (mGn 8) (mTest (mOp neD (mOp ixD (mCall m_law_bear (mAv (mNm 3) (mAv (mNm 5) (mAv (mNm 8) mAn)))) (mC (.int 0))) (mOp ixD (mCall m_law_bear (mAv (mNm 4) (mAv (mNm 6) (mAv (mNm 8) mAn)))) (mC (.int 0))))) (mNm 8)))))
    (mRet (mCall m_law_alike (mAv (mLst (mLc1 (mCall m_pays_so (mAv (mNm 3) (mAv (mNm 5) (mAv (mNm 4) (mAv (mNm 6) mAn))))) (mLc1 (mCall m_first_unlike (mAv (mNm 3) (mAv (mNm 5) (mAv (mNm 4) (mAv (mNm 6) mAn))))) mLn))) (mAv (mLst (mLc1 (mOp eqD (mPk 7) (mLst mLn)) (mLc1 (mIf (mTest (mOp neD (mPk 7) (mLst mLn))) (mOp ixD (mPk 7) (mC (.int 0))) (mC .none)) mLn))) mAn)))))))))))
theorem allD_mapG {α : Type} (xs : List α) (f : α → Bool) : allD (.list (xs.map fun d => .bool (f d))) = some (.bool (xs.all f)) := by
  have := allD_map (xs.map fun d => PyData.bool (f d)) (fun d => match d with | .bool c => c | _ => false)
  rw [List.map_map] at this
  rw [List.all_map] at this
  exact this
def pairsL (b : Bk) : List (Str × Nat) := b.ks.flatMap fun k => (List.range (b.ms + 1)).map fun n => (k, n)
abbrev lossP (p : Str × Nat) : D := lossD p.1 (p.2 : Nat)
theorem losses_pairs (b : Bk) : lossesL b = (pairsL b).map lossP := by
  unfold lossesL pairsL
  rw [List.map_flatMap]
  congr 1
  funext k
  rw [List.map_map]
  rfl
theorem pairsL_ok {b : Bk} (h : BkOk b) : ∀ p ∈ pairsL b, ok p.1 := fun p hp => by
  obtain ⟨k, hk, hp⟩ := List.mem_flatMap.mp hp
  obtain ⟨n, _, rfl⟩ := List.mem_map.mp hp
  exact h.ks k hk
theorem pairsL_len {b : Bk} (h : BkOk b) : (pairsL b).length ≤ 1010 := by
  have := losses_len h b.ks h.kl
  have e : (lossesL b).length = (pairsL b).length := by rw [losses_pairs, List.length_map]
  unfold lossesL at e
  omega
def diffP (b : Bk) (st : List Int) (o : Bk) (it : List Int) (p : Str × Nat) : Bool := !decide (paidB b st p.1 (p.2 : Nat) = paidB o it p.1 (p.2 : Nat))
def headP : List (Str × Nat) → D
  | [] => .none
  | p :: _ => lossP p
abbrev fuB : MS := (mIfS (mTest (mOp neD (mCall m_paid (mAv (mNm 0) (mAv (mNm 1) (mAv (mNm 4) mAn)))) (mCall m_paid (mAv (mNm 2) (mAv (mNm 3) (mAv (mNm 4) mAn)))))) (mRet (mNm 4)) (fun ρ β => some (.nx, ρ, β)))
theorem fu_go {b o : Bk} (h : BkOk b) (h' : BkOk o) (st it : List Int) (β : Bag) : ∀ (ps : List (Str × Nat)) (s4 : Slot), (∀ p ∈ ps, ok p.1) →
    (∃ t4, forGo (mGn 4) fuB (ps.map lossP) [.v (bkD b), .v (iT st), .v (bkD o), .v (iT it), s4] β = some (.nx, [.v (bkD b), .v (iT st), .v (bkD o), .v (iT it), t4], β) ∧ ps.filter (diffP b st o it) = []) ∨
    ∃ p r ρ', forGo (mGn 4) fuB (ps.map lossP) [.v (bkD b), .v (iT st), .v (bkD o), .v (iT it), s4] β = some (.rt (lossP p), ρ', β) ∧ ps.filter (diffP b st o it) = p :: r
  | [], s4, _ => .inl ⟨s4, rfl, rfl⟩
  | p :: r, s4, hok => by
    have hp := hok p List.mem_cons_self
    let ρ : List Slot := [.v (bkD b), .v (iT st), .v (bkD o), .v (iT it), .v (lossP p)]
    have ht : mTest (mOp neD (mCall m_paid (mAv (mNm 0) (mAv (mNm 1) (mAv (mNm 4) mAn)))) (mCall m_paid (mAv (mNm 2) (mAv (mNm 3) (mAv (mNm 4) mAn))))) ρ β = some (diffP b st o it p, β) :=
      mTest_ok (mOp_ok (β1 := β) (β2 := β) (mCall_ok (β1 := β) (ss := [.v (bkD b), .v (iT st), .v (lossP p)]) rfl (ev_paid h st hp _ β)) (mCall_ok (β1 := β) (ss := [.v (bkD o), .v (iT it), .v (lossP p)]) rfl (ev_paid h' it hp _ β)) (neD_iT _ _))
    have hg : mGn 4 (lossP p) [.v (bkD b), .v (iT st), .v (bkD o), .v (iT it), s4] = some ρ := rfl
    cases hd : diffP b st o it p with
    | true =>
      refine .inr ⟨p, r.filter (diffP b st o it), ρ, ?_, List.filter_cons_of_pos hd⟩
      have : fuB ρ β = some (.rt (lossP p), ρ, β) := (mIfS_t (ht.trans (by rw [hd]))).trans rfl
      simp only [List.map_cons, forGo, hg, this, Option.bind_some]
    | false =>
      have : fuB ρ β = some (.nx, ρ, β) := (mIfS_f (ht.trans (by rw [hd]))).trans rfl
      have hf : (p :: r).filter (diffP b st o it) = r.filter (diffP b st o it) := by rw [List.filter_cons, hd]; rfl
      rw [hf]
      rcases fu_go h h' st it β r (.v (lossP p)) fun q hq => hok q (List.mem_cons_of_mem _ hq) with ⟨t4, g1, g2⟩ | ⟨q, r', ρ', g1, g2⟩
      · exact .inl ⟨t4, by simp only [List.map_cons, forGo, hg, this, Option.bind_some]; exact g1, g2⟩
      · exact .inr ⟨q, r', ρ', by simp only [List.map_cons, forGo, hg, this, Option.bind_some]; exact g1, g2⟩
theorem ev_first_unlike {b o : Bk} (h : BkOk b) (h' : BkOk o) (st it : List Int) (β : Bag) : m_first_unlike [.v (bkD b), .v (iT st), .v (bkD o), .v (iT it)] β = some (headP ((pairsL b).filter (diffP b st o it)), β) := by
  unfold m_first_unlike b_first_unlike
  let ρ : List Slot := [.v (bkD b), .v (iT st), .v (bkD o), .v (iT it), .no]
  have hi : mIt (mCall m_losses_of (mAv (mNm 0) mAn)) ρ β = some ((pairsL b).map lossP, β) := by
    rw [← losses_pairs]
    exact mIt_ok (β1 := β) (d := .tuple (lossesL b)) (mCall_ok (β1 := β) (ss := [.v (bkD b)]) rfl (ev_losses_of h β)) rfl
  rcases fu_go h h' st it β (pairsL b) .no (pairsL_ok h) with ⟨t4, g1, g2⟩ | ⟨p, r, ρ', g1, g2⟩
  · rw [g2]
    exact fn_rt (seq_nx ((mFor_ok hi).trans g1) rfl)
  · rw [g2]
    exact fn_rt (seq_rt ((mFor_ok hi).trans g1))
open Classical in
theorem eqD_pcs (ps qs : List Pc) : eqD (pcsD ps) (pcsD qs) = some (.bool (decide (ps = qs))) := by
  rw [eqD_pn (pn_pcsD ps) (pn_pcsD qs)]
  congr 2
  have : (pcsD ps = pcsD qs) = (ps = qs) := propext ⟨pcsD_inj, fun e => by rw [e]⟩
  simp only [this]
def samePc (b : Bk) (st : List Int) (o : Bk) (it : List Int) (k : Str) : Bool := decide (P (paidR b st k) 0 = P (paidR o it k) 0)
theorem ev_pays_so {b o : Bk} (h : BkOk b) (hL : Like b o) (st it : List Int) (β : Bag) : m_pays_so [.v (bkD b), .v (iT st), .v (bkD o), .v (iT it)] β = some (.bool (b.ks.all (samePc b st o it)), β) := by
  unfold m_pays_so b_pays_so
  have hkl := h.kl
  let ρ : List Slot := [.v (bkD b), .v (iT st), .v (bkD o), .v (iT it), .no]
  have l1 : lcGo ρ (mGn 4) mYes (mOp eqD (mCall m_paid_pieces (mAv (mNm 0) (mAv (mNm 1) (mAv (mNm 4) mAn)))) (mCall m_paid_pieces (mAv (mNm 2) (mAv (mNm 3) (mAv (mNm 4) mAn))))) (b.ks.map .str) β = some (b.ks.map (fun k => .bool (samePc b st o it k)), β) :=
    lcGo_map PyData.str (fun k => .bool (samePc b st o it k)) b.ks fun k hk => ⟨_, rfl, rfl, mOp_ok (β1 := β) (β2 := β) (mCall_ok (β1 := β) (ss := [.v (bkD b), .v (iT st), .v (.str k)]) rfl (ev_paid_pieces h st (h.ks k hk) β)) (mCall_ok (β1 := β) (ss := [.v (bkD o), .v (iT it), .v (.str k)]) rfl (ev_paid_pieces hL.1 it (h.ks k hk) β)) (by
      rw [eqD_pcs]
      unfold samePc
      congr 2)⟩
  exact fn_rt (ρ' := ρ) (mRet_ok (mF_ok (mFz_ok (mLc_ok (β1 := β) (vs := [4]) (ρ := ρ) (mIt_ok (β1 := β) (d := strT b.ks) rfl rfl) l1 (by rw [List.length_map, szN]; omega))) (allD_mapG _ _)))
/-- all pieces are the same just if no loss is paid otherwise -/
theorem same_iff {b o : Bk} (hL : Like b o) (st it : List Int) : b.ks.all (samePc b st o it) = ((pairsL b).filter (diffP b st o it)).isEmpty := by
  rw [Bool.eq_iff_iff, List.all_eq_true, List.isEmpty_iff, List.filter_eq_nil_iff]
  have key : ∀ k, samePc b st o it k = true ↔ ∀ n ∈ List.range (b.ms + 1), paidB b st k (n : Nat) = paidB o it k (n : Nat) := fun k => by
    unfold samePc
    rw [decide_eq_true_iff]
    constructor
    · intro h n hn
      have e := P_inj (paidR_uni b st k) (paidR_uni o it k) h
      unfold paidR at e
      rw [hL.2.2] at e
      exact List.map_inj_left.mp e n hn
    · intro h
      have : paidR b st k = paidR o it k := by
        unfold paidR
        rw [hL.2.2]
        exact List.map_congr_left h
      rw [this]
  constructor
  · intro h p hp
    obtain ⟨k, hk, hp⟩ := List.mem_flatMap.mp hp
    obtain ⟨n, hn, rfl⟩ := List.mem_map.mp hp
    have := (key k).mp (h k hk) n hn
    unfold diffP
    rw [decide_eq_true this]
    exact Bool.false_ne_true
  · intro h k hk
    refine (key k).mpr fun n hn => ?_
    have := h (k, n) (List.mem_flatMap.mpr ⟨k, hk, List.mem_map.mpr ⟨n, hn, rfl⟩⟩)
    unfold diffP at this
    by_cases e : paidB b st k (n : Nat) = paidB o it k (n : Nat)
    · exact e
    · exfalso
      apply this
      rw [decide_eq_false e]
      rfl
theorem pb_loss {p : Str × Nat} (h : ok p.1) : pn (lossP p) ∧ (lossP p).depth ≤ 1 := by
  have h2 : (lossP p).depth = 1 := by
    show PyData.depth (.tuple [.str p.1, .int (p.2 : Nat)]) = 1
    simp [PyData.depth, PyData.depthAll]
  refine ⟨⟨?_, by omega⟩, by omega⟩
  have h1 : nb (.str p.1) = true := by unfold nb; exact h
  show nb (.tuple [.str p.1, .int (p.2 : Nat)]) = true
  unfold nb nbA
  rw [h1]
  rfl
theorem neNilG {ds : List D} (h : ∀ x ∈ ds, nb x = true ∧ x.depth ≤ 1) : neD (.list ds) (.list []) = some (.bool (!ds.isEmpty)) ∧ eqD (.list ds) (.list []) = some (.bool ds.isEmpty) := by
  have h1 : pn (.list ds) := by
    refine ⟨?_, ?_⟩
    · unfold nb
      have := nbA_of (f := id) ds fun d hd => (h d hd).1
      rwa [List.map_id] at this
    · unfold PyData.depth
      have := depthA_of (f := id) (k := 1) ds fun d hd => (h d hd).2
      rw [List.map_id] at this
      omega
  rw [neD_pn h1 ⟨rfl, by decide⟩, eqD_pn h1 ⟨rfl, by decide⟩]
  cases ds with
  | nil => simp
  | cons x r => simp
abbrev lwR (s2 s3 s4 s5 s6 s7 : Slot) : List Slot := [.no, .bag, s2, s3, s4, s5, s6, s7, .no]
theorem pn_strL {xs : List Str} (h : ∀ x ∈ xs, ok x) : pn (.list (xs.map .str)) := by
  refine ⟨?_, ?_⟩
  · unfold nb
    exact nbA_of xs fun x hx => by unfold nb; exact h x hx
  · unfold PyData.depth
    have := depthA_of (f := PyData.str) (k := 0) xs fun _ _ => Nat.le_refl _
    omega
theorem two_le {ds : List D} (h : ds.length = 2) : ds.length ≤ sizeLine := by rw [h, szN]; exact (by decide : 2 ≤ 16777216)
theorem head_pn {l : List (Str × Nat)} (h : ∀ p ∈ l, ok p.1) : pb (headP l) = true ∧ nd (headP l) ≤ 3 := by
  cases l with
  | nil => exact ⟨rfl, by decide⟩
  | cons p r =>
    refine ⟨nb_pb _ (pb_loss (h p List.mem_cons_self)).1.1, ?_⟩
    show nd (.tuple [.str p.1, .int (p.2 : Nat)]) ≤ 3
    simp [nd, ndA]
theorem bear_ix0 (b : Bk) (st : List Int) (k : Str) (sz : Int) : ixD (bearD b st k sz) (.int 0) = some (iT (paidB b st k sz)) := rfl
open Classical in
theorem ev_law (β : Bag) : ∃ ρ' β', b_law (lwR .no .no .no .no .no .no) β = some (.rt (.bool true), ρ', β') := by
  unfold b_law
  obtain ⟨ρ1, β1, f1, s2, rfl⟩ := for_inv (mg := mGn 2) (mb := (mIfS (mNot (mTru (mCall m_law_runs_right (mAb 1 mAn)))) (mRet (mC (.bool false))) (fun ρ β => some (.nx, ρ, β)))) (fun i ρ _ => ∃ s2, ρ = lwR s2 .no .no .no .no .no) (rangeD 0 3) 0 (lwR .no .no .no .no .no .no) β ⟨.no, rfl⟩ (by
    rintro i d ρ β' hd ⟨s2, rfl⟩
    obtain ⟨β2, q⟩ := ev_runs_right β'
    have hc : mCall m_law_runs_right (mAb 1 mAn) (lwR (.v d) .no .no .no .no .no) β' = some (.bool true, β2) := mCall_ok (β1 := β') (ss := [.bag]) rfl q
    have ht : mNot (mTru (mCall m_law_runs_right (mAb 1 mAn))) (lwR (.v d) .no .no .no .no .no) β' = some (false, β2) := mNot_ok (mTru_b hc)
    exact ⟨lwR (.v d) .no .no .no .no .no, lwR (.v d) .no .no .no .no .no, β2, rfl, (mIfS_f ht).trans rfl, _, rfl⟩)
  have r1 : mRg1 (mC (.int 3)) (lwR .no .no .no .no .no .no) β = some (rangeD 0 3, β) := mRg1_ok (β1 := β) rfl (in62_nat (by omega) (by omega))
  have S1 := (mFor_ok (mg := mGn 2) (mb := (mIfS (mNot (mTru (mCall m_law_runs_right (mAb 1 mAn)))) (mRet (mC (.bool false))) (fun ρ β => some (.nx, ρ, β)))) r1).trans f1
  obtain ⟨b, β2, b1, hD⟩ := ev_book β1
  have h := hD.ok
  have S2 : mSet 3 (mXv (mCall m_law_book (mAb 1 mAn))) (lwR s2 .no .no .no .no .no) β1 = some (.nx, lwR s2 (.v (bkD b)) .no .no .no .no, β2) := mSet_ok (mCall_ok (β1 := β1) (ss := [.bag]) rfl b1)
  obtain ⟨ρ3, β3, f3, s2', rfl⟩ := for_inv (mg := mGn 2) (mb := (mIfS (mNot (mTru (mCall m_law_paid_right (mAb 1 (mAv (mNm 3) mAn))))) (mRet (mC (.bool false))) (fun ρ β => some (.nx, ρ, β)))) (fun i ρ _ => ∃ s2, ρ = lwR s2 (.v (bkD b)) .no .no .no .no) (rangeD 0 4) 0 (lwR s2 (.v (bkD b)) .no .no .no .no) β2 ⟨s2, rfl⟩ (by
    rintro i d ρ β' hd ⟨s2, rfl⟩
    obtain ⟨β2, q⟩ := ev_paid_right h β'
    have hc : mCall m_law_paid_right (mAb 1 (mAv (mNm 3) mAn)) (lwR (.v d) (.v (bkD b)) .no .no .no .no) β' = some (.bool true, β2) := mCall_ok (β1 := β') (ss := [.bag, .v (bkD b)]) rfl q
    have ht : mNot (mTru (mCall m_law_paid_right (mAb 1 (mAv (mNm 3) mAn)))) (lwR (.v d) (.v (bkD b)) .no .no .no .no) β' = some (false, β2) := mNot_ok (mTru_b hc)
    exact ⟨lwR (.v d) (.v (bkD b)) .no .no .no .no, lwR (.v d) (.v (bkD b)) .no .no .no .no, β2, rfl, (mIfS_f ht).trans rfl, _, rfl⟩)
  have r3 : mRg1 (mC (.int 4)) (lwR s2 (.v (bkD b)) .no .no .no .no) β2 = some (rangeD 0 4, β2) := mRg1_ok (β1 := β2) rfl (in62_nat (by omega) (by omega))
  have S3 := (mFor_ok (mg := mGn 2) (mb := (mIfS (mNot (mTru (mCall m_law_paid_right (mAb 1 (mAv (mNm 3) mAn))))) (mRet (mC (.bool false))) (fun ρ β => some (.nx, ρ, β)))) r3).trans f3
  obtain ⟨o1, β4, o1q, hL1⟩ := ev_turned hD β3
  have S4 : mSet 4 (mXv (mCall m_law_turned (mAb 1 (mAv (mNm 3) mAn)))) (lwR s2' (.v (bkD b)) .no .no .no .no) β3 = some (.nx, lwR s2' (.v (bkD b)) (.v (bkD o1)) .no .no .no, β4) := mSet_ok (mCall_ok (β1 := β3) (ss := [.bag, .v (bkD b)]) rfl o1q)
  have S5 : ∃ o, mIfS (mTest (mOp neD (mCall m_law_bearers (mAv (mNm 4) mAn)) (mCall m_law_bearers (mAv (mNm 3) mAn)))) (mSet 4 (mXv (mNm 3))) (fun ρ β => some (.nx, ρ, β)) (lwR s2' (.v (bkD b)) (.v (bkD o1)) .no .no .no) β4 = some (.nx, lwR s2' (.v (bkD b)) (.v (bkD o)) .no .no .no, β4) ∧ Like b o := by
    have ht := mTest_ok (mOp_ok (f := neD) (mCall_ok (f := m_law_bearers) (ma := mAv (mNm 4) mAn) (ρ := lwR s2' (.v (bkD b)) (.v (bkD o1)) .no .no .no) (β1 := β4) (ss := [.v (bkD o1)]) rfl (ev_law_bearers hL1.1 β4)) (mCall_ok (f := m_law_bearers) (ma := mAv (mNm 3) mAn) (β1 := β4) (ss := [.v (bkD b)]) rfl (ev_law_bearers h β4)) (neD_pn (pn_strL (bearS_ok hL1.1.ts)) (pn_strL (bearS_ok h.ts))))
    refine mIfS_p (fun r => ∃ o, r = some (.nx, lwR s2' (.v (bkD b)) (.v (bkD o)) .no .no .no, β4) ∧ Like b o) ht (fun _ => ⟨b, rfl, h, rfl, rfl⟩) (fun _ => ⟨o1, rfl, hL1⟩)
  obtain ⟨o, S5, hL⟩ := S5
  obtain ⟨st, β5, st1, hst⟩ := ev_law_state b h β4
  obtain ⟨it, β6, it1, hit⟩ := ev_law_state o hL.1 β5
  let ρ6 := lwR s2' (.v (bkD b)) (.v (bkD o)) (.v (iT st)) (.v (iT it)) .no
  have S6 : mAsg (mTup (mLc1 (mCall m_law_state (mAb 1 (mAv (mNm 3) mAn))) (mLc1 (mCall m_law_state (mAb 1 (mAv (mNm 4) mAn))) mLn))) (mGt 2 (mGcons (mGn 5) (mGcons (mGn 6) mGnil))) (lwR s2' (.v (bkD b)) (.v (bkD o)) .no .no .no) β4 = some (.nx, ρ6, β6) :=
    mAsg_ok (d := .tuple [iT st, iT it]) (mTup_ok (mLc1_ok (mCall_ok (β1 := β4) (ss := [.bag, .v (bkD b)]) rfl st1) (mLc1_ok (mCall_ok (β1 := β5) (ss := [.bag, .v (bkD o)]) rfl it1) rfl)) (two_le rfl)) rfl
  let fl := (pairsL b).filter (diffP b st o it)
  have hflo : ∀ p ∈ fl, ok p.1 := fun p hp => pairsL_ok h p (List.mem_filter.mp hp).1
  have hfll : fl.length ≤ 1010 := Nat.le_trans (List.length_filter_le _ _) (pairsL_len h)
  let ρ7 := lwR s2' (.v (bkD b)) (.v (bkD o)) (.v (iT st)) (.v (iT it)) (.v (.list (fl.map lossP)))
  have S7 : mSet 7 (mXv (mFz (mLc [8] (mIt (mCall m_law_losses (mAv (mNm 3) mAn))) (mGn 8) (mTest (mOp neD (mOp ixD (mCall m_law_bear (mAv (mNm 3) (mAv (mNm 5) (mAv (mNm 8) mAn)))) (mC (.int 0))) (mOp ixD (mCall m_law_bear (mAv (mNm 4) (mAv (mNm 6) (mAv (mNm 8) mAn)))) (mC (.int 0))))) (mNm 8)))) ρ6 β6 = some (.nx, ρ7, β6) := by
    have l1 : lcGo ρ6 (mGn 8) (mTest (mOp neD (mOp ixD (mCall m_law_bear (mAv (mNm 3) (mAv (mNm 5) (mAv (mNm 8) mAn)))) (mC (.int 0))) (mOp ixD (mCall m_law_bear (mAv (mNm 4) (mAv (mNm 6) (mAv (mNm 8) mAn)))) (mC (.int 0))))) (mNm 8) ((pairsL b).map lossP) β6 = some (fl.map lossP, β6) :=
      lcGo_filter lossP lossP (diffP b st o it) (pairsL b) fun p hp => by
        have hk := pairsL_ok h p hp
        exact ⟨_, rfl, mTest_ok (mOp_ok (β1 := β6) (β2 := β6) (mOp_ok (β1 := β6) (β2 := β6) (mCall_ok (β1 := β6) (ss := [.v (bkD b), .v (iT st), .v (lossP p)]) rfl (ev_law_bear h st hst hk _ β6)) rfl (bear_ix0 ..)) (mOp_ok (β1 := β6) (β2 := β6) (mCall_ok (β1 := β6) (ss := [.v (bkD o), .v (iT it), .v (lossP p)]) rfl (ev_law_bear hL.1 it hit hk _ β6)) rfl (bear_ix0 ..)) (neD_iT _ _)), fun _ => rfl⟩
    exact mSet_ok (mFz_ok (mLc_ok (β1 := β6) (vs := [8]) (ρ := ρ6) (mIt_ok (β1 := β6) (d := .list ((pairsL b).map lossP)) (mCall_ok (β1 := β6) (ss := [.v (bkD b)]) rfl (by rw [← losses_pairs]; exact ev_law_losses h β6)) rfl) l1 (by rw [List.length_map, szN]; omega)))
  have hnil := neNilG (ds := fl.map lossP) fun x hx => by
    obtain ⟨p, hp, rfl⟩ := List.mem_map.mp hx
    exact ⟨(pb_loss (hflo p hp)).1.1, (pb_loss (hflo p hp)).2⟩
  have hemp : (fl.map lossP).isEmpty = fl.isEmpty := by cases fl <;> rfl
  let due : D := .list [.bool fl.isEmpty, headP fl]
  have e1 : mLst (mLc1 (mCall m_pays_so (mAv (mNm 3) (mAv (mNm 5) (mAv (mNm 4) (mAv (mNm 6) mAn))))) (mLc1 (mCall m_first_unlike (mAv (mNm 3) (mAv (mNm 5) (mAv (mNm 4) (mAv (mNm 6) mAn))))) mLn)) ρ7 β6 = some (due, β6) := by
    have p1 := ev_pays_so h hL st it β6
    rw [same_iff hL st it] at p1
    exact mLst_ok (mLc1_ok (β1 := β6) (mCall_ok (β1 := β6) (ss := [.v (bkD b), .v (iT st), .v (bkD o), .v (iT it)]) rfl p1) (mLc1_ok (β1 := β6) (mCall_ok (β1 := β6) (ss := [.v (bkD b), .v (iT st), .v (bkD o), .v (iT it)]) rfl (ev_first_unlike h hL.1 st it β6)) rfl)) (two_le rfl)
  have e2 : mLst (mLc1 (mOp eqD (mPk 7) (mLst mLn)) (mLc1 (mIf (mTest (mOp neD (mPk 7) (mLst mLn))) (mOp ixD (mPk 7) (mC (.int 0))) (mC .none)) mLn)) ρ7 β6 = some (due, β6) := by
    have q1 : mOp eqD (mPk 7) (mLst mLn) ρ7 β6 = some (.bool fl.isEmpty, β6) := mOp_ok (β1 := β6) (β2 := β6) (d := .list (fl.map lossP)) rfl rfl (by rw [← hemp]; exact hnil.2)
    have ht : mTest (mOp neD (mPk 7) (mLst mLn)) ρ7 β6 = some (!fl.isEmpty, β6) := mTest_ok (mOp_ok (β1 := β6) (β2 := β6) (d := .list (fl.map lossP)) rfl rfl (by rw [← hemp]; exact hnil.1))
    have q2 : mIf (mTest (mOp neD (mPk 7) (mLst mLn))) (mOp ixD (mPk 7) (mC (.int 0))) (mC .none) ρ7 β6 = some (headP fl, β6) := by
      have hix : mOp ixD (mPk 7) (mC (.int 0)) ρ7 β6 = (atI (fl.map lossP) 0).map fun z => (z, β6) := rfl
      cases hfl : fl with
      | nil => exact (mIf_f (ht.trans (by rw [hfl]; rfl))).trans rfl
      | cons p r =>
        refine (mIf_t (ht.trans (by rw [hfl]; rfl))).trans (hix.trans ?_)
        rw [hfl, show atI ((p :: r).map lossP) 0 = some (lossP p) from atI_nat' (n := 0) rfl]
        rfl
    exact mLst_ok (mLc1_ok q1 (mLc1_ok q2 rfl)) (two_le rfl)
  obtain ⟨hp1, hp2⟩ := head_pn hflo
  have pbd : pb due = true := by
    show (pb (.bool fl.isEmpty) && (pb (headP fl) && true)) = true
    rw [hp1]
    rfl
  have ndd : nd due ≤ 900000 := by
    show (1 + (nd (headP fl) + 0)) + 1 ≤ 900000
    omega
  obtain ⟨cf, c1, c2⟩ := ev_alike due due β6 pbd pbd ndd
  have hcf : cf = true := c2.mpr rfl
  subst hcf
  have FIN := mCall_ok (f := m_law_alike) (mAv_ok e1 (mAv_ok (ma := mAn) e2 rfl)) c1
  exact ⟨ρ7, β6, seq_nx S1 (seq_nx S2 (seq_nx S3 (seq_nx S4 (seq_nx S5 (seq_nx S6 (seq_nx S7 (mRet_ok FIN)))))))⟩
end K31
namespace K31
open PySem PySem.Spec PyProof.Rows L2 M
def top (i : Nat) : Stmt := PySem.Challenge.pw_coverhall_k31_pieces_of_what_is_paid.main.body.getD i (.Pass ⟨0, 0, 0, 0⟩)
abbrev s_is_integer : Stmt := top 1
abbrev s_is_within : Stmt := top 2
abbrev s_are_all : Stmt := top 3
abbrev s_are_integers : Stmt := top 4
abbrev s_is_tuple_of : Stmt := top 5
abbrev s_sort_of : Stmt := top 6
abbrev s_part_pairs : Stmt := top 7
abbrev s_are_same : Stmt := top 8
abbrev s_bearers : Stmt := top 13
abbrev s_losses_of : Stmt := top 15
abbrev s_most_used : Stmt := top 16
abbrev s_above : Stmt := top 17
abbrev s_taken : Stmt := top 18
abbrev s_all_of : Stmt := top 19
abbrev s_borne_one : Stmt := top 20
abbrev s_paid : Stmt := top 21
abbrev s_behind : Stmt := top 22
abbrev s_step_between : Stmt := top 30
abbrev s_with_steps : Stmt := top 31
abbrev s_piece_from : Stmt := top 32
abbrev s_pieces_of : Stmt := top 33
abbrev s_members_of : Stmt := top 34
abbrev s_row_of : Stmt := top 35
abbrev s_member_at : Stmt := top 36
abbrev s_is_piece : Stmt := top 37
abbrev s_are_pieces : Stmt := top 38
abbrev s_turns_of : Stmt := top 39
abbrev s_cut : Stmt := top 40
abbrev s_joined : Stmt := top 41
abbrev s_added : Stmt := top 42
abbrev s_column : Stmt := top 43
abbrev s_paid_pieces : Stmt := top 47
abbrev s_used_pieces : Stmt := top 48
abbrev s_paid_by : Stmt := top 49
abbrev s_borne_by : Stmt := top 50
abbrev s_steady_from : Stmt := top 51
abbrev s_all_borne : Stmt := top 52
abbrev s_least_size : Stmt := top 53
abbrev s_most_borne : Stmt := top 54
abbrev s_sizes_borne : Stmt := top 55
abbrev s_pays_so : Stmt := top 56
abbrev s_first_unlike : Stmt := top 57
abbrev s_law_bag : Stmt := top 59
abbrev s_law_take : Stmt := top 60
abbrev s_law_some : Stmt := top 61
abbrev s_law_is_int : Stmt := top 62
abbrev s_law_alike : Stmt := top 63
abbrev s_law_odd : Stmt := top 64
abbrev s_law_bent : Stmt := top 65
abbrev s_law_bearers : Stmt := top 66
abbrev s_law_most_used : Stmt := top 67
abbrev s_law_bear : Stmt := top 68
abbrev s_law_first : Stmt := top 69
abbrev s_law_losses : Stmt := top 70
abbrev s_law_met : Stmt := top 71
abbrev s_law_treaty : Stmt := top 72
abbrev s_law_treaties : Stmt := top 73
abbrev s_law_book : Stmt := top 74
abbrev s_law_turned : Stmt := top 75
abbrev s_law_step : Stmt := top 76
abbrev s_law_pieces : Stmt := top 77
abbrev s_law_row : Stmt := top 78
abbrev s_law_is_pieces : Stmt := top 79
abbrev s_law_runs_right : Stmt := top 80
abbrev s_law_state : Stmt := top 81
abbrev s_law_paid_right : Stmt := top 82
abbrev s_law : Stmt := top 83
structure Bi (mg : Str → Option Value) : Prop where
  abs_ : mg "abs" = none
  all_ : mg "all" = none
  bool_ : mg "bool" = none
  dict_ : mg "dict" = none
  enumerate_ : mg "enumerate" = none
  int_ : mg "int" = none
  isinstance_ : mg "isinstance" = none
  len_ : mg "len" = none
  list_ : mg "list" = none
  max_ : mg "max" = none
  min_ : mg "min" = none
  range_ : mg "range" = none
  str_ : mg "str" = none
  tuple_ : mg "tuple" = none
  zip_ : mg "zip" = none
structure Cs (mg : Str → Option Value) : Prop where
  OWN : ∃ t, mg "OWN" = some (.str "own" t)
  LAYER : ∃ t, mg "LAYER" = some (.str "layer" t)
  STOP : ∃ t, mg "STOP" = some (.str "stop" t)
  FOUR : ∃ t, mg "FOUR" = some (.int 4 t)
  LOW : ∃ t, mg "LOW" = some (.int 0 t)
  HIGH : ∃ t, mg "HIGH" = some (.int 1 t)
  FIRST : ∃ t, mg "FIRST" = some (.int 2 t)
  STEP : ∃ t, mg "STEP" = some (.int 3 t)
  MOST_INDEX : ∃ t, mg "MOST_INDEX" = some (.int 65535 t)
  KINDS : ∃ t, mg "KINDS" = some (.int 1 t)
  MOST : ∃ t, mg "MOST" = some (.int 2 t)
/-! is_integer -/
def N_is_integer : List Str := ["thing"]
theorem sc_is_integer : FnScope N_is_integer ["thing"] (defScope s_is_integer) := ⟨rfl, rfl, rfl, by decide +kernel, rfl, by decide +kernel, by decide +kernel⟩
theorem has_is_integer (G : Gx) (hlv : G.lv = 0) (B : Bi G.mg) (C : Cs G.mg) (F : ∃ f fd, _root_.G.At G.K G.mg "is_integer" s_is_integer f fd) : HasM G 1 "is_integer" ["thing"] m_is_integer := by
  have S := sc_is_integer
  have h := has_def (G := G) (nl := 0) F S rfl (fun _ _ _ _ _ _ us hl => match us, hl with | [_], _ => rfl) (fun f cdv A outer s H E => ⟨_,
    (evb_one (evs_ret (ev_and (ev_is (f := isI) (Tn := "int") rfl B.isinstance_ B.int_ (by decide +kernel) (ev_pk 0)) (ev_one (ev_not (ev_is (f := isB) (Tn := "bool") rfl B.isinstance_ B.bool_ (by decide +kernel) (ev_pk 0)))))))⟩)
  rw [hlv] at h
  exact h
/-! is_tuple_of -/
def N_is_tuple_of : List Str := ["thing", "many"]
theorem sc_is_tuple_of : FnScope N_is_tuple_of ["thing", "many"] (defScope s_is_tuple_of) := ⟨rfl, rfl, rfl, by decide +kernel, rfl, by decide +kernel, by decide +kernel⟩
theorem has_is_tuple_of (G : Gx) (hlv : G.lv = 0) (B : Bi G.mg) (C : Cs G.mg) (F : ∃ f fd, _root_.G.At G.K G.mg "is_tuple_of" s_is_tuple_of f fd) : HasM G 1 "is_tuple_of" ["thing", "many"] m_is_tuple_of := by
  have S := sc_is_tuple_of
  have h := has_def (G := G) (nl := 0) F S rfl (fun _ _ _ _ _ _ us hl => match us, hl with | [_, _], _ => rfl) (fun f cdv A outer s H E => ⟨_,
    (evb_one (evs_ret (ev_and (ev_is (f := isT) (Tn := "tuple") rfl B.isinstance_ B.tuple_ (by decide +kernel) (ev_pk 0)) (ev_one (ev_cmp ops_eq opr_eq (Ev.pk (ev_b1 c1_len cr_len B.len_ (by decide +kernel) (ev_pk 0))) (ev_pk 1))))))⟩)
  rw [hlv] at h
  exact h
/-! sort_of -/
def N_sort_of : List Str := ["thing"]
theorem sc_sort_of : FnScope N_sort_of ["thing"] (defScope s_sort_of) := ⟨rfl, rfl, rfl, by decide +kernel, rfl, by decide +kernel, by decide +kernel⟩
theorem has_sort_of (G : Gx) (hlv : G.lv = 0) (B : Bi G.mg) (C : Cs G.mg) (F : ∃ f fd, _root_.G.At G.K G.mg "sort_of" s_sort_of f fd) : HasM G 1 "sort_of" ["thing"] m_sort_of := by
  have S := sc_sort_of
  have h := has_def (G := G) (nl := 0) F S rfl (fun _ _ _ _ _ _ us hl => match us, hl with | [_], _ => rfl) (fun f cdv A outer s H E => ⟨_,
    (evb_cons (evs_if (evt_tru (Ev.pk (ev_is (f := isB) (Tn := "bool") rfl B.isinstance_ B.bool_ (by decide +kernel) (ev_pk 0)))) (evb_one (evs_ret ev_str)) evb_nil)
    (evb_cons (evs_if (evt_tru (Ev.pk (ev_isTL B.isinstance_ B.tuple_ B.list_ (ev_pk 0)))) (evb_one (evs_ret (ev_if (evt_tru (Ev.pk (ev_is (f := isT) (Tn := "tuple") rfl B.isinstance_ B.tuple_ (by decide +kernel) (ev_pk 0)))) ev_str ev_str))) evb_nil)
    (evb_one (evs_ret (ev_if (evt_tru (Ev.pk (ev_is (f := isDi) (Tn := "dict") rfl B.isinstance_ B.dict_ (by decide +kernel) (ev_pk 0)))) ev_str ev_str)))))⟩)
  rw [hlv] at h
  exact h
/-! part_pairs -/
def N_part_pairs : List Str := ["one", "other", "found", "part", "its"]
theorem sc_part_pairs : FnScope N_part_pairs ["one", "other"] (defScope s_part_pairs) := ⟨rfl, rfl, rfl, by decide +kernel, rfl, by decide +kernel, by decide +kernel⟩
theorem has_part_pairs (G : Gx) (hlv : G.lv = 0) (B : Bi G.mg) (C : Cs G.mg) (F : ∃ f fd, _root_.G.At G.K G.mg "part_pairs" s_part_pairs f fd) : HasM G 1 "part_pairs" ["one", "other"] m_part_pairs := by
  have S := sc_part_pairs
  have h := has_def (G := G) (nl := 3) F S rfl (fun _ _ _ _ _ _ us hl => match us, hl with | [_, _], _ => rfl) (fun f cdv A outer s H E => ⟨_,
    (evb_cons (evs_if (evt_tru (Ev.pk (ev_is (f := isDi) (Tn := "dict") rfl B.isinstance_ B.dict_ (by decide +kernel) (ev_pk 0)))) evb_never evb_nil)
    (evb_one (evs_ret (ev_if (evt_tru (Ev.pk (ev_isTL B.isinstance_ B.tuple_ B.list_ (ev_pk 0)))) (ev_listZip B.list_ B.zip_ (ev_pk 0) (ev_pk 1)) (ev_lst evl_nil)))))⟩)
  rw [hlv] at h
  exact h
/-! bearers -/
def N_bearers : List Str := ["book", "name", "treaty"]
theorem sc_bearers : FnScope N_bearers ["book"] (defScope s_bearers) := ⟨rfl, rfl, rfl, by decide +kernel, rfl, by decide +kernel, by decide +kernel⟩
theorem has_bearers (G : Gx) (hlv : G.lv = 0) (B : Bi G.mg) (C : Cs G.mg) (F : ∃ f fd, _root_.G.At G.K G.mg "bearers" s_bearers f fd) : HasM G 1 "bearers" ["book"] m_bearers := by
  have S := sc_bearers
  have h := has_def (G := G) (nl := 2) F S rfl (fun _ _ _ _ _ _ us hl => match us, hl with | [_], _ => rfl) (fun f cdv A outer s H E => ⟨_,
    (evb_one (evs_ret (ev_tupK B.tuple_ (evk_dc S.nd (evi_seq (ev_lst (evl_cons (ev_gstrE C.OWN) (evl_star (Ev.pk (EvN.ev (evn_lc S.nd (evi_seq (ev_at (ev_pk 0) (Ev.pk ev_int))) (blkOk_by (own := [("treaty", 2)]) (by kernel_rfl)) (fun _ _ _ _ _ => (evg_nm 2 S.nd)) (fun _ _ _ _ _ => evf_nil) (fun _ _ _ _ _ => (ev_at (ev_pk 2) (Ev.pk ev_int)))))) evl_nil)))) (blkOk_by (own := [("name", 1)]) (by kernel_rfl)) (fun _ _ _ _ _ => (evg_nm 1 S.nd)) (fun _ _ _ _ _ => evf_nil) (fun _ _ _ _ _ => (ev_nm 1)) (fun _ _ _ _ _ => ev_bl)))))⟩)
  rw [hlv] at h
  exact h
/-! losses_of -/
def N_losses_of : List Str := ["book", "kind", "size"]
theorem sc_losses_of : FnScope N_losses_of ["book"] (defScope s_losses_of) := ⟨rfl, rfl, rfl, by decide +kernel, rfl, by decide +kernel, by decide +kernel⟩
theorem has_losses_of (G : Gx) (hlv : G.lv = 0) (B : Bi G.mg) (C : Cs G.mg) (F : ∃ f fd, _root_.G.At G.K G.mg "losses_of" s_losses_of f fd) : HasM G 1 "losses_of" ["book"] m_losses_of := by
  have S := sc_losses_of
  have h := has_def (G := G) (nl := 2) F S rfl (fun _ _ _ _ _ _ us hl => match us, hl with | [_], _ => rfl) (fun f cdv A outer s H E => ⟨_,
    (evb_one (evs_ret (ev_ty1 c1_tup cr_tup B.tuple_ (by decide +kernel) (Ev.pk (EvN.ev (evn_lc2 (vs1 := [2]) S.nd (evi_seq (ev_at (ev_pk 0) (Ev.pk ev_int))) (blkOk_by (own := [("kind", 1), ("size", 2)]) (by kernel_rfl)) (by decide) (fun _ _ _ _ _ => (evg_nm 1 S.nd)) (fun _ _ _ _ _ => evf_nil) (fun _ _ _ _ _ => (evi_range1 (ev_add (Ev.pk (ev_at (ev_pk 0) (Ev.pk ev_int))) (Ev.pk ev_int)) B.range_)) (fun _ _ _ _ _ => (evg_nm 2 S.nd)) (fun _ _ _ _ _ => evf_nil) (fun _ _ _ _ _ => (ev_tup (evl_cons (ev_nm 1) (evl_cons (ev_nm 2) evl_nil))))))))))⟩)
  rw [hlv] at h
  exact h
/-! most_used -/
def N_most_used : List Str := ["treaty"]
theorem sc_most_used : FnScope N_most_used ["treaty"] (defScope s_most_used) := ⟨rfl, rfl, rfl, by decide +kernel, rfl, by decide +kernel, by decide +kernel⟩
theorem has_most_used (G : Gx) (hlv : G.lv = 0) (B : Bi G.mg) (C : Cs G.mg) (F : ∃ f fd, _root_.G.At G.K G.mg "most_used" s_most_used f fd) : HasM G 1 "most_used" ["treaty"] m_most_used := by
  have S := sc_most_used
  have h := has_def (G := G) (nl := 0) F S rfl (fun _ _ _ _ _ _ us hl => match us, hl with | [_], _ => rfl) (fun f cdv A outer s H E => ⟨_,
    (evb_cons (evs_if (evt_cmp ops_eq opr_eq (Ev.pk (ev_at (ev_pk 0) (Ev.pk ev_int))) (Ev.pk (ev_gstrE C.STOP))) (evb_one (evs_ret (ev_add (Ev.pk (ev_at (ev_pk 0) (Ev.pk ev_int))) (Ev.pk (ev_at (ev_pk 0) (Ev.pk ev_int)))))) evb_nil)
    (evb_one (evs_ret (ev_if (evt_cmp ops_isN opr_isN (Ev.pk (ev_at (ev_pk 0) (Ev.pk ev_int))) (Ev.pk ev_non)) ev_int (ev_at (ev_pk 0) (Ev.pk ev_int))))))⟩)
  rw [hlv] at h
  exact h
/-! above -/
def N_above : List Str := ["treaty", "sum_borne"]
theorem sc_above : FnScope N_above ["treaty", "sum_borne"] (defScope s_above) := ⟨rfl, rfl, rfl, by decide +kernel, rfl, by decide +kernel, by decide +kernel⟩
theorem has_above (G : Gx) (hlv : G.lv = 0) (B : Bi G.mg) (C : Cs G.mg) (F : ∃ f fd, _root_.G.At G.K G.mg "above" s_above f fd) : HasM G 1 "above" ["treaty", "sum_borne"] m_above := by
  have S := sc_above
  have h := has_def (G := G) (nl := 0) F S rfl (fun _ _ _ _ _ _ us hl => match us, hl with | [_, _], _ => rfl) (fun f cdv A outer s H E => ⟨_,
    (evb_one (evs_ret (ev_b2 c2_min cr_min2 B.min_ (by decide +kernel) (Ev.pk (ev_at (ev_pk 0) (Ev.pk ev_int))) (Ev.pk (ev_b2 c2_max cr_max2 B.max_ (by decide +kernel) (Ev.pk ev_int) (Ev.pk (ev_sub (ev_pk 1) (Ev.pk (ev_at (ev_pk 0) (Ev.pk ev_int))))))))))⟩)
  rw [hlv] at h
  exact h
/-! step_between -/
def N_step_between : List Str := ["one", "other", "elder", "later"]
theorem sc_step_between : FnScope N_step_between ["one", "other"] (defScope s_step_between) := ⟨rfl, rfl, rfl, by decide +kernel, rfl, by decide +kernel, by decide +kernel⟩
theorem has_step_between (G : Gx) (hlv : G.lv = 0) (B : Bi G.mg) (C : Cs G.mg) (F : ∃ f fd, _root_.G.At G.K G.mg "step_between" s_step_between f fd) : HasM G 1 "step_between" ["one", "other"] m_step_between := by
  have S := sc_step_between
  have h := has_def (G := G) (nl := 2) F S rfl (fun _ _ _ _ _ _ us hl => match us, hl with | [_, _], _ => rfl) (fun f cdv A outer s H E => ⟨_,
    (evb_one (evs_ret (ev_ty1 c1_tup cr_tup B.tuple_ (by decide +kernel) (Ev.pk (EvN.ev (evn_lc S.nd (evi_zip (ev_nm 0) (ev_nm 1) B.zip_) (blkOk_by (own := [("elder", 2), ("later", 3)]) (by kernel_rfl)) (fun _ _ _ _ _ => (evg_tup (n := 2) (evgs_cons (evg_nm 2 S.nd) (evgs_cons (evg_nm 3 S.nd) evgs_nil)))) (fun _ _ _ _ _ => evf_nil) (fun _ _ _ _ _ => (ev_sub (ev_pk 3) (ev_pk 2)))))))))⟩)
  rw [hlv] at h
  exact h
/-! with_steps -/
def N_with_steps : List Str := ["first", "step", "many", "number", "more"]
theorem sc_with_steps : FnScope N_with_steps ["first", "step", "many"] (defScope s_with_steps) := ⟨rfl, rfl, rfl, by decide +kernel, rfl, by decide +kernel, by decide +kernel⟩
theorem has_with_steps (G : Gx) (hlv : G.lv = 0) (B : Bi G.mg) (C : Cs G.mg) (F : ∃ f fd, _root_.G.At G.K G.mg "with_steps" s_with_steps f fd) : HasM G 1 "with_steps" ["first", "step", "many"] m_with_steps := by
  have S := sc_with_steps
  have h := has_def (G := G) (nl := 2) F S rfl (fun _ _ _ _ _ _ us hl => match us, hl with | [_, _, _], _ => rfl) (fun f cdv A outer s H E => ⟨_,
    (evb_one (evs_ret (ev_ty1 c1_tup cr_tup B.tuple_ (by decide +kernel) (Ev.pk (EvN.ev (evn_lc S.nd (evi_zip (ev_nm 0) (ev_nm 1) B.zip_) (blkOk_by (own := [("number", 3), ("more", 4)]) (by kernel_rfl)) (fun _ _ _ _ _ => (evg_tup (n := 2) (evgs_cons (evg_nm 3 S.nd) (evgs_cons (evg_nm 4 S.nd) evgs_nil)))) (fun _ _ _ _ _ => evf_nil) (fun _ _ _ _ _ => (ev_add (ev_pk 3) (Ev.pk (ev_mul (ev_pk 4) (ev_pk 2)))))))))))⟩)
  rw [hlv] at h
  exact h
/-! turns_of -/
def N_turns_of : List Str := ["pieces", "piece"]
theorem sc_turns_of : FnScope N_turns_of ["pieces"] (defScope s_turns_of) := ⟨rfl, rfl, rfl, by decide +kernel, rfl, by decide +kernel, by decide +kernel⟩
theorem has_turns_of (G : Gx) (hlv : G.lv = 0) (B : Bi G.mg) (C : Cs G.mg) (F : ∃ f fd, _root_.G.At G.K G.mg "turns_of" s_turns_of f fd) : HasM G 1 "turns_of" ["pieces"] m_turns_of := by
  have S := sc_turns_of
  have h := has_def (G := G) (nl := 1) F S rfl (fun _ _ _ _ _ _ us hl => match us, hl with | [_], _ => rfl) (fun f cdv A outer s H E => ⟨_,
    (evb_one (evs_ret (ev_ty1 c1_tup cr_tup B.tuple_ (by decide +kernel) (Ev.pk (EvN.ev (evn_lc S.nd (evi_seq (ev_slice (ev_pk 0) (evo_some ev_int) evo_none)) (blkOk_by (own := [("piece", 1)]) (by kernel_rfl)) (fun _ _ _ _ _ => (evg_nm 1 S.nd)) (fun _ _ _ _ _ => evf_nil) (fun _ _ _ _ _ => (ev_at (ev_pk 1) (Ev.pk (ev_gintE C.LOW))))))))))⟩)
  rw [hlv] at h
  exact h
/-! law_take -/
def N_law_take : List Str := ["bag", "many", "cell", "stirred", "value", "begin", "second"]
theorem sc_law_take : FnScope N_law_take ["bag", "many"] (defScope s_law_take) := ⟨rfl, rfl, rfl, by decide +kernel, rfl, by decide +kernel, by decide +kernel⟩
theorem has_law_take (G : Gx) (hlv : G.lv = 0) (B : Bi G.mg) (C : Cs G.mg) (F : ∃ f fd, _root_.G.At G.K G.mg "_law_take" s_law_take f fd) : HasM G 1 "_law_take" ["bag", "many"] m_law_take := by
  have S := sc_law_take
  have h := has_def (G := G) (nl := 5) F S rfl (fun _ _ _ _ _ _ us hl => match us, hl with | [_, _], _ => rfl) (fun f cdv A outer s H E => ⟨_,
    (evb_cons (evs_if (evt_cmp ops_eq opr_eq (Ev.pk (ev_bag 0 0)) (Ev.pk ev_int)) (evb_cons (evs_set 2 S.nd (Ev.x (ev_at (Ev.pk (ev_add (Ev.pk (ev_slice (Ev.pk (ev_bag 0 3)) (evo_some (ev_bag 0 2)) evo_none)) (Ev.pk (ev_lst (evl_cons ev_int evl_nil))))) (Ev.pk ev_int))))
    (evb_cons (evs_bagAug 0 2 ev_int)
    (evb_cons (evs_if (evt_cmp ops_ge opr_ge (ev_pk 2) (Ev.pk (ev_pow (Ev.pk ev_int) (Ev.pk ev_int)))) (evb_one (evs_bagPut 0 0 (ev_nm 2))) evb_nil)
    (evb_cons (evs_set 3 S.nd (Ev.x (ev_add (Ev.pk (ev_add (Ev.pk (ev_mul (Ev.pk (ev_bag 0 1)) (Ev.pk ev_int))) (Ev.pk (ev_mod (Ev.pk (ev_ty1 c1_int cr_int B.int_ (by decide +kernel) (ev_pk 2))) (Ev.pk ev_int))))) (Ev.pk (ev_mul (Ev.pk ev_int) (Ev.pk (ev_bag 0 2)))))))
    (evb_one (evs_bagPut 0 1 (ev_mod (Ev.pk (ev_ty1 c1_int cr_int B.int_ (by decide +kernel) (ev_pk 3))) (Ev.pk ev_int)))))))) evb_nil)
    (evb_cons (evs_if (evt_cmp ops_gt opr_gt (Ev.pk (ev_bag 0 0)) (Ev.pk ev_int)) (evb_cons (evs_set 4 S.nd (Ev.x (ev_mod (Ev.pk (ev_ty1 c1_int cr_int B.int_ (by decide +kernel) (Ev.pk (ev_bag 0 0)))) (ev_pk 1))))
    (evb_cons (evs_bagPut 0 0 (ev_fdiv (Ev.pk (ev_ty1 c1_int cr_int B.int_ (by decide +kernel) (Ev.pk (ev_bag 0 0)))) (ev_pk 1)))
    (evb_one (evs_ret (ev_nm 4))))) evb_nil)
    (evb_cons (evs_set 5 S.nd (Ev.x (ev_mod (Ev.pk (ev_ty1 c1_int cr_int B.int_ (by decide +kernel) (Ev.pk (ev_mul (Ev.pk (ev_add (Ev.pk (ev_bag 0 1)) (Ev.pk ev_int))) (Ev.pk ev_int))))) (Ev.pk ev_int))))
    (evb_cons (evs_set 6 S.nd (Ev.x (ev_mod (Ev.pk (ev_ty1 c1_int cr_int B.int_ (by decide +kernel) (Ev.pk (ev_mul (Ev.pk (ev_mod (Ev.pk (ev_ty1 c1_int cr_int B.int_ (by decide +kernel) (Ev.pk (ev_mul (ev_pk 5) (ev_pk 5))))) (Ev.pk ev_int))) (Ev.pk ev_int))))) (Ev.pk ev_int))))
    (evb_one (evs_ret (ev_mod (Ev.pk (ev_ty1 c1_int cr_int B.int_ (by decide +kernel) (Ev.pk (ev_fdiv (ev_pk 6) (Ev.pk ev_int))))) (ev_pk 1))))))))⟩)
  rw [hlv] at h
  exact h
/-! law_is_int -/
def N_law_is_int : List Str := ["thing"]
theorem sc_law_is_int : FnScope N_law_is_int ["thing"] (defScope s_law_is_int) := ⟨rfl, rfl, rfl, by decide +kernel, rfl, by decide +kernel, by decide +kernel⟩
theorem has_law_is_int (G : Gx) (hlv : G.lv = 0) (B : Bi G.mg) (C : Cs G.mg) (F : ∃ f fd, _root_.G.At G.K G.mg "_law_is_int" s_law_is_int f fd) : HasM G 1 "_law_is_int" ["thing"] m_law_is_int := by
  have S := sc_law_is_int
  have h := has_def (G := G) (nl := 0) F S rfl (fun _ _ _ _ _ _ us hl => match us, hl with | [_], _ => rfl) (fun f cdv A outer s H E => ⟨_,
    (evb_one (evs_ret (ev_and (ev_is (f := isI) (Tn := "int") rfl B.isinstance_ B.int_ (by decide +kernel) (ev_pk 0)) (ev_one (ev_not (ev_is (f := isB) (Tn := "bool") rfl B.isinstance_ B.bool_ (by decide +kernel) (ev_pk 0)))))))⟩)
  rw [hlv] at h
  exact h
/-! law_alike -/
def N_law_alike : List Str := ["found", "due", "pairs", "at", "one", "other"]
theorem sc_law_alike : FnScope N_law_alike ["found", "due"] (defScope s_law_alike) := ⟨rfl, rfl, rfl, by decide +kernel, rfl, by decide +kernel, by decide +kernel⟩
theorem has_law_alike (G : Gx) (hlv : G.lv = 0) (B : Bi G.mg) (C : Cs G.mg) (F : ∃ f fd, _root_.G.At G.K G.mg "_law_alike" s_law_alike f fd) : HasM G 1 "_law_alike" ["found", "due"] m_law_alike := by
  have S := sc_law_alike
  have h := has_def (G := G) (nl := 4) F S rfl (fun _ _ _ _ _ _ us hl => match us, hl with | [_, _], _ => rfl) (fun f cdv A outer s H E => ⟨_,
    (evb_cons (evs_par2 2 3 S.nd (EvN.x (evn_lst (evl_cons (ev_tup (evl_cons (ev_nm 0) (evl_cons (ev_nm 1) evl_nil))) evl_nil))) (Ev.x ev_int))
    (evb_cons (evs_while 1000000 (evt_cmp ops_lt opr_lt (ev_pk 3) (Ev.pk (ev_b1 c1_len cr_len B.len_ (by decide +kernel) (ev_pk 2)))) (evb_cons (evs_asg (ev_at (ev_pk 2) (ev_pk 3)) (evg_tup (n := 2) (evgs_cons (evg_nm 4 S.nd) (evgs_cons (evg_nm 5 S.nd) evgs_nil))))
    (evb_cons (evs_augAdd 3 S.nd ev_int)
    (evb_cons (evs_if (EvW.t (evw_or (evt_cmp ops_ne opr_ne (Ev.pk (ev_is (f := isB) (Tn := "bool") rfl B.isinstance_ B.bool_ (by decide +kernel) (ev_pk 4))) (Ev.pk (ev_is (f := isB) (Tn := "bool") rfl B.isinstance_ B.bool_ (by decide +kernel) (ev_pk 5)))) (evw_or1 (evt_cmp ops_ne opr_ne (Ev.pk (ev_is (f := isS) (Tn := "str") rfl B.isinstance_ B.str_ (by decide +kernel) (ev_pk 4))) (Ev.pk (ev_is (f := isS) (Tn := "str") rfl B.isinstance_ B.str_ (by decide +kernel) (ev_pk 5))))))) (evb_one (evs_ret ev_bl)) evb_nil)
    (evb_cons (evs_if (evt_cmp ops_ne opr_ne (Ev.pk (ev_isTL B.isinstance_ B.tuple_ B.list_ (ev_pk 4))) (Ev.pk (ev_isTL B.isinstance_ B.tuple_ B.list_ (ev_pk 5)))) (evb_one (evs_ret ev_bl)) evb_nil)
    (evb_one (evs_if (evt_tru (Ev.pk (ev_isTL B.isinstance_ B.tuple_ B.list_ (ev_pk 4)))) (evb_cons (evs_if (EvW.t (evw_or (evt_cmp ops_ne opr_ne (Ev.pk (ev_is (f := isT) (Tn := "tuple") rfl B.isinstance_ B.tuple_ (by decide +kernel) (ev_pk 4))) (Ev.pk (ev_is (f := isT) (Tn := "tuple") rfl B.isinstance_ B.tuple_ (by decide +kernel) (ev_pk 5)))) (evw_or1 (evt_cmp ops_ne opr_ne (Ev.pk (ev_b1 c1_len cr_len B.len_ (by decide +kernel) (ev_pk 4))) (Ev.pk (ev_b1 c1_len cr_len B.len_ (by decide +kernel) (ev_pk 5))))))) (evb_one (evs_ret ev_bl)) evb_nil)
    (evb_one (evs_extend 2 (ev_listZip B.list_ B.zip_ (ev_pk 4) (ev_pk 5))))) (evb_one (evs_if (evt_cmp ops_ne opr_ne (ev_pk 4) (ev_pk 5)) (evb_one (evs_ret ev_bl)) evb_nil)))))))))
    (evb_one (evs_ret ev_bl))))⟩)
  rw [hlv] at h
  exact h
/-! law_bearers -/
def N_law_bearers : List Str := ["book", "found", "treaty"]
theorem sc_law_bearers : FnScope N_law_bearers ["book"] (defScope s_law_bearers) := ⟨rfl, rfl, rfl, by decide +kernel, rfl, by decide +kernel, by decide +kernel⟩
theorem has_law_bearers (G : Gx) (hlv : G.lv = 0) (B : Bi G.mg) (C : Cs G.mg) (F : ∃ f fd, _root_.G.At G.K G.mg "_law_bearers" s_law_bearers f fd) : HasM G 1 "_law_bearers" ["book"] m_law_bearers := by
  have S := sc_law_bearers
  have h := has_def (G := G) (nl := 2) F S rfl (fun _ _ _ _ _ _ us hl => match us, hl with | [_], _ => rfl) (fun f cdv A outer s H E => ⟨_,
    (evb_cons (evs_set 1 S.nd (Ev.x (ev_lst (evl_cons ev_str evl_nil))))
    (evb_cons (evs_for (evi_seq (ev_at (ev_pk 0) (Ev.pk ev_int))) (evg_nm 2 S.nd) (evb_one (evs_set 1 S.nd (Ev.x (ev_add (ev_pk 1) (Ev.pk (ev_mul (Ev.pk (ev_lst (evl_cons (ev_at (ev_pk 2) (Ev.pk ev_int)) evl_nil))) (Ev.pk (ev_ty1 c1_int cr_int B.int_ (by decide +kernel) (Ev.pk (ev_cmp (ops_in true) opr_notIn (Ev.pk (ev_at (ev_pk 2) (Ev.pk ev_int))) (ev_pk 1))))))))))))
    (evb_one (evs_ret (ev_nm 1)))))⟩)
  rw [hlv] at h
  exact h
/-! law_most_used -/
def N_law_most_used : List Str := ["treaty"]
theorem sc_law_most_used : FnScope N_law_most_used ["treaty"] (defScope s_law_most_used) := ⟨rfl, rfl, rfl, by decide +kernel, rfl, by decide +kernel, by decide +kernel⟩
theorem has_law_most_used (G : Gx) (hlv : G.lv = 0) (B : Bi G.mg) (C : Cs G.mg) (F : ∃ f fd, _root_.G.At G.K G.mg "_law_most_used" s_law_most_used f fd) : HasM G 1 "_law_most_used" ["treaty"] m_law_most_used := by
  have S := sc_law_most_used
  have h := has_def (G := G) (nl := 0) F S rfl (fun _ _ _ _ _ _ us hl => match us, hl with | [_], _ => rfl) (fun f cdv A outer s H E => ⟨_,
    (evb_one (evs_ret (ev_if (evt_cmp ops_eq opr_eq (Ev.pk (ev_at (ev_pk 0) (Ev.pk ev_int))) (Ev.pk ev_str)) (ev_add (Ev.pk (ev_at (ev_pk 0) (Ev.pk ev_int))) (Ev.pk (ev_at (ev_pk 0) (Ev.pk ev_int)))) (ev_if (evt_cmp ops_isN opr_isN (Ev.pk (ev_at (ev_pk 0) (Ev.pk ev_int))) (Ev.pk ev_non)) ev_int (ev_at (ev_pk 0) (Ev.pk ev_int))))))⟩)
  rw [hlv] at h
  exact h
/-! law_first -/
def N_law_first : List Str := ["book", "treaty"]
theorem sc_law_first : FnScope N_law_first ["book"] (defScope s_law_first) := ⟨rfl, rfl, rfl, by decide +kernel, rfl, by decide +kernel, by decide +kernel⟩
theorem has_law_first (G : Gx) (hlv : G.lv = 0) (B : Bi G.mg) (C : Cs G.mg) (F : ∃ f fd, _root_.G.At G.K G.mg "_law_first" s_law_first f fd) : HasM G 1 "_law_first" ["book"] m_law_first := by
  have S := sc_law_first
  have h := has_def (G := G) (nl := 1) F S rfl (fun _ _ _ _ _ _ us hl => match us, hl with | [_], _ => rfl) (fun f cdv A outer s H E => ⟨_,
    (evb_one (evs_ret (ev_ty1 c1_tup cr_tup B.tuple_ (by decide +kernel) (Ev.pk (EvN.ev (evn_lc S.nd (evi_seq (ev_at (ev_pk 0) (Ev.pk ev_int))) (blkOk_by (own := [("treaty", 1)]) (by kernel_rfl)) (fun _ _ _ _ _ => (evg_nm 1 S.nd)) (fun _ _ _ _ _ => evf_nil) (fun _ _ _ _ _ => ev_int)))))))⟩)
  rw [hlv] at h
  exact h
/-! law_losses -/
def N_law_losses : List Str := ["book", "found", "kind", "size"]
theorem sc_law_losses : FnScope N_law_losses ["book"] (defScope s_law_losses) := ⟨rfl, rfl, rfl, by decide +kernel, rfl, by decide +kernel, by decide +kernel⟩
theorem has_law_losses (G : Gx) (hlv : G.lv = 0) (B : Bi G.mg) (C : Cs G.mg) (F : ∃ f fd, _root_.G.At G.K G.mg "_law_losses" s_law_losses f fd) : HasM G 1 "_law_losses" ["book"] m_law_losses := by
  have S := sc_law_losses
  have h := has_def (G := G) (nl := 3) F S rfl (fun _ _ _ _ _ _ us hl => match us, hl with | [_], _ => rfl) (fun f cdv A outer s H E => ⟨_,
    (evb_cons (evs_set 1 S.nd (Ev.x (ev_lst evl_nil)))
    (evb_cons (evs_for (evi_seq (ev_at (ev_pk 0) (Ev.pk ev_int))) (evg_nm 2 S.nd) (evb_one (evs_set 1 S.nd (Ev.x (ev_add (ev_pk 1) (Ev.pk (EvN.ev (evn_lc S.nd (evi_range1 (ev_add (Ev.pk (ev_at (ev_pk 0) (Ev.pk ev_int))) (Ev.pk ev_int)) B.range_) (blkOk_by (own := [("size", 3)]) (by kernel_rfl)) (fun _ _ _ _ _ => (evg_nm 3 S.nd)) (fun _ _ _ _ _ => evf_nil) (fun _ _ _ _ _ => (ev_tup (evl_cons (ev_nm 2) (evl_cons (ev_nm 3) evl_nil))))))))))))
    (evb_one (evs_ret (ev_nm 1)))))⟩)
  rw [hlv] at h
  exact h
/-! law_step -/
def N_law_step : List Str := ["one", "other", "mine", "its"]
theorem sc_law_step : FnScope N_law_step ["one", "other"] (defScope s_law_step) := ⟨rfl, rfl, rfl, by decide +kernel, rfl, by decide +kernel, by decide +kernel⟩
theorem has_law_step (G : Gx) (hlv : G.lv = 0) (B : Bi G.mg) (C : Cs G.mg) (F : ∃ f fd, _root_.G.At G.K G.mg "_law_step" s_law_step f fd) : HasM G 1 "_law_step" ["one", "other"] m_law_step := by
  have S := sc_law_step
  have h := has_def (G := G) (nl := 2) F S rfl (fun _ _ _ _ _ _ us hl => match us, hl with | [_, _], _ => rfl) (fun f cdv A outer s H E => ⟨_,
    (evb_one (evs_ret (ev_ty1 c1_tup cr_tup B.tuple_ (by decide +kernel) (Ev.pk (EvN.ev (evn_lc S.nd (evi_zip (ev_nm 0) (ev_nm 1) B.zip_) (blkOk_by (own := [("mine", 2), ("its", 3)]) (by kernel_rfl)) (fun _ _ _ _ _ => (evg_tup (n := 2) (evgs_cons (evg_nm 2 S.nd) (evgs_cons (evg_nm 3 S.nd) evgs_nil)))) (fun _ _ _ _ _ => evf_nil) (fun _ _ _ _ _ => (ev_sub (ev_pk 3) (ev_pk 2)))))))))⟩)
  rw [hlv] at h
  exact h
/-! is_within -/
def N_is_within : List Str := ["thing", "least", "most"]
theorem sc_is_within : FnScope N_is_within ["thing", "least", "most"] (defScope s_is_within) := ⟨rfl, rfl, rfl, by decide +kernel, rfl, by decide +kernel, by decide +kernel⟩
theorem has_is_within (G : Gx) (hlv : G.lv = 1) (B : Bi G.mg) (C : Cs G.mg) (h_is_integer : HasM G 1 "is_integer" ["thing"] m_is_integer) (F : ∃ f fd, _root_.G.At G.K G.mg "is_within" s_is_within f fd) : HasM G 2 "is_within" ["thing", "least", "most"] m_is_within := by
  have S := sc_is_within
  have h := has_def (G := G) (nl := 0) F S rfl (fun _ _ _ _ _ _ us hl => match us, hl with | [_, _, _], _ => rfl) (fun f cdv A outer s H E => ⟨_,
    (evb_one (evs_ret (ev_and (ev_call h_is_integer fnM_len (eva_v (ev_nm 0) eva_nil)) (ev_one (ev_chain ops_le ops_le opr_le opr_le (ev_pk 1) (ev_pk 0) (ev_pk 2))))))⟩)
  rw [hlv] at h
  exact h
/-! are_all -/
def N_are_all : List Str := ["thing", "fits", "member"]
theorem sc_are_all : FnScope N_are_all ["thing", "fits"] (defScope s_are_all) := ⟨rfl, rfl, rfl, by decide +kernel, rfl, by decide +kernel, by decide +kernel⟩
theorem has_are_all (G : Gx) (hlv : G.lv = 1) (B : Bi G.mg) (C : Cs G.mg) (h_is_integer : HasM G 1 "is_integer" ["thing"] m_is_integer) (F : ∃ f fd, _root_.G.At G.K G.mg "are_all" s_are_all f fd) : HasM G 2 "are_all" ["thing", "fits"] m_are_all := by
  have S := sc_are_all
  have h := has_def (G := G) (nl := 1) F S rfl (fun _ _ _ _ _ _ us hl => match us, hl with | [_, _], _ => rfl) (fun f cdv A outer s H E => ⟨_,
    (evb_one (evs_ret (ev_and (ev_is (f := isT) (Tn := "tuple") rfl B.isinstance_ B.tuple_ (by decide +kernel) (ev_pk 0)) (ev_one (ev_b1 c1_all cr_allL B.all_ (by decide +kernel) (Ev.pk (EvN.ev (evn_lc S.nd (evi_seq (ev_nm 0)) (blkOk_by (own := [("member", 2)]) (by kernel_rfl)) (fun _ _ _ _ _ => (evg_nm 2 S.nd)) (fun _ _ _ _ _ => evf_nil) (fun _ _ _ _ _ => (ev_callS 1 h_is_integer fnM_len (eva_v (ev_nm 2) eva_nil)))))))))))⟩)
  rw [hlv] at h
  exact h
/-! are_same -/
def N_are_same : List Str := ["one", "other", "line", "mine", "its"]
theorem sc_are_same : FnScope N_are_same ["one", "other"] (defScope s_are_same) := ⟨rfl, rfl, rfl, by decide +kernel, rfl, by decide +kernel, by decide +kernel⟩
theorem has_are_same (G : Gx) (hlv : G.lv = 1) (B : Bi G.mg) (C : Cs G.mg) (h_sort_of : HasM G 1 "sort_of" ["thing"] m_sort_of) (h_part_pairs : HasM G 1 "part_pairs" ["one", "other"] m_part_pairs) (F : ∃ f fd, _root_.G.At G.K G.mg "are_same" s_are_same f fd) : HasM G 2 "are_same" ["one", "other"] m_are_same := by
  have S := sc_are_same
  have h := has_def (G := G) (nl := 3) F S rfl (fun _ _ _ _ _ _ us hl => match us, hl with | [_, _], _ => rfl) (fun f cdv A outer s H E => ⟨_,
    (evb_cons (evs_set 2 S.nd (EvN.x (evn_lst (evl_cons (ev_tup (evl_cons (ev_nm 0) (evl_cons (ev_nm 1) evl_nil))) evl_nil))))
    (evb_cons (evs_while 1000000 (evt_tru (ev_pk 2)) (evb_cons (evs_popTo 2 (evg_tup (n := 2) (evgs_cons (evg_nm 3 S.nd) (evgs_cons (evg_nm 4 S.nd) evgs_nil))))
    (evb_cons (evs_if (EvW.t (evw_or (evt_cmp ops_ne opr_ne (Ev.pk (ev_call h_sort_of fnM_len (eva_v (ev_nm 3) eva_nil))) (Ev.pk (ev_call h_sort_of fnM_len (eva_v (ev_nm 4) eva_nil)))) (evw_or1 (evt_cmp ops_ne opr_ne (ev_pk 3) (ev_pk 4))))) (evb_one (evs_ret ev_bl)) evb_nil)
    (evb_one (evs_extend 2 (ev_call h_part_pairs fnM_len (eva_v (ev_nm 3) (eva_v (ev_nm 4) eva_nil))))))))
    (evb_one (evs_ret ev_bl))))⟩)
  rw [hlv] at h
  exact h
/-! taken -/
def N_taken : List Str := ["treaty", "used", "bears", "now", "part"]
theorem sc_taken : FnScope N_taken ["treaty", "used", "bears"] (defScope s_taken) := ⟨rfl, rfl, rfl, by decide +kernel, rfl, by decide +kernel, by decide +kernel⟩
theorem has_taken (G : Gx) (hlv : G.lv = 1) (B : Bi G.mg) (C : Cs G.mg) (h_most_used : HasM G 1 "most_used" ["treaty"] m_most_used) (h_above : HasM G 1 "above" ["treaty", "sum_borne"] m_above) (F : ∃ f fd, _root_.G.At G.K G.mg "taken" s_taken f fd) : HasM G 2 "taken" ["treaty", "used", "bears"] m_taken := by
  have S := sc_taken
  have h := has_def (G := G) (nl := 2) F S rfl (fun _ _ _ _ _ _ us hl => match us, hl with | [_, _, _], _ => rfl) (fun f cdv A outer s H E => ⟨_,
    (evb_cons (evs_if (evt_cmp ops_eq opr_eq (Ev.pk (ev_at (ev_pk 0) (Ev.pk ev_int))) (Ev.pk (ev_gstrE C.STOP))) (evb_cons (evs_set 3 S.nd (Ev.x (ev_b2 c2_min cr_min2 B.min_ (by decide +kernel) (Ev.pk (ev_add (ev_pk 1) (ev_pk 2))) (Ev.pk (ev_call h_most_used fnM_len (eva_v (ev_nm 0) eva_nil))))))
    (evb_one (evs_ret (ev_tup (evl_cons (ev_sub (Ev.pk (ev_call h_above fnM_len (eva_v (ev_nm 0) (eva_v (ev_add (ev_pk 1) (ev_pk 2)) eva_nil)))) (Ev.pk (ev_call h_above fnM_len (eva_v (ev_nm 0) (eva_v (ev_nm 1) eva_nil))))) (evl_cons (ev_nm 3) evl_nil)))))) evb_nil)
    (evb_cons (evs_if (evt_cmp ops_eq opr_eq (Ev.pk (ev_at (ev_pk 0) (Ev.pk ev_int))) (Ev.pk (ev_gstrE C.LAYER))) (evb_one (evs_set 4 S.nd (Ev.x (ev_call h_above fnM_len (eva_v (ev_nm 0) (eva_v (ev_nm 2) eva_nil)))))) (evb_one (evs_set 4 S.nd (Ev.x (ev_fdiv (Ev.pk (ev_ty1 c1_int cr_int B.int_ (by decide +kernel) (Ev.pk (ev_mul (Ev.pk (ev_at (ev_pk 0) (Ev.pk ev_int))) (ev_pk 2))))) (Ev.pk (ev_at (ev_pk 0) (Ev.pk ev_int))))))))
    (evb_cons (evs_if (evt_cmp ops_isN opr_isN (Ev.pk (ev_at (ev_pk 0) (Ev.pk ev_int))) (Ev.pk ev_non)) (evb_one (evs_ret (ev_tup (evl_cons (ev_nm 4) (evl_cons (ev_nm 1) evl_nil))))) evb_nil)
    (evb_cons (evs_set 4 S.nd (Ev.x (ev_b2 c2_min cr_min2 B.min_ (by decide +kernel) (ev_pk 4) (Ev.pk (ev_sub (Ev.pk (ev_at (ev_pk 0) (Ev.pk ev_int))) (ev_pk 1))))))
    (evb_one (evs_ret (ev_tup (evl_cons (ev_nm 4) (evl_cons (ev_add (ev_pk 1) (ev_pk 4)) evl_nil)))))))))⟩)
  rw [hlv] at h
  exact h
/-! piece_from -/
def N_piece_from : List Str := ["row", "low", "step", "high"]
theorem sc_piece_from : FnScope N_piece_from ["row", "low"] (defScope s_piece_from) := ⟨rfl, rfl, rfl, by decide +kernel, rfl, by decide +kernel, by decide +kernel⟩
theorem has_piece_from (G : Gx) (hlv : G.lv = 1) (B : Bi G.mg) (C : Cs G.mg) (h_step_between : HasM G 1 "step_between" ["one", "other"] m_step_between) (F : ∃ f fd, _root_.G.At G.K G.mg "piece_from" s_piece_from f fd) : HasM G 2 "piece_from" ["row", "low"] m_piece_from := by
  have S := sc_piece_from
  have h := has_def (G := G) (nl := 2) F S rfl (fun _ _ _ _ _ _ us hl => match us, hl with | [_, _], _ => rfl) (fun f cdv A outer s H E => ⟨_,
    (evb_cons (evs_if (evt_cmp ops_eq opr_eq (ev_pk 1) (Ev.pk (ev_sub (Ev.pk (ev_b1 c1_len cr_len B.len_ (by decide +kernel) (ev_pk 0))) (Ev.pk ev_int)))) (evb_one (evs_ret (ev_tup (evl_cons (ev_nm 1) (evl_cons (ev_nm 1) (evl_cons (ev_at (ev_pk 0) (ev_pk 1)) (evl_cons (ev_tup evl_nil) evl_nil))))))) evb_nil)
    (evb_cons (evs_par2 2 3 S.nd (Ev.x (ev_call h_step_between fnM_len (eva_v (ev_at (ev_pk 0) (ev_pk 1)) (eva_v (ev_at (ev_pk 0) (Ev.pk (ev_add (ev_pk 1) (Ev.pk ev_int)))) eva_nil)))) (Ev.x (ev_add (ev_pk 1) (Ev.pk ev_int))))
    (evb_cons (evs_while 1000000 (EvW.t (evw_and (evt_cmp ops_lt opr_lt (Ev.pk (ev_add (ev_pk 3) (Ev.pk ev_int))) (Ev.pk (ev_b1 c1_len cr_len B.len_ (by decide +kernel) (ev_pk 0)))) (evw_and1 (evt_cmp ops_eq opr_eq (Ev.pk (ev_call h_step_between fnM_len (eva_v (ev_at (ev_pk 0) (ev_pk 3)) (eva_v (ev_at (ev_pk 0) (Ev.pk (ev_add (ev_pk 3) (Ev.pk ev_int)))) eva_nil)))) (ev_pk 2))))) (evb_one (evs_augAdd 3 S.nd ev_int)))
    (evb_one (evs_ret (ev_tup (evl_cons (ev_nm 1) (evl_cons (ev_nm 3) (evl_cons (ev_at (ev_pk 0) (ev_pk 1)) (evl_cons (ev_nm 2) evl_nil))))))))))⟩)
  rw [hlv] at h
  exact h
/-! members_of -/
def N_members_of : List Str := ["piece", "low", "high", "first", "step", "many"]
theorem sc_members_of : FnScope N_members_of ["piece"] (defScope s_members_of) := ⟨rfl, rfl, rfl, by decide +kernel, rfl, by decide +kernel, by decide +kernel⟩
theorem has_members_of (G : Gx) (hlv : G.lv = 1) (B : Bi G.mg) (C : Cs G.mg) (h_with_steps : HasM G 1 "with_steps" ["first", "step", "many"] m_with_steps) (F : ∃ f fd, _root_.G.At G.K G.mg "members_of" s_members_of f fd) : HasM G 2 "members_of" ["piece"] m_members_of := by
  have S := sc_members_of
  have h := has_def (G := G) (nl := 5) F S rfl (fun _ _ _ _ _ _ us hl => match us, hl with | [_], _ => rfl) (fun f cdv A outer s H E => ⟨_,
    (evb_cons (evs_asg (ev_nm 0) (evg_tup (n := 4) (evgs_cons (evg_nm 1 S.nd) (evgs_cons (evg_nm 2 S.nd) (evgs_cons (evg_nm 3 S.nd) (evgs_cons (evg_nm 4 S.nd) evgs_nil))))))
    (evb_one (evs_ret (ev_lst (evl_cons (ev_nm 3) (evl_star (Ev.pk (EvN.ev (evn_lc S.nd (evi_range2 ev_int (ev_add (Ev.pk (ev_sub (ev_pk 2) (ev_pk 1))) (Ev.pk ev_int)) B.range_) (blkOk_by (own := [("many", 5)]) (by kernel_rfl)) (fun _ _ _ _ _ => (evg_nm 5 S.nd)) (fun _ _ _ _ _ => evf_nil) (fun _ _ _ _ _ => (ev_call h_with_steps fnM_len (eva_v (ev_nm 3) (eva_v (ev_nm 4) (eva_v (ev_nm 5) eva_nil)))))))) evl_nil))))))⟩)
  rw [hlv] at h
  exact h
/-! member_at -/
def N_member_at : List Str := ["pieces", "index", "piece", "many", "one"]
theorem sc_member_at : FnScope N_member_at ["pieces", "index"] (defScope s_member_at) := ⟨rfl, rfl, rfl, by decide +kernel, rfl, by decide +kernel, by decide +kernel⟩
theorem has_member_at (G : Gx) (hlv : G.lv = 1) (B : Bi G.mg) (C : Cs G.mg) (h_with_steps : HasM G 1 "with_steps" ["first", "step", "many"] m_with_steps) (F : ∃ f fd, _root_.G.At G.K G.mg "member_at" s_member_at f fd) : HasM G 2 "member_at" ["pieces", "index"] m_member_at := by
  have S := sc_member_at
  have h := has_def (G := G) (nl := 3) F S rfl (fun _ _ _ _ _ _ us hl => match us, hl with | [_, _], _ => rfl) (fun f cdv A outer s H E => ⟨_,
    (evb_cons (evs_set 2 S.nd (Ev.x (ev_at (Ev.pk (EvN.ev (evn_lc S.nd (evi_seq (ev_nm 0)) (blkOk_by (own := [("one", 4)]) (by kernel_rfl)) (fun _ _ _ _ _ => (evg_nm 4 S.nd)) (fun _ _ _ _ _ => (evf_one (evt_cmp ops_le opr_le (Ev.pk (ev_at (ev_pk 4) (Ev.pk (ev_gintE C.LOW)))) (ev_pk 1)))) (fun _ _ _ _ _ => (ev_nm 4))))) (Ev.pk (ev_neg (Ev.pk ev_int))))))
    (evb_cons (evs_set 3 S.nd (Ev.x (ev_sub (ev_pk 1) (Ev.pk (ev_at (ev_pk 2) (Ev.pk (ev_gintE C.LOW)))))))
    (evb_one (evs_ret (ev_if (evt_cmp ops_eq opr_eq (ev_pk 3) (Ev.pk ev_int)) (ev_at (ev_pk 2) (Ev.pk (ev_gintE C.FIRST))) (ev_call h_with_steps fnM_len (eva_v (ev_at (ev_pk 2) (Ev.pk (ev_gintE C.FIRST))) (eva_v (ev_at (ev_pk 2) (Ev.pk (ev_gintE C.STEP))) (eva_v (ev_nm 3) eva_nil)))))))))⟩)
  rw [hlv] at h
  exact h
/-! law_some -/
def N_law_some : List Str := ["bag", "things"]
theorem sc_law_some : FnScope N_law_some ["bag", "things"] (defScope s_law_some) := ⟨rfl, rfl, rfl, by decide +kernel, rfl, by decide +kernel, by decide +kernel⟩
theorem has_law_some (G : Gx) (hlv : G.lv = 1) (B : Bi G.mg) (C : Cs G.mg) (h_law_take : HasM G 1 "_law_take" ["bag", "many"] m_law_take) (F : ∃ f fd, _root_.G.At G.K G.mg "_law_some" s_law_some f fd) : HasM G 2 "_law_some" ["bag", "things"] m_law_some := by
  have S := sc_law_some
  have h := has_def (G := G) (nl := 0) F S rfl (fun _ _ _ _ _ _ us hl => match us, hl with | [_, _], _ => rfl) (fun f cdv A outer s H E => ⟨_,
    (evb_one (evs_ret (ev_at (ev_pk 1) (Ev.pk (ev_call h_law_take fnM_len (eva_bag 0 (eva_v (ev_b1 c1_len cr_len B.len_ (by decide +kernel) (ev_pk 1)) eva_nil)))))))⟩)
  rw [hlv] at h
  exact h
/-! law_bear -/
def N_law_bear : List Str := ["book", "state", "loss", "kind", "size", "names", "amounts", "later", "some", "at", "name", "party", "sort", "source", "first", "second", "limit", "only", "used", "part", "held"]
theorem sc_law_bear : FnScope N_law_bear ["book", "state", "loss"] (defScope s_law_bear) := ⟨rfl, rfl, rfl, by decide +kernel, rfl, by decide +kernel, by decide +kernel⟩
theorem has_law_bear (G : Gx) (hlv : G.lv = 1) (B : Bi G.mg) (C : Cs G.mg) (h_law_bearers : HasM G 1 "_law_bearers" ["book"] m_law_bearers) (F : ∃ f fd, _root_.G.At G.K G.mg "_law_bear" s_law_bear f fd) : HasM G 2 "_law_bear" ["book", "state", "loss"] m_law_bear := by
  have S := sc_law_bear
  have h := has_def (G := G) (nl := 18) F S rfl (fun _ _ _ _ _ _ us hl => match us, hl with | [_, _, _], _ => rfl) (fun f cdv A outer s H E => ⟨_,
    (evb_cons (evs_asg (ev_nm 2) (evg_tup (n := 2) (evgs_cons (evg_nm 3 S.nd) (evgs_cons (evg_nm 4 S.nd) evgs_nil))))
    (evb_cons (evs_set 5 S.nd (Ev.x (ev_call h_law_bearers fnM_len (eva_v (ev_nm 0) eva_nil))))
    (evb_cons (evs_set 6 S.nd (EvK.x (evk_dictP B.dict_ (Ev.pk (EvN.ev (evn_lc S.nd (evi_seq (ev_nm 5)) (blkOk_by (own := [("name", 10)]) (by kernel_rfl)) (fun _ _ _ _ _ => (evg_nm 10 S.nd)) (fun _ _ _ _ _ => evf_nil) (fun _ _ _ _ _ => (ev_tup (evl_cons (ev_nm 10) (evl_cons ev_int evl_nil))))))))))
    (evb_cons (evs_dpar 6 7 8 S.nd ev_str (ev_nm 4) (EvN.x (evn_lst evl_nil)) (EvN.x (evn_lst evl_nil)))
    (evb_cons (evs_for (evi_enum (ev_at (ev_pk 0) (Ev.pk ev_int)) B.enumerate_) (evg_tup (n := 2) (evgs_cons (evg_nm 9 S.nd) (evgs_cons (evg_tup (n := 8) (evgs_cons (evg_nm 10 S.nd) (evgs_cons (evg_nm 11 S.nd) (evgs_cons (evg_nm 12 S.nd) (evgs_cons (evg_nm 13 S.nd) (evgs_cons (evg_nm 14 S.nd) (evgs_cons (evg_nm 15 S.nd) (evgs_cons (evg_nm 16 S.nd) (evgs_cons (evg_nm 17 S.nd) evgs_nil))))))))) evgs_nil))) (evb_cons (evs_par2 18 19 S.nd (Ev.x (ev_at (ev_pk 1) (ev_pk 9))) (Ev.x ev_int))
    (evb_cons (evs_if (evt_cmp (ops_in false) opr_in (ev_pk 3) (ev_pk 17)) (evb_cons (evs_set 20 S.nd (Ev.x (ev_dget 6 (ev_nm 13))))
    (evb_one (evs_if (evt_cmp ops_eq opr_eq (ev_pk 12) (Ev.pk ev_str)) (evb_cons (evs_set 19 S.nd (Ev.x (ev_sub (Ev.pk (ev_b2 c2_min cr_min2 B.min_ (by decide +kernel) (ev_pk 14) (Ev.pk (ev_b2 c2_max cr_max2 B.max_ (by decide +kernel) (Ev.pk ev_int) (Ev.pk (ev_sub (Ev.pk (ev_add (ev_pk 18) (ev_pk 20))) (ev_pk 15))))))) (Ev.pk (ev_b2 c2_min cr_min2 B.min_ (by decide +kernel) (ev_pk 14) (Ev.pk (ev_b2 c2_max cr_max2 B.max_ (by decide +kernel) (Ev.pk ev_int) (Ev.pk (ev_sub (ev_pk 18) (ev_pk 15))))))))))
    (evb_one (evs_set 18 S.nd (Ev.x (ev_b2 c2_min cr_min2 B.min_ (by decide +kernel) (Ev.pk (ev_add (ev_pk 18) (ev_pk 20))) (Ev.pk (ev_add (ev_pk 14) (ev_pk 15)))))))) (evb_cons (evs_set 19 S.nd (Ev.x (ev_if (evt_cmp ops_eq opr_eq (ev_pk 12) (Ev.pk ev_str)) (ev_b2 c2_min cr_min2 B.min_ (by decide +kernel) (ev_pk 14) (Ev.pk (ev_b2 c2_max cr_max2 B.max_ (by decide +kernel) (Ev.pk ev_int) (Ev.pk (ev_sub (ev_pk 20) (ev_pk 15)))))) (ev_fdiv (Ev.pk (ev_ty1 c1_int cr_int B.int_ (by decide +kernel) (Ev.pk (ev_mul (ev_pk 14) (ev_pk 20))))) (ev_pk 15)))))
    (evb_cons (evs_set 19 S.nd (Ev.x (ev_if (evt_cmp ops_isN opr_isN (ev_pk 16) (Ev.pk ev_non)) (ev_nm 19) (ev_b2 c2_min cr_min2 B.min_ (by decide +kernel) (ev_pk 19) (Ev.pk (ev_sub (ev_pk 16) (ev_pk 18)))))))
    (evb_one (evs_set 18 S.nd (Ev.x (ev_if (evt_cmp ops_isN opr_isN (ev_pk 16) (Ev.pk ev_non)) (ev_nm 18) (ev_add (ev_pk 18) (ev_pk 19))))))))))) evb_nil)
    (evb_cons (evs_daug (fI := (fun i j => i - j)) 6 (fun _ => in_sub) (ev_nm 13) (ev_nm 19))
    (evb_cons (evs_daug (fI := (fun i j => i + j)) 6 (fun _ => in_add) (ev_nm 11) (ev_nm 19))
    (evb_cons (evs_append 7 (ev_nm 18))
    (evb_one (evs_append 8 (ev_nm 19)))))))))
    (evb_one (evs_ret (ev_tup (evl_cons (ev_ty1 c1_tup cr_tup B.tuple_ (by decide +kernel) (Ev.pk (EvN.ev (evn_lc S.nd (evi_seq (ev_nm 5)) (blkOk_by (own := [("name", 10)]) (by kernel_rfl)) (fun _ _ _ _ _ => (evg_nm 10 S.nd)) (fun _ _ _ _ _ => evf_nil) (fun _ _ _ _ _ => (ev_dget 6 (ev_nm 10))))))) (evl_cons (ev_ty1 c1_tup cr_tup B.tuple_ (by decide +kernel) (ev_pk 7)) (evl_cons (ev_ty1 c1_tup cr_tup B.tuple_ (by decide +kernel) (ev_pk 8)) evl_nil)))))))))))⟩)
  rw [hlv] at h
  exact h
/-! law_pieces -/
def N_law_pieces : List Str := ["row", "found", "low", "turn", "high", "step", "at"]
theorem sc_law_pieces : FnScope N_law_pieces ["row"] (defScope s_law_pieces) := ⟨rfl, rfl, rfl, by decide +kernel, rfl, by decide +kernel, by decide +kernel⟩
theorem has_law_pieces (G : Gx) (hlv : G.lv = 1) (B : Bi G.mg) (C : Cs G.mg) (h_law_step : HasM G 1 "_law_step" ["one", "other"] m_law_step) (F : ∃ f fd, _root_.G.At G.K G.mg "_law_pieces" s_law_pieces f fd) : HasM G 2 "_law_pieces" ["row"] m_law_pieces := by
  have S := sc_law_pieces
  have h := has_def (G := G) (nl := 6) F S rfl (fun _ _ _ _ _ _ us hl => match us, hl with | [_], _ => rfl) (fun f cdv A outer s H E => ⟨_,
    (evb_cons (evs_par2 1 2 S.nd (EvN.x (evn_lst evl_nil)) (Ev.x ev_int))
    (evb_cons (evs_for (evi_range1 (ev_b1 c1_len cr_len B.len_ (by decide +kernel) (ev_pk 0)) B.range_) (evg_nm 3 S.nd) (evb_one (evs_if (evt_cmp ops_lt opr_lt (ev_pk 2) (Ev.pk (ev_b1 c1_len cr_len B.len_ (by decide +kernel) (ev_pk 0)))) (evb_cons (evs_set 4 S.nd (Ev.x (ev_nm 2)))
    (evb_cons (evs_set 5 S.nd (Ev.x (ev_if (evt_cmp ops_lt opr_lt (Ev.pk (ev_add (ev_pk 2) (Ev.pk ev_int))) (Ev.pk (ev_b1 c1_len cr_len B.len_ (by decide +kernel) (ev_pk 0)))) (ev_call h_law_step fnM_len (eva_v (ev_at (ev_pk 0) (ev_pk 2)) (eva_v (ev_at (ev_pk 0) (Ev.pk (ev_add (ev_pk 2) (Ev.pk ev_int)))) eva_nil))) (ev_tup evl_nil))))
    (evb_cons (evs_for (evi_range2 (ev_add (ev_pk 2) (Ev.pk ev_int)) (ev_b1 c1_len cr_len B.len_ (by decide +kernel) (ev_pk 0)) B.range_) (evg_nm 6 S.nd) (evb_one (evs_if (EvW.t (evw_and (evt_cmp ops_eq opr_eq (ev_pk 4) (Ev.pk (ev_sub (ev_pk 6) (Ev.pk ev_int)))) (evw_and1 (evt_cmp ops_eq opr_eq (Ev.pk (ev_call h_law_step fnM_len (eva_v (ev_at (ev_pk 0) (Ev.pk (ev_sub (ev_pk 6) (Ev.pk ev_int)))) (eva_v (ev_at (ev_pk 0) (ev_pk 6)) eva_nil)))) (ev_pk 5))))) (evb_one (evs_set 4 S.nd (Ev.x (ev_nm 6)))) evb_nil)))
    (evb_cons (evs_append 1 (ev_tup (evl_cons (ev_nm 2) (evl_cons (ev_nm 4) (evl_cons (ev_at (ev_pk 0) (ev_pk 2)) (evl_cons (ev_if (evt_cmp ops_gt opr_gt (ev_pk 4) (ev_pk 2)) (ev_nm 5) (ev_tup evl_nil)) evl_nil))))))
    (evb_one (evs_set 2 S.nd (Ev.x (ev_add (ev_pk 4) (Ev.pk ev_int))))))))) evb_nil)))
    (evb_one (evs_ret (ev_ty1 c1_tup cr_tup B.tuple_ (by decide +kernel) (ev_pk 1))))))⟩)
  rw [hlv] at h
  exact h
/-! law_state -/
def N_law_state : List Str := ["bag", "book", "treaty"]
theorem sc_law_state : FnScope N_law_state ["bag", "book"] (defScope s_law_state) := ⟨rfl, rfl, rfl, by decide +kernel, rfl, by decide +kernel, by decide +kernel⟩
theorem has_law_state (G : Gx) (hlv : G.lv = 1) (B : Bi G.mg) (C : Cs G.mg) (h_law_take : HasM G 1 "_law_take" ["bag", "many"] m_law_take) (h_law_most_used : HasM G 1 "_law_most_used" ["treaty"] m_law_most_used) (F : ∃ f fd, _root_.G.At G.K G.mg "_law_state" s_law_state f fd) : HasM G 2 "_law_state" ["bag", "book"] m_law_state := by
  have S := sc_law_state
  have h := has_def (G := G) (nl := 1) F S rfl (fun _ _ _ _ _ _ us hl => match us, hl with | [_, _], _ => rfl) (fun f cdv A outer s H E => ⟨_,
    (evb_one (evs_ret (ev_ty1 c1_tup cr_tup B.tuple_ (by decide +kernel) (Ev.pk (EvN.ev (evn_lc S.nd (evi_seq (ev_at (ev_pk 1) (Ev.pk ev_int))) (blkOk_by (own := [("treaty", 2)]) (by kernel_rfl)) (fun _ _ _ _ _ => (evg_nm 2 S.nd)) (fun _ _ _ _ _ => evf_nil) (fun _ _ _ _ _ => (ev_call h_law_take fnM_len (eva_bag 0 (eva_v (ev_add (Ev.pk (ev_call h_law_most_used fnM_len (eva_v (ev_nm 2) eva_nil))) (Ev.pk ev_int)) eva_nil))))))))))⟩)
  rw [hlv] at h
  exact h
/-! are_integers -/
def N_are_integers : List Str := ["thing"]
theorem sc_are_integers : FnScope N_are_integers ["thing"] (defScope s_are_integers) := ⟨rfl, rfl, rfl, by decide +kernel, rfl, by decide +kernel, by decide +kernel⟩
theorem has_are_integers (G : Gx) (hlv : G.lv = 2) (B : Bi G.mg) (C : Cs G.mg) (h_are_all : HasM G 2 "are_all" ["thing", "fits"] m_are_all) (h_is_integer : HasM G 1 "is_integer" ["thing"] m_is_integer) (F : ∃ f fd, _root_.G.At G.K G.mg "are_integers" s_are_integers f fd) : HasM G 3 "are_integers" ["thing"] m_are_integers := by
  have S := sc_are_integers
  have h := has_def (G := G) (nl := 0) F S rfl (fun _ _ _ _ _ _ us hl => match us, hl with | [_], _ => rfl) (fun f cdv A outer s H E => ⟨_,
    (evb_one (evs_ret (ev_call h_are_all fnM_len (eva_v (ev_nm 0) (eva_fn h_is_integer eva_nil)))))⟩)
  rw [hlv] at h
  exact h
/-! all_of -/
def N_all_of : List Str := ["book", "state", "loss", "amounts", "later", "some", "treaty", "used", "part", "now", "name"]
theorem sc_all_of : FnScope N_all_of ["book", "state", "loss"] (defScope s_all_of) := ⟨rfl, rfl, rfl, by decide +kernel, rfl, by decide +kernel, by decide +kernel⟩
theorem has_all_of (G : Gx) (hlv : G.lv = 2) (B : Bi G.mg) (C : Cs G.mg) (h_bearers : HasM G 1 "bearers" ["book"] m_bearers) (h_taken : HasM G 2 "taken" ["treaty", "used", "bears"] m_taken) (F : ∃ f fd, _root_.G.At G.K G.mg "all_of" s_all_of f fd) : HasM G 3 "all_of" ["book", "state", "loss"] m_all_of := by
  have S := sc_all_of
  have h := has_def (G := G) (nl := 8) F S rfl (fun _ _ _ _ _ _ us hl => match us, hl with | [_, _, _], _ => rfl) (fun f cdv A outer s H E => ⟨_,
    (evb_cons (evs_par3 3 4 5 S.nd (EvK.x (evk_dc S.nd (evi_seq (ev_call h_bearers fnM_len (eva_v (ev_nm 0) eva_nil))) (blkOk_by (own := [("name", 10)]) (by kernel_rfl)) (fun _ _ _ _ _ => (evg_nm 10 S.nd)) (fun _ _ _ _ _ => evf_nil) (fun _ _ _ _ _ => (ev_nm 10)) (fun _ _ _ _ _ => ev_int))) (EvN.x (evn_lst evl_nil)) (EvN.x (evn_lst evl_nil)))
    (evb_cons (evs_dput 3 (ev_gstrE C.OWN) (ev_at (ev_pk 2) (Ev.pk ev_int)))
    (evb_cons (evs_for (evi_zip (ev_at (ev_pk 0) (Ev.pk ev_int)) (ev_nm 1) B.zip_) (evg_tup (n := 2) (evgs_cons (evg_nm 6 S.nd) (evgs_cons (evg_nm 7 S.nd) evgs_nil))) (evb_cons (evs_asg (ev_if (evt_cmp (ops_in false) opr_in (Ev.pk (ev_at (ev_pk 2) (Ev.pk ev_int))) (Ev.pk (ev_at (ev_pk 6) (Ev.pk ev_int)))) (ev_call h_taken fnM_len (eva_v (ev_nm 6) (eva_v (ev_nm 7) (eva_v (ev_dget 3 (ev_at (ev_pk 6) (Ev.pk ev_int))) eva_nil)))) (ev_tup (evl_cons ev_int (evl_cons (ev_nm 7) evl_nil)))) (evg_tup (n := 2) (evgs_cons (evg_nm 8 S.nd) (evgs_cons (evg_nm 9 S.nd) evgs_nil))))
    (evb_cons (evs_daug (fI := (fun i j => i - j)) 3 (fun _ => in_sub) (ev_at (ev_pk 6) (Ev.pk ev_int)) (ev_nm 8))
    (evb_cons (evs_daug (fI := (fun i j => i + j)) 3 (fun _ => in_add) (ev_at (ev_pk 6) (Ev.pk ev_int)) (ev_nm 8))
    (evb_cons (evs_append 4 (ev_nm 9))
    (evb_one (evs_append 5 (ev_nm 8))))))))
    (evb_one (evs_ret (ev_tup (evl_cons (ev_tupVals 3 B.tuple_) (evl_cons (ev_ty1 c1_tup cr_tup B.tuple_ (by decide +kernel) (ev_pk 4)) (evl_cons (ev_ty1 c1_tup cr_tup B.tuple_ (by decide +kernel) (ev_pk 5)) evl_nil)))))))))⟩)
  rw [hlv] at h
  exact h
/-! pieces_of -/
def N_pieces_of : List Str := ["row", "found"]
theorem sc_pieces_of : FnScope N_pieces_of ["row"] (defScope s_pieces_of) := ⟨rfl, rfl, rfl, by decide +kernel, rfl, by decide +kernel, by decide +kernel⟩
theorem has_pieces_of (G : Gx) (hlv : G.lv = 2) (B : Bi G.mg) (C : Cs G.mg) (h_piece_from : HasM G 2 "piece_from" ["row", "low"] m_piece_from) (F : ∃ f fd, _root_.G.At G.K G.mg "pieces_of" s_pieces_of f fd) : HasM G 3 "pieces_of" ["row"] m_pieces_of := by
  have S := sc_pieces_of
  have h := has_def (G := G) (nl := 1) F S rfl (fun _ _ _ _ _ _ us hl => match us, hl with | [_], _ => rfl) (fun f cdv A outer s H E => ⟨_,
    (evb_cons (evs_set 1 S.nd (EvN.x (evn_lst (evl_cons (ev_call h_piece_from fnM_len (eva_v (ev_nm 0) (eva_v ev_int eva_nil))) evl_nil))))
    (evb_cons (evs_while 1000000 (evt_cmp ops_lt opr_lt (Ev.pk (ev_at (Ev.pk (ev_at (ev_pk 1) (Ev.pk (ev_neg (Ev.pk ev_int))))) (Ev.pk (ev_gintE C.HIGH)))) (Ev.pk (ev_sub (Ev.pk (ev_b1 c1_len cr_len B.len_ (by decide +kernel) (ev_pk 0))) (Ev.pk ev_int)))) (evb_one (evs_append 1 (ev_call h_piece_from fnM_len (eva_v (ev_nm 0) (eva_v (ev_add (Ev.pk (ev_at (Ev.pk (ev_at (ev_pk 1) (Ev.pk (ev_neg (Ev.pk ev_int))))) (Ev.pk (ev_gintE C.HIGH)))) (Ev.pk ev_int)) eva_nil))))))
    (evb_one (evs_ret (ev_ty1 c1_tup cr_tup B.tuple_ (by decide +kernel) (ev_pk 1))))))⟩)
  rw [hlv] at h
  exact h
/-! row_of -/
def N_row_of : List Str := ["pieces", "piece", "member"]
theorem sc_row_of : FnScope N_row_of ["pieces"] (defScope s_row_of) := ⟨rfl, rfl, rfl, by decide +kernel, rfl, by decide +kernel, by decide +kernel⟩
theorem has_row_of (G : Gx) (hlv : G.lv = 2) (B : Bi G.mg) (C : Cs G.mg) (h_members_of : HasM G 2 "members_of" ["piece"] m_members_of) (F : ∃ f fd, _root_.G.At G.K G.mg "row_of" s_row_of f fd) : HasM G 3 "row_of" ["pieces"] m_row_of := by
  have S := sc_row_of
  have h := has_def (G := G) (nl := 2) F S rfl (fun _ _ _ _ _ _ us hl => match us, hl with | [_], _ => rfl) (fun f cdv A outer s H E => ⟨_,
    (evb_one (evs_ret (ev_ty1 c1_tup cr_tup B.tuple_ (by decide +kernel) (Ev.pk (EvN.ev (evn_lc2 (vs1 := [2]) S.nd (evi_seq (ev_nm 0)) (blkOk_by (own := [("piece", 1), ("member", 2)]) (by kernel_rfl)) (by decide) (fun _ _ _ _ _ => (evg_nm 1 S.nd)) (fun _ _ _ _ _ => evf_nil) (fun _ _ _ _ _ => (evi_seq (ev_call h_members_of fnM_len (eva_v (ev_nm 1) eva_nil)))) (fun _ _ _ _ _ => (evg_nm 2 S.nd)) (fun _ _ _ _ _ => evf_nil) (fun _ _ _ _ _ => (ev_nm 2))))))))⟩)
  rw [hlv] at h
  exact h
/-! paid_by -/
def N_paid_by : List Str := ["book", "pieces", "size"]
theorem sc_paid_by : FnScope N_paid_by ["book", "pieces", "size"] (defScope s_paid_by) := ⟨rfl, rfl, rfl, by decide +kernel, rfl, by decide +kernel, by decide +kernel⟩
theorem has_paid_by (G : Gx) (hlv : G.lv = 2) (B : Bi G.mg) (C : Cs G.mg) (h_member_at : HasM G 2 "member_at" ["pieces", "index"] m_member_at) (F : ∃ f fd, _root_.G.At G.K G.mg "paid_by" s_paid_by f fd) : HasM G 3 "paid_by" ["book", "pieces", "size"] m_paid_by := by
  have S := sc_paid_by
  have h := has_def (G := G) (nl := 0) F S rfl (fun _ _ _ _ _ _ us hl => match us, hl with | [_, _, _], _ => rfl) (fun f cdv A outer s H E => ⟨_,
    (evb_one (evs_ret (ev_call h_member_at fnM_len (eva_v (ev_nm 1) (eva_v (ev_nm 2) eva_nil)))))⟩)
  rw [hlv] at h
  exact h
/-! law_odd -/
def N_law_odd : List Str := ["bag", "some"]
theorem sc_law_odd : FnScope N_law_odd ["bag"] (defScope s_law_odd) := ⟨rfl, rfl, rfl, by decide +kernel, rfl, by decide +kernel, by decide +kernel⟩
theorem has_law_odd (G : Gx) (hlv : G.lv = 2) (B : Bi G.mg) (C : Cs G.mg) (h_law_some : HasM G 2 "_law_some" ["bag", "things"] m_law_some) (F : ∃ f fd, _root_.G.At G.K G.mg "_law_odd" s_law_odd f fd) : HasM G 3 "_law_odd" ["bag"] m_law_odd := by
  have S := sc_law_odd
  have h := has_def (G := G) (nl := 1) F S rfl (fun _ _ _ _ _ _ us hl => match us, hl with | [_], _ => rfl) (fun f cdv A outer s H E => ⟨_,
    (evb_cons (evs_set 1 S.nd (Ev.x (ev_lst (evl_cons ev_non (evl_cons ev_bl (evl_cons ev_bl (evl_cons ev_int (evl_cons (ev_neg (Ev.pk ev_int)) (evl_cons ev_int (evl_cons (ev_pow (Ev.pk ev_int) (Ev.pk ev_int)) (evl_cons ev_str (evl_cons ev_str (evl_cons ev_str (evl_cons (ev_tup evl_nil) (evl_cons (ev_lst evl_nil) (evl_cons ev_dict0 (evl_cons (ev_tup (evl_cons ev_int evl_nil)) (evl_cons (ev_tup (evl_cons (ev_tup evl_nil) evl_nil)) (evl_cons (ev_lst (evl_cons ev_int evl_nil)) (evl_cons (ev_dict1 ev_str ev_int) (evl_cons (ev_tup (evl_cons (ev_tup (evl_cons ev_int (evl_cons ev_int evl_nil))) evl_nil)) (evl_cons (ev_tup (evl_cons ev_str (evl_cons ev_int evl_nil))) evl_nil))))))))))))))))))))))
    (evb_one (evs_ret (ev_call h_law_some fnM_len (eva_bag 0 (eva_v (ev_nm 1) eva_nil))))))⟩)
  rw [hlv] at h
  exact h
/-! law_met -/
def N_law_met : List Str := ["book", "most", "found", "line", "at", "here", "loss", "there"]
theorem sc_law_met : FnScope N_law_met ["book", "most"] (defScope s_law_met) := ⟨rfl, rfl, rfl, by decide +kernel, rfl, by decide +kernel, by decide +kernel⟩
theorem has_law_met (G : Gx) (hlv : G.lv = 2) (B : Bi G.mg) (C : Cs G.mg) (h_law_first : HasM G 1 "_law_first" ["book"] m_law_first) (h_law_losses : HasM G 1 "_law_losses" ["book"] m_law_losses) (h_law_bear : HasM G 2 "_law_bear" ["book", "state", "loss"] m_law_bear) (F : ∃ f fd, _root_.G.At G.K G.mg "_law_met" s_law_met f fd) : HasM G 3 "_law_met" ["book", "most"] m_law_met := by
  have S := sc_law_met
  have h := has_def (G := G) (nl := 6) F S rfl (fun _ _ _ _ _ _ us hl => match us, hl with | [_, _], _ => rfl) (fun f cdv A outer s H E => ⟨_,
    (evb_cons (evs_par3 2 3 4 S.nd (evx_dt (ev_call h_law_first fnM_len (eva_v (ev_nm 0) eva_nil)) ev_bl) (EvN.x (evn_lst (evl_cons (ev_call h_law_first fnM_len (eva_v (ev_nm 0) eva_nil)) evl_nil))) (Ev.x ev_int))
    (evb_cons (evs_while 1000000 (evt_cmp ops_lt opr_lt (ev_pk 4) (Ev.pk (ev_b1 c1_len cr_len B.len_ (by decide +kernel) (ev_pk 3)))) (evb_cons (evs_par2 5 4 S.nd (Ev.x (ev_at (ev_pk 3) (ev_pk 4))) (Ev.x (ev_add (ev_pk 4) (Ev.pk ev_int))))
    (evb_one (evs_for (evi_seq (ev_call h_law_losses fnM_len (eva_v (ev_nm 0) eva_nil))) (evg_nm 6 S.nd) (evb_cons (evs_set 7 S.nd (Ev.x (ev_at (Ev.pk (ev_call h_law_bear fnM_len (eva_v (ev_nm 0) (eva_v (ev_nm 5) (eva_v (ev_nm 6) eva_nil))))) (Ev.pk ev_int))))
    (evb_one (evs_if (evt_tnotin 2 (ev_nm 7)) (evb_cons (evs_if (evt_cmp ops_eq opr_eq (Ev.pk (ev_lenT 2 B.len_)) (ev_pk 1)) (evb_one (evs_ret ev_non)) evb_nil)
    (evb_cons (evs_tput 2 (ev_nm 7) ev_bl)
    (evb_one (evs_append 3 (ev_nm 7))))) evb_nil)))))))
    (evb_one (evs_retO 3))))⟩)
  rw [hlv] at h
  exact h
/-! law_treaty -/
def N_law_treaty : List Str := ["bag", "name", "party", "sources", "kinds", "sort", "only", "source", "first", "second", "limit", "kind", "one"]
theorem sc_law_treaty : FnScope N_law_treaty ["bag", "name", "party", "sources", "kinds"] (defScope s_law_treaty) := ⟨rfl, rfl, rfl, by decide +kernel, rfl, by decide +kernel, by decide +kernel⟩
theorem has_law_treaty (G : Gx) (hlv : G.lv = 2) (B : Bi G.mg) (C : Cs G.mg) (h_law_some : HasM G 2 "_law_some" ["bag", "things"] m_law_some) (h_law_take : HasM G 1 "_law_take" ["bag", "many"] m_law_take) (F : ∃ f fd, _root_.G.At G.K G.mg "_law_treaty" s_law_treaty f fd) : HasM G 3 "_law_treaty" ["bag", "name", "party", "sources", "kinds"] m_law_treaty := by
  have S := sc_law_treaty
  have h := has_def (G := G) (nl := 8) F S rfl (fun _ _ _ _ _ _ us hl => match us, hl with | [_, _, _, _, _], _ => rfl) (fun f cdv A outer s H E => ⟨_,
    (evb_cons (evs_set 5 S.nd (Ev.x (ev_call h_law_some fnM_len (eva_bag 0 (eva_v (ev_lst (evl_cons ev_str (evl_cons ev_str (evl_cons ev_str (evl_cons ev_str evl_nil))))) eva_nil)))))
    (evb_cons (evs_set 6 S.nd (Ev.x (ev_ty1 c1_tup cr_tup B.tuple_ (by decide +kernel) (Ev.pk (EvN.ev (evn_lc S.nd (evi_seq (ev_nm 4)) (blkOk_by (own := [("kind", 11)]) (by kernel_rfl)) (fun _ _ _ _ _ => (evg_nm 11 S.nd)) (fun _ _ _ _ _ => (evf_one (evt_cmp ops_gt opr_gt (Ev.pk (ev_call h_law_take fnM_len (eva_bag 0 (eva_v ev_int eva_nil)))) (Ev.pk ev_int)))) (fun _ _ _ _ _ => (ev_nm 11))))))))
    (evb_cons (evs_set 6 S.nd (Ev.x (ev_if (evt_cmp ops_ne opr_ne (ev_pk 6) (Ev.pk (ev_tup evl_nil))) (ev_nm 6) (ev_nm 4))))
    (evb_cons (evs_set 7 S.nd (Ev.x (ev_call h_law_some fnM_len (eva_bag 0 (eva_v (EvN.ev (evn_lc S.nd (evi_seq (ev_nm 3)) (blkOk_by (own := [("one", 12)]) (by kernel_rfl)) (fun _ _ _ _ _ => (evg_nm 12 S.nd)) (fun _ _ _ _ _ => (evf_one (evt_cmp ops_ne opr_ne (ev_pk 12) (ev_pk 2)))) (fun _ _ _ _ _ => (ev_nm 12)))) eva_nil)))))
    (evb_cons (evs_if (evt_cmp ops_eq opr_eq (ev_pk 5) (Ev.pk ev_str)) (evb_one (evs_par2 8 9 S.nd (Ev.x (ev_add (Ev.pk ev_int) (Ev.pk (ev_call h_law_take fnM_len (eva_bag 0 (eva_v ev_int eva_nil)))))) (Ev.x (ev_call h_law_take fnM_len (eva_bag 0 (eva_v ev_int eva_nil)))))) (evb_one (evs_if (evt_cmp ops_eq opr_eq (ev_pk 5) (Ev.pk ev_str)) (evb_cons (evs_set 9 S.nd (Ev.x (ev_add (Ev.pk ev_int) (Ev.pk (ev_call h_law_take fnM_len (eva_bag 0 (eva_v ev_int eva_nil)))))))
    (evb_one (evs_set 8 S.nd (Ev.x (ev_add (Ev.pk ev_int) (Ev.pk (ev_call h_law_take fnM_len (eva_bag 0 (eva_v (ev_nm 9) eva_nil))))))))) (evb_one (evs_par2 8 9 S.nd (Ev.x (ev_add (Ev.pk ev_int) (Ev.pk (ev_call h_law_take fnM_len (eva_bag 0 (eva_v ev_int eva_nil)))))) (Ev.x (ev_call h_law_take fnM_len (eva_bag 0 (eva_v ev_int eva_nil)))))))))
    (evb_cons (evs_set 10 S.nd (Ev.x (ev_if (EvW.t (evw_or (evt_cmp ops_eq opr_eq (ev_pk 5) (Ev.pk ev_str)) (evw_or1 (evt_cmp ops_eq opr_eq (Ev.pk (ev_call h_law_take fnM_len (eva_bag 0 (eva_v ev_int eva_nil)))) (Ev.pk ev_int))))) ev_non (ev_add (Ev.pk ev_int) (Ev.pk (ev_call h_law_take fnM_len (eva_bag 0 (eva_v ev_int eva_nil))))))))
    (evb_one (evs_ret (ev_tup (evl_cons (ev_nm 1) (evl_cons (ev_nm 2) (evl_cons (ev_nm 5) (evl_cons (ev_nm 7) (evl_cons (ev_nm 8) (evl_cons (ev_nm 9) (evl_cons (ev_nm 10) (evl_cons (ev_nm 6) evl_nil)))))))))))))))))⟩)
  rw [hlv] at h
  exact h
/-! law_row -/
def N_law_row : List Str := ["bag", "many", "row", "turn", "step", "one", "part", "mine", "its"]
theorem sc_law_row : FnScope N_law_row ["bag", "many"] (defScope s_law_row) := ⟨rfl, rfl, rfl, by decide +kernel, rfl, by decide +kernel, by decide +kernel⟩
theorem has_law_row (G : Gx) (hlv : G.lv = 2) (B : Bi G.mg) (C : Cs G.mg) (h_law_take : HasM G 1 "_law_take" ["bag", "many"] m_law_take) (h_law_some : HasM G 2 "_law_some" ["bag", "things"] m_law_some) (F : ∃ f fd, _root_.G.At G.K G.mg "_law_row" s_law_row f fd) : HasM G 3 "_law_row" ["bag", "many"] m_law_row := by
  have S := sc_law_row
  have h := has_def (G := G) (nl := 7) F S rfl (fun _ _ _ _ _ _ us hl => match us, hl with | [_, _], _ => rfl) (fun f cdv A outer s H E => ⟨_,
    (evb_cons (evs_set 2 S.nd (EvN.x (evn_lst (evl_cons (ev_ty1 c1_tup cr_tup B.tuple_ (by decide +kernel) (Ev.pk (EvN.ev (evn_lc S.nd (evi_range1 (ev_nm 1) B.range_) (blkOk_by (own := [("part", 6)]) (by kernel_rfl)) (fun _ _ _ _ _ => (evg_nm 6 S.nd)) (fun _ _ _ _ _ => evf_nil) (fun _ _ _ _ _ => (ev_call h_law_take fnM_len (eva_bag 0 (eva_v ev_int eva_nil)))))))) evl_nil))))
    (evb_cons (evs_for (evi_range1 (ev_call h_law_take fnM_len (eva_bag 0 (eva_v ev_int eva_nil))) B.range_) (evg_nm 3 S.nd) (evb_cons (evs_set 4 S.nd (Ev.x (ev_ty1 c1_tup cr_tup B.tuple_ (by decide +kernel) (Ev.pk (EvN.ev (evn_lc S.nd (evi_range1 (ev_nm 1) B.range_) (blkOk_by (own := [("part", 6)]) (by kernel_rfl)) (fun _ _ _ _ _ => (evg_nm 6 S.nd)) (fun _ _ _ _ _ => evf_nil) (fun _ _ _ _ _ => (ev_call h_law_some fnM_len (eva_bag 0 (eva_v (ev_lst (evl_cons ev_int (evl_cons ev_int (evl_cons (ev_neg (Ev.pk ev_int)) (evl_cons ev_int evl_nil))))) eva_nil))))))))))
    (evb_one (evs_for (evi_range1 (ev_add (Ev.pk ev_int) (Ev.pk (ev_call h_law_take fnM_len (eva_bag 0 (eva_v ev_int eva_nil))))) B.range_) (evg_nm 5 S.nd) (evb_one (evs_append 2 (ev_ty1 c1_tup cr_tup B.tuple_ (by decide +kernel) (Ev.pk (EvN.ev (evn_lc S.nd (evi_zip (ev_at (ev_pk 2) (Ev.pk (ev_neg (Ev.pk ev_int)))) (ev_nm 4) B.zip_) (blkOk_by (own := [("mine", 7), ("its", 8)]) (by kernel_rfl)) (fun _ _ _ _ _ => (evg_tup (n := 2) (evgs_cons (evg_nm 7 S.nd) (evgs_cons (evg_nm 8 S.nd) evgs_nil)))) (fun _ _ _ _ _ => evf_nil) (fun _ _ _ _ _ => (ev_add (ev_pk 7) (ev_pk 8)))))))))))))
    (evb_one (evs_ret (ev_ty1 c1_tup cr_tup B.tuple_ (by decide +kernel) (ev_pk 2))))))⟩)
  rw [hlv] at h
  exact h
/-! law_is_pieces -/
def N_law_is_pieces : List Str := ["thing", "row", "many", "piece", "low", "high", "first", "step", "one", "at", "by"]
theorem sc_law_is_pieces : FnScope N_law_is_pieces ["thing"] (defScope s_law_is_pieces) := ⟨rfl, rfl, rfl, by decide +kernel, rfl, by decide +kernel, by decide +kernel⟩
theorem has_law_is_pieces (G : Gx) (hlv : G.lv = 2) (B : Bi G.mg) (C : Cs G.mg) (h_law_is_int : HasM G 1 "_law_is_int" ["thing"] m_law_is_int) (h_law_alike : HasM G 1 "_law_alike" ["found", "due"] m_law_alike) (h_law_pieces : HasM G 2 "_law_pieces" ["row"] m_law_pieces) (F : ∃ f fd, _root_.G.At G.K G.mg "_law_is_pieces" s_law_is_pieces f fd) : HasM G 3 "_law_is_pieces" ["thing"] m_law_is_pieces := by
  have S := sc_law_is_pieces
  have h := has_def (G := G) (nl := 10) F S rfl (fun _ _ _ _ _ _ us hl => match us, hl with | [_], _ => rfl) (fun f cdv A outer s H E => ⟨_,
    (evb_cons (evs_if (EvW.t (evw_or (evt_not (evt_tru (Ev.pk (ev_is (f := isT) (Tn := "tuple") rfl B.isinstance_ B.tuple_ (by decide +kernel) (ev_pk 0))))) (evw_or1 (evt_cmp ops_eq opr_eq (ev_pk 0) (Ev.pk (ev_tup evl_nil)))))) (evb_one (evs_ret ev_bl)) evb_nil)
    (evb_cons (evs_asg (ev_tup (evl_cons (ev_tup evl_nil) (evl_cons ev_non evl_nil))) (evg_tup (n := 2) (evgs_cons (evg_nm 1 S.nd) (evgs_cons (evg_nm 2 S.nd) evgs_nil))))
    (evb_cons (evs_for (evi_seq (ev_nm 0)) (evg_nm 3 S.nd) (evb_cons (evs_if (EvW.t (evw_or (evt_not (evt_tru (Ev.pk (ev_is (f := isT) (Tn := "tuple") rfl B.isinstance_ B.tuple_ (by decide +kernel) (ev_pk 3))))) (evw_or (evt_cmp ops_ne opr_ne (Ev.pk (ev_b1 c1_len cr_len B.len_ (by decide +kernel) (ev_pk 3))) (Ev.pk ev_int)) (evw_or (evt_not (evt_tru (Ev.pk (ev_call h_law_is_int fnM_len (eva_v (ev_at (ev_pk 3) (Ev.pk ev_int)) eva_nil))))) (evw_or1 (evt_not (evt_tru (Ev.pk (ev_call h_law_is_int fnM_len (eva_v (ev_at (ev_pk 3) (Ev.pk ev_int)) eva_nil)))))))))) (evb_one (evs_ret ev_bl)) evb_nil)
    (evb_cons (evs_asg (ev_nm 3) (evg_tup (n := 4) (evgs_cons (evg_nm 4 S.nd) (evgs_cons (evg_nm 5 S.nd) (evgs_cons (evg_nm 6 S.nd) (evgs_cons (evg_nm 7 S.nd) evgs_nil))))))
    (evb_cons (evs_if (EvW.t (evw_or (evt_cmp ops_ne opr_ne (ev_pk 4) (Ev.pk (ev_b1 c1_len cr_len B.len_ (by decide +kernel) (ev_pk 1)))) (evw_or (evt_not (evt_chain ops_le ops_lt opr_le opr_lt (ev_pk 4) (ev_pk 5) (Ev.pk (ev_add (ev_pk 4) (Ev.pk ev_int))))) (evw_or (evt_not (evt_tru (Ev.pk (ev_is (f := isT) (Tn := "tuple") rfl B.isinstance_ B.tuple_ (by decide +kernel) (ev_pk 6))))) (evw_or1 (evt_not (evt_tru (Ev.pk (ev_is (f := isT) (Tn := "tuple") rfl B.isinstance_ B.tuple_ (by decide +kernel) (ev_pk 7)))))))))) (evb_one (evs_ret ev_bl)) evb_nil)
    (evb_cons (evs_if (EvW.t (evw_or (evt_cmp ops_eq opr_eq (ev_pk 6) (Ev.pk (ev_tup evl_nil))) (evw_or (evt_cmp ops_ne opr_ne (Ev.pk (EvN.ev (evn_lc S.nd (evi_seq (ev_add (ev_pk 6) (ev_pk 7))) (blkOk_by (own := [("one", 8)]) (by kernel_rfl)) (fun _ _ _ _ _ => (evg_nm 8 S.nd)) (fun _ _ _ _ _ => (evf_one (evt_not (evt_tru (Ev.pk (ev_call h_law_is_int fnM_len (eva_v (ev_nm 8) eva_nil))))))) (fun _ _ _ _ _ => ev_int)))) (Ev.pk (ev_lst evl_nil))) (evw_or1 (evt_cmp (ops_in true) opr_notIn (ev_pk 2) (Ev.pk (ev_tup (evl_cons ev_non (evl_cons (ev_b1 c1_len cr_len B.len_ (by decide +kernel) (ev_pk 6)) evl_nil))))))))) (evb_one (evs_ret ev_bl)) evb_nil)
    (evb_cons (evs_set 2 S.nd (Ev.x (ev_b1 c1_len cr_len B.len_ (by decide +kernel) (ev_pk 6))))
    (evb_cons (evs_if (evt_cmp ops_ne opr_ne (Ev.pk (ev_b1 c1_len cr_len B.len_ (by decide +kernel) (ev_pk 7))) (Ev.pk (ev_if (evt_cmp ops_gt opr_gt (ev_pk 5) (ev_pk 4)) (ev_nm 2) ev_int))) (evb_one (evs_ret ev_bl)) evb_nil)
    (evb_one (evs_set 1 S.nd (Ev.x (ev_add (ev_pk 1) (Ev.pk (ev_ty1 c1_tup cr_tup B.tuple_ (by decide +kernel) (Ev.pk (EvN.ev (evn_lc S.nd (evi_range1 (ev_add (Ev.pk (ev_sub (ev_pk 5) (ev_pk 4))) (Ev.pk ev_int)) B.range_) (blkOk_by (own := [("at", 9)]) (by kernel_rfl)) (fun _ _ _ _ _ => (evg_nm 9 S.nd)) (fun _ _ _ _ _ => evf_nil) (fun _ _ _ _ _ => (ev_if (evt_cmp ops_gt opr_gt (ev_pk 5) (ev_pk 4)) (ev_ty1 c1_tup cr_tup B.tuple_ (by decide +kernel) (Ev.pk (EvN.ev (evn_lc S.nd (evi_zip (ev_nm 6) (ev_nm 7) B.zip_) (blkOk_by (own := [("one", 8), ("by", 10)]) (by kernel_rfl)) (fun _ _ _ _ _ => (evg_tup (n := 2) (evgs_cons (evg_nm 8 S.nd) (evgs_cons (evg_nm 10 S.nd) evgs_nil)))) (fun _ _ _ _ _ => evf_nil) (fun _ _ _ _ _ => (ev_add (ev_pk 8) (Ev.pk (ev_mul (ev_pk 9) (ev_pk 10))))))))) (ev_nm 6)))))))))))))))))))
    (evb_one (evs_ret (ev_call h_law_alike fnM_len (eva_v (ev_call h_law_pieces fnM_len (eva_v (ev_nm 1) eva_nil)) (eva_v (ev_nm 0) eva_nil))))))))⟩)
  rw [hlv] at h
  exact h
/-! borne_one -/
def N_borne_one : List Str := ["book", "state", "loss"]
theorem sc_borne_one : FnScope N_borne_one ["book", "state", "loss"] (defScope s_borne_one) := ⟨rfl, rfl, rfl, by decide +kernel, rfl, by decide +kernel, by decide +kernel⟩
theorem has_borne_one (G : Gx) (hlv : G.lv = 3) (B : Bi G.mg) (C : Cs G.mg) (h_all_of : HasM G 3 "all_of" ["book", "state", "loss"] m_all_of) (F : ∃ f fd, _root_.G.At G.K G.mg "borne_one" s_borne_one f fd) : HasM G 4 "borne_one" ["book", "state", "loss"] m_borne_one := by
  have S := sc_borne_one
  have h := has_def (G := G) (nl := 0) F S rfl (fun _ _ _ _ _ _ us hl => match us, hl with | [_, _, _], _ => rfl) (fun f cdv A outer s H E => ⟨_,
    (evb_one (evs_ret (ev_slice (Ev.pk (ev_call h_all_of fnM_len (eva_v (ev_nm 0) (eva_v (ev_nm 1) (eva_v (ev_nm 2) eva_nil))))) evo_none (evo_some ev_int))))⟩)
  rw [hlv] at h
  exact h
/-! is_piece -/
def N_is_piece : List Str := ["thing", "many"]
theorem sc_is_piece : FnScope N_is_piece ["thing", "many"] (defScope s_is_piece) := ⟨rfl, rfl, rfl, by decide +kernel, rfl, by decide +kernel, by decide +kernel⟩
theorem has_is_piece (G : Gx) (hlv : G.lv = 3) (B : Bi G.mg) (C : Cs G.mg) (h_is_within : HasM G 2 "is_within" ["thing", "least", "most"] m_is_within) (h_is_tuple_of : HasM G 1 "is_tuple_of" ["thing", "many"] m_is_tuple_of) (h_are_integers : HasM G 3 "are_integers" ["thing"] m_are_integers) (F : ∃ f fd, _root_.G.At G.K G.mg "is_piece" s_is_piece f fd) : HasM G 4 "is_piece" ["thing", "many"] m_is_piece := by
  have S := sc_is_piece
  have h := has_def (G := G) (nl := 0) F S rfl (fun _ _ _ _ _ _ us hl => match us, hl with | [_, _], _ => rfl) (fun f cdv A outer s H E => ⟨_,
    (evb_cons (evs_if (EvW.t (evw_or (evt_not (evt_tru (Ev.pk (ev_call h_is_tuple_of fnM_len (eva_v (ev_nm 0) (eva_v (ev_gintE C.FOUR) eva_nil)))))) (evw_or1 (evt_not (evt_tru (Ev.pk (ev_call h_is_within fnM_len (eva_v (ev_at (ev_pk 0) (Ev.pk (ev_gintE C.LOW))) (eva_v ev_int (eva_v (ev_gintE C.MOST_INDEX) eva_nil)))))))))) (evb_one (evs_ret ev_bl)) evb_nil)
    (evb_cons (evs_if (EvW.t (evw_or (evt_not (evt_tru (Ev.pk (ev_call h_is_within fnM_len (eva_v (ev_at (ev_pk 0) (Ev.pk (ev_gintE C.HIGH))) (eva_v (ev_at (ev_pk 0) (Ev.pk (ev_gintE C.LOW))) (eva_v (ev_gintE C.MOST_INDEX) eva_nil))))))) (evw_or1 (evt_not (evt_tru (Ev.pk (ev_call h_are_integers fnM_len (eva_v (ev_at (ev_pk 0) (Ev.pk (ev_gintE C.FIRST))) eva_nil)))))))) (evb_one (evs_ret ev_bl)) evb_nil)
    (evb_cons (evs_if (EvW.t (evw_or (evt_not (evt_tru (Ev.pk (ev_call h_is_tuple_of fnM_len (eva_v (ev_at (ev_pk 0) (Ev.pk (ev_gintE C.FIRST))) (eva_v (ev_nm 1) eva_nil)))))) (evw_or1 (evt_not (evt_tru (Ev.pk (ev_call h_are_integers fnM_len (eva_v (ev_at (ev_pk 0) (Ev.pk (ev_gintE C.STEP))) eva_nil)))))))) (evb_one (evs_ret ev_bl)) evb_nil)
    (evb_one (evs_ret (ev_call h_is_tuple_of fnM_len (eva_v (ev_at (ev_pk 0) (Ev.pk (ev_gintE C.STEP))) (eva_v (ev_if (evt_cmp ops_eq opr_eq (Ev.pk (ev_at (ev_pk 0) (Ev.pk (ev_gintE C.LOW)))) (Ev.pk (ev_at (ev_pk 0) (Ev.pk (ev_gintE C.HIGH))))) ev_int (ev_nm 1)) eva_nil))))))))⟩)
  rw [hlv] at h
  exact h
/-! cut -/
def N_cut : List Str := ["pieces", "low", "high"]
theorem sc_cut : FnScope N_cut ["pieces", "low", "high"] (defScope s_cut) := ⟨rfl, rfl, rfl, by decide +kernel, rfl, by decide +kernel, by decide +kernel⟩
theorem has_cut (G : Gx) (hlv : G.lv = 3) (B : Bi G.mg) (C : Cs G.mg) (h_pieces_of : HasM G 3 "pieces_of" ["row"] m_pieces_of) (h_row_of : HasM G 3 "row_of" ["pieces"] m_row_of) (F : ∃ f fd, _root_.G.At G.K G.mg "cut" s_cut f fd) : HasM G 4 "cut" ["pieces", "low", "high"] m_cut := by
  have S := sc_cut
  have h := has_def (G := G) (nl := 0) F S rfl (fun _ _ _ _ _ _ us hl => match us, hl with | [_, _, _], _ => rfl) (fun f cdv A outer s H E => ⟨_,
    (evb_one (evs_ret (ev_call h_pieces_of fnM_len (eva_v (ev_slice (Ev.pk (ev_call h_row_of fnM_len (eva_v (ev_nm 0) eva_nil))) (evo_some (ev_nm 1)) (evo_some (ev_add (ev_pk 2) (Ev.pk ev_int)))) eva_nil))))⟩)
  rw [hlv] at h
  exact h
/-! joined -/
def N_joined : List Str := ["one", "other"]
theorem sc_joined : FnScope N_joined ["one", "other"] (defScope s_joined) := ⟨rfl, rfl, rfl, by decide +kernel, rfl, by decide +kernel, by decide +kernel⟩
theorem has_joined (G : Gx) (hlv : G.lv = 3) (B : Bi G.mg) (C : Cs G.mg) (h_pieces_of : HasM G 3 "pieces_of" ["row"] m_pieces_of) (h_row_of : HasM G 3 "row_of" ["pieces"] m_row_of) (F : ∃ f fd, _root_.G.At G.K G.mg "joined" s_joined f fd) : HasM G 4 "joined" ["one", "other"] m_joined := by
  have S := sc_joined
  have h := has_def (G := G) (nl := 0) F S rfl (fun _ _ _ _ _ _ us hl => match us, hl with | [_, _], _ => rfl) (fun f cdv A outer s H E => ⟨_,
    (evb_one (evs_ret (ev_call h_pieces_of fnM_len (eva_v (ev_tup (evl_star (Ev.pk (ev_call h_row_of fnM_len (eva_v (ev_nm 0) eva_nil))) (evl_star (Ev.pk (ev_call h_row_of fnM_len (eva_v (ev_nm 1) eva_nil))) evl_nil))) eva_nil))))⟩)
  rw [hlv] at h
  exact h
/-! added -/
def N_added : List Str := ["one", "other", "some", "mine", "its"]
theorem sc_added : FnScope N_added ["one", "other"] (defScope s_added) := ⟨rfl, rfl, rfl, by decide +kernel, rfl, by decide +kernel, by decide +kernel⟩
theorem has_added (G : Gx) (hlv : G.lv = 3) (B : Bi G.mg) (C : Cs G.mg) (h_row_of : HasM G 3 "row_of" ["pieces"] m_row_of) (h_with_steps : HasM G 1 "with_steps" ["first", "step", "many"] m_with_steps) (h_pieces_of : HasM G 3 "pieces_of" ["row"] m_pieces_of) (F : ∃ f fd, _root_.G.At G.K G.mg "added" s_added f fd) : HasM G 4 "added" ["one", "other"] m_added := by
  have S := sc_added
  have h := has_def (G := G) (nl := 3) F S rfl (fun _ _ _ _ _ _ us hl => match us, hl with | [_, _], _ => rfl) (fun f cdv A outer s H E => ⟨_,
    (evb_cons (evs_setLc 2 S.nd (evi_zip (ev_call h_row_of fnM_len (eva_v (ev_nm 0) eva_nil)) (ev_call h_row_of fnM_len (eva_v (ev_nm 1) eva_nil)) B.zip_) (blkOk_by (own := [("mine", 3), ("its", 4)]) (by kernel_rfl)) (fun _ _ _ _ _ => (evg_tup (n := 2) (evgs_cons (evg_nm 3 S.nd) (evgs_cons (evg_nm 4 S.nd) evgs_nil)))) (fun _ _ _ _ _ => evf_nil) (fun _ _ _ _ _ => (ev_call h_with_steps fnM_len (eva_v (ev_nm 3) (eva_v (ev_nm 4) (eva_v ev_int eva_nil))))))
    (evb_one (evs_ret (ev_call h_pieces_of fnM_len (eva_v (ev_ty1 c1_tup cr_tup B.tuple_ (by decide +kernel) (ev_pk 2)) eva_nil)))))⟩)
  rw [hlv] at h
  exact h
/-! column -/
def N_column : List Str := ["pieces", "at", "member"]
theorem sc_column : FnScope N_column ["pieces", "at"] (defScope s_column) := ⟨rfl, rfl, rfl, by decide +kernel, rfl, by decide +kernel, by decide +kernel⟩
theorem has_column (G : Gx) (hlv : G.lv = 3) (B : Bi G.mg) (C : Cs G.mg) (h_pieces_of : HasM G 3 "pieces_of" ["row"] m_pieces_of) (h_row_of : HasM G 3 "row_of" ["pieces"] m_row_of) (F : ∃ f fd, _root_.G.At G.K G.mg "column" s_column f fd) : HasM G 4 "column" ["pieces", "at"] m_column := by
  have S := sc_column
  have h := has_def (G := G) (nl := 1) F S rfl (fun _ _ _ _ _ _ us hl => match us, hl with | [_, _], _ => rfl) (fun f cdv A outer s H E => ⟨_,
    (evb_one (evs_ret (ev_call h_pieces_of fnM_len (eva_v (ev_ty1 c1_tup cr_tup B.tuple_ (by decide +kernel) (Ev.pk (EvN.ev (evn_lc S.nd (evi_seq (ev_call h_row_of fnM_len (eva_v (ev_nm 0) eva_nil))) (blkOk_by (own := [("member", 2)]) (by kernel_rfl)) (fun _ _ _ _ _ => (evg_nm 2 S.nd)) (fun _ _ _ _ _ => evf_nil) (fun _ _ _ _ _ => (ev_tup (evl_cons (ev_at (ev_pk 2) (ev_pk 1)) evl_nil))))))) eva_nil))))⟩)
  rw [hlv] at h
  exact h
/-! law_treaties -/
def N_law_treaties : List Str := ["bag", "kinds", "many", "found", "sources", "at", "party", "one"]
theorem sc_law_treaties : FnScope N_law_treaties ["bag", "kinds", "many"] (defScope s_law_treaties) := ⟨rfl, rfl, rfl, by decide +kernel, rfl, by decide +kernel, by decide +kernel⟩
theorem has_law_treaties (G : Gx) (hlv : G.lv = 3) (B : Bi G.mg) (C : Cs G.mg) (h_law_some : HasM G 2 "_law_some" ["bag", "things"] m_law_some) (h_law_treaty : HasM G 3 "_law_treaty" ["bag", "name", "party", "sources", "kinds"] m_law_treaty) (F : ∃ f fd, _root_.G.At G.K G.mg "_law_treaties" s_law_treaties f fd) : HasM G 4 "_law_treaties" ["bag", "kinds", "many"] m_law_treaties := by
  have S := sc_law_treaties
  have h := has_def (G := G) (nl := 5) F S rfl (fun _ _ _ _ _ _ us hl => match us, hl with | [_, _, _], _ => rfl) (fun f cdv A outer s H E => ⟨_,
    (evb_cons (evs_par2 3 4 S.nd (EvN.x (evn_lst evl_nil)) (Ev.x (ev_lst (evl_cons ev_str evl_nil))))
    (evb_cons (evs_for (evi_range1 (ev_nm 2) B.range_) (evg_nm 5 S.nd) (evb_cons (evs_set 6 S.nd (Ev.x (ev_call h_law_some fnM_len (eva_bag 0 (eva_v (ev_lst (evl_cons ev_str (evl_cons ev_str (evl_cons ev_str evl_nil)))) eva_nil)))))
    (evb_cons (evs_set 6 S.nd (Ev.x (ev_if (evt_cmp ops_ne opr_ne (Ev.pk (EvN.ev (evn_lc S.nd (evi_seq (ev_nm 4)) (blkOk_by (own := [("one", 7)]) (by kernel_rfl)) (fun _ _ _ _ _ => (evg_nm 7 S.nd)) (fun _ _ _ _ _ => (evf_one (evt_cmp ops_ne opr_ne (ev_pk 7) (ev_pk 6)))) (fun _ _ _ _ _ => ev_int)))) (Ev.pk (ev_lst evl_nil))) (ev_nm 6) ev_str)))
    (evb_cons (evs_append 3 (ev_call h_law_treaty fnM_len (eva_bag 0 (eva_v (ev_at (Ev.pk (ev_lst (evl_cons ev_str (evl_cons ev_str (evl_cons ev_str (evl_cons ev_str evl_nil)))))) (ev_pk 5)) (eva_v (ev_nm 6) (eva_v (ev_nm 4) (eva_v (ev_nm 1) eva_nil)))))))
    (evb_one (evs_set 4 S.nd (Ev.x (ev_add (ev_pk 4) (Ev.pk (ev_mul (Ev.pk (ev_lst (evl_cons (ev_nm 6) evl_nil))) (Ev.pk (ev_ty1 c1_int cr_int B.int_ (by decide +kernel) (Ev.pk (ev_cmp (ops_in true) opr_notIn (ev_pk 6) (ev_pk 4)))))))))))))))
    (evb_one (evs_ret (ev_ty1 c1_tup cr_tup B.tuple_ (by decide +kernel) (ev_pk 3))))))⟩)
  rw [hlv] at h
  exact h
/-! law_turned -/
def N_law_turned : List Str := ["bag", "book", "turn", "treaties", "way", "at", "name", "party", "sort", "source", "first", "second", "limit", "only", "fresh", "parties", "fine", "treaty", "later", "one"]
theorem sc_law_turned : FnScope N_law_turned ["bag", "book"] (defScope s_law_turned) := ⟨rfl, rfl, rfl, by decide +kernel, rfl, by decide +kernel, by decide +kernel⟩
theorem has_law_turned (G : Gx) (hlv : G.lv = 3) (B : Bi G.mg) (C : Cs G.mg) (h_law_take : HasM G 1 "_law_take" ["bag", "many"] m_law_take) (h_law_treaty : HasM G 3 "_law_treaty" ["bag", "name", "party", "sources", "kinds"] m_law_treaty) (h_law_some : HasM G 2 "_law_some" ["bag", "things"] m_law_some) (h_law_met : HasM G 3 "_law_met" ["book", "most"] m_law_met) (F : ∃ f fd, _root_.G.At G.K G.mg "_law_turned" s_law_turned f fd) : HasM G 4 "_law_turned" ["bag", "book"] m_law_turned := by
  have S := sc_law_turned
  have h := has_def (G := G) (nl := 18) F S rfl (fun _ _ _ _ _ _ us hl => match us, hl with | [_, _], _ => rfl) (fun f cdv A outer s H E => ⟨_,
    (evb_cons (evs_for (evi_range1 ev_int B.range_) (evg_nm 2 S.nd) (evb_cons (evs_asgX2 3 4 S.nd (EvN.x (evn_list B.list_ (Ev.pk (ev_at (ev_pk 1) (Ev.pk ev_int))))) (Ev.x (ev_call h_law_take fnM_len (eva_bag 0 (eva_v ev_int eva_nil)))))
    (evb_cons (evs_set 5 S.nd (Ev.x (ev_call h_law_take fnM_len (eva_bag 0 (eva_v (ev_b1 c1_len cr_len B.len_ (by decide +kernel) (ev_pk 3)) eva_nil)))))
    (evb_cons (evs_asg (ev_at (ev_pk 3) (ev_pk 5)) (evg_tup (n := 8) (evgs_cons (evg_nm 6 S.nd) (evgs_cons (evg_nm 7 S.nd) (evgs_cons (evg_nm 8 S.nd) (evgs_cons (evg_nm 9 S.nd) (evgs_cons (evg_nm 10 S.nd) (evgs_cons (evg_nm 11 S.nd) (evgs_cons (evg_nm 12 S.nd) (evgs_cons (evg_nm 13 S.nd) evgs_nil))))))))))
    (evb_cons (evs_if (EvW.t (evw_and (evt_cmp ops_eq opr_eq (ev_pk 4) (Ev.pk ev_int)) (evw_and1 (evt_cmp ops_gt opr_gt (Ev.pk (ev_b1 c1_len cr_len B.len_ (by decide +kernel) (ev_pk 3))) (Ev.pk ev_int))))) (evb_one (evs_popAt 3 (ev_nm 5))) (evb_one (evs_if (EvW.t (evw_and (evt_cmp ops_eq opr_eq (ev_pk 4) (Ev.pk ev_int)) (evw_and1 (evt_cmp ops_lt opr_lt (Ev.pk (ev_b1 c1_len cr_len B.len_ (by decide +kernel) (ev_pk 3))) (Ev.pk ev_int))))) (evb_cons (evs_setLc 14 S.nd (evi_seq (ev_lst (evl_cons ev_str (evl_cons ev_str (evl_cons ev_str (evl_cons ev_str (evl_cons ev_str evl_nil))))))) (blkOk_by (own := [("one", 19)]) (by kernel_rfl)) (fun _ _ _ _ _ => (evg_nm 19 S.nd)) (fun _ _ _ _ _ => (evf_one (evt_cmp (ops_in true) opr_notIn (ev_pk 19) (Ev.pk (EvN.ev (evn_lc S.nd (evi_peek (ev_pk 3)) (blkOk_by (own := [("treaty", 17)]) (by kernel_rfl)) (fun _ _ _ _ _ => (evg_nm 17 S.nd)) (fun _ _ _ _ _ => evf_nil) (fun _ _ _ _ _ => (ev_at (ev_pk 17) (Ev.pk ev_int))))))))) (fun _ _ _ _ _ => (ev_nm 19)))
    (evb_one (evs_append 3 (ev_call h_law_treaty fnM_len (eva_bag 0 (eva_v (ev_at (ev_pk 14) (Ev.pk ev_int)) (eva_v (ev_call h_law_some fnM_len (eva_bag 0 (eva_v (ev_lst (evl_cons ev_str (evl_cons ev_str evl_nil))) eva_nil))) (eva_v (ev_lst (evl_cons ev_str evl_nil)) (eva_v (ev_at (ev_pk 1) (Ev.pk ev_int)) eva_nil))))))))) (evb_one (evs_if (EvW.t (evw_and (evt_cmp ops_eq opr_eq (ev_pk 4) (Ev.pk ev_int)) (evw_and1 (evt_cmp ops_ne opr_ne (ev_pk 8) (Ev.pk ev_str))))) (evb_one (evs_lput 3 (ev_nm 5) (ev_tup (evl_cons (ev_nm 6) (evl_cons (ev_nm 7) (evl_cons (ev_nm 8) (evl_cons (ev_nm 9) (evl_cons (ev_nm 10) (evl_cons (ev_nm 11) (evl_cons (ev_if (evt_cmp ops_notN opr_notN (ev_pk 12) (Ev.pk ev_non)) ev_non ev_int) (evl_cons (ev_nm 13) evl_nil))))))))))) (evb_one (evs_if (EvW.t (evw_and (evt_cmp ops_eq opr_eq (ev_pk 4) (Ev.pk ev_int)) (evw_and1 (evt_cmp ops_eq opr_eq (ev_pk 8) (Ev.pk ev_str))))) (evb_one (evs_lput 3 (ev_nm 5) (ev_tup (evl_cons (ev_nm 6) (evl_cons (ev_nm 7) (evl_cons (ev_nm 8) (evl_cons (ev_nm 9) (evl_cons (ev_add (Ev.pk ev_int) (Ev.pk (ev_call h_law_take fnM_len (eva_bag 0 (eva_v ev_int eva_nil))))) (evl_cons (ev_nm 11) (evl_cons (ev_nm 12) (evl_cons (ev_nm 13) evl_nil))))))))))) (evb_one (evs_if (EvW.t (evw_and (evt_cmp ops_eq opr_eq (ev_pk 8) (Ev.pk ev_str)) (evw_and (evt_cmp ops_notN opr_notN (ev_pk 12) (Ev.pk ev_non)) (evw_and (evt_cmp ops_eq opr_eq (ev_pk 11) (Ev.pk ev_int)) (evw_and1 (evt_cmp ops_ge opr_ge (ev_pk 10) (ev_pk 12))))))) (evb_one (evs_lput 3 (ev_nm 5) (ev_tup (evl_cons (ev_nm 6) (evl_cons (ev_nm 7) (evl_cons ev_str (evl_cons (ev_nm 9) (evl_cons (ev_nm 12) (evl_cons ev_int (evl_cons ev_non (evl_cons (ev_nm 13) evl_nil))))))))))) evb_nil)))))))))
    (evb_cons (evs_par2 15 16 S.nd (EvN.x (evn_lst evl_nil)) (Ev.x ev_bl))
    (evb_cons (EvS.fz 3 (evs_for (evi_seq (ev_nm 3)) (evg_nm 17 S.nd) (evb_cons (evs_set 16 S.nd (Ev.x (ev_and (ev_nm 16) (ev_and (ev_or (ev_cmp ops_eq opr_eq (Ev.pk (ev_at (ev_pk 17) (Ev.pk ev_int))) (Ev.pk ev_str)) (ev_one (ev_cmp (ops_in false) opr_in (Ev.pk (ev_at (ev_pk 17) (Ev.pk ev_int))) (ev_pk 15)))) (ev_one (ev_cmp ops_ne opr_ne (Ev.pk (ev_at (ev_pk 17) (Ev.pk ev_int))) (Ev.pk (ev_at (ev_pk 17) (Ev.pk ev_int)))))))))
    (evb_one (evs_append 15 (ev_at (ev_pk 17) (Ev.pk ev_int)))))))
    (evb_cons (evs_set 18 S.nd (Ev.x (ev_tup (evl_cons (ev_at (ev_pk 1) (Ev.pk ev_int)) (evl_cons (ev_at (ev_pk 1) (Ev.pk ev_int)) (evl_cons (ev_at (ev_pk 1) (Ev.pk ev_int)) (evl_cons (ev_ty1 c1_tup cr_tup B.tuple_ (by decide +kernel) (ev_pk 3)) evl_nil)))))))
    (evb_one (evs_if (EvW.t (evw_and (evt_tru (ev_pk 16)) (evw_and1 (evt_cmp ops_notN opr_notN (Ev.pk (ev_call h_law_met fnM_len (eva_v (ev_nm 18) (eva_v ev_int eva_nil)))) (Ev.pk ev_non))))) (evb_one (evs_ret (ev_nm 18))) evb_nil))))))))))
    (evb_one (evs_ret (ev_nm 1))))⟩)
  rw [hlv] at h
  exact h
/-! paid -/
def N_paid : List Str := ["book", "state", "loss"]
theorem sc_paid : FnScope N_paid ["book", "state", "loss"] (defScope s_paid) := ⟨rfl, rfl, rfl, by decide +kernel, rfl, by decide +kernel, by decide +kernel⟩
theorem has_paid (G : Gx) (hlv : G.lv = 4) (B : Bi G.mg) (C : Cs G.mg) (h_borne_one : HasM G 4 "borne_one" ["book", "state", "loss"] m_borne_one) (F : ∃ f fd, _root_.G.At G.K G.mg "paid" s_paid f fd) : HasM G 5 "paid" ["book", "state", "loss"] m_paid := by
  have S := sc_paid
  have h := has_def (G := G) (nl := 0) F S rfl (fun _ _ _ _ _ _ us hl => match us, hl with | [_, _, _], _ => rfl) (fun f cdv A outer s H E => ⟨_,
    (evb_one (evs_ret (ev_at (Ev.pk (ev_call h_borne_one fnM_len (eva_v (ev_nm 0) (eva_v (ev_nm 1) (eva_v (ev_nm 2) eva_nil))))) (Ev.pk ev_int))))⟩)
  rw [hlv] at h
  exact h
/-! behind -/
def N_behind : List Str := ["book", "state", "loss"]
theorem sc_behind : FnScope N_behind ["book", "state", "loss"] (defScope s_behind) := ⟨rfl, rfl, rfl, by decide +kernel, rfl, by decide +kernel, by decide +kernel⟩
theorem has_behind (G : Gx) (hlv : G.lv = 4) (B : Bi G.mg) (C : Cs G.mg) (h_borne_one : HasM G 4 "borne_one" ["book", "state", "loss"] m_borne_one) (F : ∃ f fd, _root_.G.At G.K G.mg "behind" s_behind f fd) : HasM G 5 "behind" ["book", "state", "loss"] m_behind := by
  have S := sc_behind
  have h := has_def (G := G) (nl := 0) F S rfl (fun _ _ _ _ _ _ us hl => match us, hl with | [_, _, _], _ => rfl) (fun f cdv A outer s H E => ⟨_,
    (evb_one (evs_ret (ev_at (Ev.pk (ev_call h_borne_one fnM_len (eva_v (ev_nm 0) (eva_v (ev_nm 1) (eva_v (ev_nm 2) eva_nil))))) (Ev.pk ev_int))))⟩)
  rw [hlv] at h
  exact h
/-! are_pieces -/
def N_are_pieces : List Str := ["thing", "lows", "one", "piece", "low"]
theorem sc_are_pieces : FnScope N_are_pieces ["thing"] (defScope s_are_pieces) := ⟨rfl, rfl, rfl, by decide +kernel, rfl, by decide +kernel, by decide +kernel⟩
theorem has_are_pieces (G : Gx) (hlv : G.lv = 4) (B : Bi G.mg) (C : Cs G.mg) (h_is_tuple_of : HasM G 1 "is_tuple_of" ["thing", "many"] m_is_tuple_of) (h_is_piece : HasM G 4 "is_piece" ["thing", "many"] m_is_piece) (h_are_same : HasM G 2 "are_same" ["one", "other"] m_are_same) (h_pieces_of : HasM G 3 "pieces_of" ["row"] m_pieces_of) (h_row_of : HasM G 3 "row_of" ["pieces"] m_row_of) (F : ∃ f fd, _root_.G.At G.K G.mg "are_pieces" s_are_pieces f fd) : HasM G 5 "are_pieces" ["thing"] m_are_pieces := by
  have S := sc_are_pieces
  have h := has_def (G := G) (nl := 4) F S rfl (fun _ _ _ _ _ _ us hl => match us, hl with | [_], _ => rfl) (fun f cdv A outer s H E => ⟨_,
    (evb_cons (evs_if (EvW.t (evw_or (evt_not (evt_tru (Ev.pk (ev_is (f := isT) (Tn := "tuple") rfl B.isinstance_ B.tuple_ (by decide +kernel) (ev_pk 0))))) (evw_or (evt_cmp ops_eq opr_eq (ev_pk 0) (Ev.pk (ev_tup evl_nil))) (evw_or1 (evt_not (evt_tru (Ev.pk (ev_call h_is_tuple_of fnM_len (eva_v (ev_at (ev_pk 0) (Ev.pk ev_int)) (eva_v (ev_gintE C.FOUR) eva_nil)))))))))) (evb_one (evs_ret ev_bl)) evb_nil)
    (evb_cons (evs_if (EvW.t (evw_or (evt_not (evt_tru (Ev.pk (ev_is (f := isT) (Tn := "tuple") rfl B.isinstance_ B.tuple_ (by decide +kernel) (Ev.pk (ev_at (Ev.pk (ev_at (ev_pk 0) (Ev.pk ev_int))) (Ev.pk (ev_gintE C.FIRST)))))))) (evw_or1 (evt_cmp ops_eq opr_eq (Ev.pk (ev_at (Ev.pk (ev_at (ev_pk 0) (Ev.pk ev_int))) (Ev.pk (ev_gintE C.FIRST)))) (Ev.pk (ev_tup evl_nil)))))) (evb_one (evs_ret ev_bl)) evb_nil)
    (evb_cons (evs_if (evt_not (evt_tru (Ev.pk (ev_b1 c1_all cr_allL B.all_ (by decide +kernel) (Ev.pk (EvN.ev (evn_lc S.nd (evi_seq (ev_nm 0)) (blkOk_by (own := [("one", 2)]) (by kernel_rfl)) (fun _ _ _ _ _ => (evg_nm 2 S.nd)) (fun _ _ _ _ _ => evf_nil) (fun _ _ _ _ _ => (ev_call h_is_piece fnM_len (eva_v (ev_nm 2) (eva_v (ev_b1 c1_len cr_len B.len_ (by decide +kernel) (Ev.pk (ev_at (Ev.pk (ev_at (ev_pk 0) (Ev.pk ev_int))) (Ev.pk (ev_gintE C.FIRST))))) eva_nil))))))))))) (evb_one (evs_ret ev_bl)) evb_nil)
    (evb_cons (evs_set 1 S.nd (Ev.x (ev_lst (evl_cons ev_int (evl_star (Ev.pk (EvN.ev (evn_lc S.nd (evi_seq (ev_nm 0)) (blkOk_by (own := [("piece", 3)]) (by kernel_rfl)) (fun _ _ _ _ _ => (evg_nm 3 S.nd)) (fun _ _ _ _ _ => evf_nil) (fun _ _ _ _ _ => (ev_add (Ev.pk (ev_at (ev_pk 3) (Ev.pk (ev_gintE C.HIGH)))) (Ev.pk ev_int)))))) evl_nil)))))
    (evb_cons (evs_if (evt_not (evt_tru (Ev.pk (ev_b1 c1_all cr_allL B.all_ (by decide +kernel) (Ev.pk (EvN.ev (evn_lc S.nd (evi_zip (ev_nm 0) (ev_nm 1) B.zip_) (blkOk_by (own := [("piece", 3), ("low", 4)]) (by kernel_rfl)) (fun _ _ _ _ _ => (evg_tup (n := 2) (evgs_cons (evg_nm 3 S.nd) (evgs_cons (evg_nm 4 S.nd) evgs_nil)))) (fun _ _ _ _ _ => evf_nil) (fun _ _ _ _ _ => (ev_cmp ops_eq opr_eq (Ev.pk (ev_at (ev_pk 3) (Ev.pk (ev_gintE C.LOW)))) (ev_pk 4)))))))))) (evb_one (evs_ret ev_bl)) evb_nil)
    (evb_one (evs_ret (ev_call h_are_same fnM_len (eva_v (ev_nm 0) (eva_v (ev_call h_pieces_of fnM_len (eva_v (ev_call h_row_of fnM_len (eva_v (ev_nm 0) eva_nil)) eva_nil)) eva_nil))))))))))⟩)
  rw [hlv] at h
  exact h
/-! borne_by -/
def N_borne_by : List Str := ["book", "pieces", "party"]
theorem sc_borne_by : FnScope N_borne_by ["book", "pieces", "party"] (defScope s_borne_by) := ⟨rfl, rfl, rfl, by decide +kernel, rfl, by decide +kernel, by decide +kernel⟩
theorem has_borne_by (G : Gx) (hlv : G.lv = 4) (B : Bi G.mg) (C : Cs G.mg) (h_column : HasM G 4 "column" ["pieces", "at"] m_column) (hF_bearers : HasR G tfR 1 "bearers" ["book"] m_bearers) (F : ∃ f fd, _root_.G.At G.K G.mg "borne_by" s_borne_by f fd) : HasM G 5 "borne_by" ["book", "pieces", "party"] m_borne_by := by
  have S := sc_borne_by
  have h := has_def (G := G) (nl := 0) F S rfl (fun _ _ _ _ _ _ us hl => match us, hl with | [_, _, _], _ => rfl) (fun f cdv A outer s H E => ⟨_,
    (evb_one (evs_ret (ev_call h_column fnM_len (eva_v (ev_nm 1) (eva_v (ev_indexT (ev_callR hF_bearers fnM_len (eva_v (ev_nm 0) eva_nil)) (ev_pk 2)) eva_nil)))))⟩)
  rw [hlv] at h
  exact h
/-! law_book -/
def N_law_book : List Str := ["bag", "kinds", "most", "turn", "book"]
theorem sc_law_book : FnScope N_law_book ["bag"] (defScope s_law_book) := ⟨rfl, rfl, rfl, by decide +kernel, rfl, by decide +kernel, by decide +kernel⟩
theorem has_law_book (G : Gx) (hlv : G.lv = 4) (B : Bi G.mg) (C : Cs G.mg) (h_law_take : HasM G 1 "_law_take" ["bag", "many"] m_law_take) (h_law_treaties : HasM G 4 "_law_treaties" ["bag", "kinds", "many"] m_law_treaties) (h_law_met : HasM G 3 "_law_met" ["book", "most"] m_law_met) (F : ∃ f fd, _root_.G.At G.K G.mg "_law_book" s_law_book f fd) : HasM G 5 "_law_book" ["bag"] m_law_book := by
  have S := sc_law_book
  have h := has_def (G := G) (nl := 4) F S rfl (fun _ _ _ _ _ _ us hl => match us, hl with | [_], _ => rfl) (fun f cdv A outer s H E => ⟨_,
    (evb_cons (evs_set 1 S.nd (Ev.x (ev_slice (Ev.pk (ev_tup (evl_cons ev_str (evl_cons ev_str evl_nil)))) evo_none (evo_some (ev_add (Ev.pk ev_int) (Ev.pk (ev_call h_law_take fnM_len (eva_bag 0 (eva_v ev_int eva_nil)))))))))
    (evb_cons (evs_set 2 S.nd (Ev.x (ev_add (Ev.pk ev_int) (Ev.pk (ev_call h_law_take fnM_len (eva_bag 0 (eva_v ev_int eva_nil)))))))
    (evb_cons (evs_for (evi_range1 ev_int B.range_) (evg_nm 3 S.nd) (evb_cons (evs_set 4 S.nd (Ev.x (ev_tup (evl_cons ev_str (evl_cons (ev_nm 1) (evl_cons (ev_nm 2) (evl_cons (ev_call h_law_treaties fnM_len (eva_bag 0 (eva_v (ev_nm 1) (eva_v (ev_add (Ev.pk ev_int) (Ev.pk (ev_call h_law_take fnM_len (eva_bag 0 (eva_v ev_int eva_nil))))) eva_nil)))) evl_nil)))))))
    (evb_one (evs_if (evt_cmp ops_notN opr_notN (Ev.pk (ev_call h_law_met fnM_len (eva_v (ev_nm 4) (eva_v ev_int eva_nil)))) (Ev.pk ev_non)) (evb_one (evs_ret (ev_nm 4))) evb_nil))))
    (evb_one (evs_ret (ev_tup (evl_cons ev_str (evl_cons (ev_nm 1) (evl_cons (ev_nm 2) (evl_cons (ev_tup (evl_cons (ev_tup (evl_cons ev_str (evl_cons ev_str (evl_cons ev_str (evl_cons ev_str (evl_cons ev_int (evl_cons ev_int (evl_cons ev_int (evl_cons (ev_nm 1) evl_nil))))))))) evl_nil)) evl_nil))))))))))⟩)
  rw [hlv] at h
  exact h
/-! paid_pieces -/
def N_paid_pieces : List Str := ["book", "state", "kind", "size"]
theorem sc_paid_pieces : FnScope N_paid_pieces ["book", "state", "kind"] (defScope s_paid_pieces) := ⟨rfl, rfl, rfl, by decide +kernel, rfl, by decide +kernel, by decide +kernel⟩
theorem has_paid_pieces (G : Gx) (hlv : G.lv = 5) (B : Bi G.mg) (C : Cs G.mg) (h_pieces_of : HasM G 3 "pieces_of" ["row"] m_pieces_of) (h_paid : HasM G 5 "paid" ["book", "state", "loss"] m_paid) (F : ∃ f fd, _root_.G.At G.K G.mg "paid_pieces" s_paid_pieces f fd) : HasM G 6 "paid_pieces" ["book", "state", "kind"] m_paid_pieces := by
  have S := sc_paid_pieces
  have h := has_def (G := G) (nl := 1) F S rfl (fun _ _ _ _ _ _ us hl => match us, hl with | [_, _, _], _ => rfl) (fun f cdv A outer s H E => ⟨_,
    (evb_one (evs_ret (ev_call h_pieces_of fnM_len (eva_v (ev_ty1 c1_tup cr_tup B.tuple_ (by decide +kernel) (Ev.pk (EvN.ev (evn_lc S.nd (evi_range1 (ev_add (Ev.pk (ev_at (ev_pk 0) (Ev.pk (ev_gintE C.MOST)))) (Ev.pk ev_int)) B.range_) (blkOk_by (own := [("size", 3)]) (by kernel_rfl)) (fun _ _ _ _ _ => (evg_nm 3 S.nd)) (fun _ _ _ _ _ => evf_nil) (fun _ _ _ _ _ => (ev_call h_paid fnM_len (eva_v (ev_nm 0) (eva_v (ev_nm 1) (eva_v (ev_tup (evl_cons (ev_nm 2) (evl_cons (ev_nm 3) evl_nil))) eva_nil))))))))) eva_nil))))⟩)
  rw [hlv] at h
  exact h
/-! used_pieces -/
def N_used_pieces : List Str := ["book", "state", "kind", "size"]
theorem sc_used_pieces : FnScope N_used_pieces ["book", "state", "kind"] (defScope s_used_pieces) := ⟨rfl, rfl, rfl, by decide +kernel, rfl, by decide +kernel, by decide +kernel⟩
theorem has_used_pieces (G : Gx) (hlv : G.lv = 5) (B : Bi G.mg) (C : Cs G.mg) (h_pieces_of : HasM G 3 "pieces_of" ["row"] m_pieces_of) (h_behind : HasM G 5 "behind" ["book", "state", "loss"] m_behind) (F : ∃ f fd, _root_.G.At G.K G.mg "used_pieces" s_used_pieces f fd) : HasM G 6 "used_pieces" ["book", "state", "kind"] m_used_pieces := by
  have S := sc_used_pieces
  have h := has_def (G := G) (nl := 1) F S rfl (fun _ _ _ _ _ _ us hl => match us, hl with | [_, _, _], _ => rfl) (fun f cdv A outer s H E => ⟨_,
    (evb_one (evs_ret (ev_call h_pieces_of fnM_len (eva_v (ev_ty1 c1_tup cr_tup B.tuple_ (by decide +kernel) (Ev.pk (EvN.ev (evn_lc S.nd (evi_range1 (ev_add (Ev.pk (ev_at (ev_pk 0) (Ev.pk (ev_gintE C.MOST)))) (Ev.pk ev_int)) B.range_) (blkOk_by (own := [("size", 3)]) (by kernel_rfl)) (fun _ _ _ _ _ => (evg_nm 3 S.nd)) (fun _ _ _ _ _ => evf_nil) (fun _ _ _ _ _ => (ev_call h_behind fnM_len (eva_v (ev_nm 0) (eva_v (ev_nm 1) (eva_v (ev_tup (evl_cons (ev_nm 2) (evl_cons (ev_nm 3) evl_nil))) eva_nil))))))))) eva_nil))))⟩)
  rw [hlv] at h
  exact h
/-! first_unlike -/
def N_first_unlike : List Str := ["book", "state", "other", "its", "loss"]
theorem sc_first_unlike : FnScope N_first_unlike ["book", "state", "other", "its"] (defScope s_first_unlike) := ⟨rfl, rfl, rfl, by decide +kernel, rfl, by decide +kernel, by decide +kernel⟩
theorem has_first_unlike (G : Gx) (hlv : G.lv = 5) (B : Bi G.mg) (C : Cs G.mg) (h_losses_of : HasM G 1 "losses_of" ["book"] m_losses_of) (h_paid : HasM G 5 "paid" ["book", "state", "loss"] m_paid) (F : ∃ f fd, _root_.G.At G.K G.mg "first_unlike" s_first_unlike f fd) : HasM G 6 "first_unlike" ["book", "state", "other", "its"] m_first_unlike := by
  have S := sc_first_unlike
  have h := has_def (G := G) (nl := 1) F S rfl (fun _ _ _ _ _ _ us hl => match us, hl with | [_, _, _, _], _ => rfl) (fun f cdv A outer s H E => ⟨_,
    (evb_cons (evs_for (evi_seq (ev_call h_losses_of fnM_len (eva_v (ev_nm 0) eva_nil))) (evg_nm 4 S.nd) (evb_one (evs_if (evt_cmp ops_ne opr_ne (Ev.pk (ev_call h_paid fnM_len (eva_v (ev_nm 0) (eva_v (ev_nm 1) (eva_v (ev_nm 4) eva_nil))))) (Ev.pk (ev_call h_paid fnM_len (eva_v (ev_nm 2) (eva_v (ev_nm 3) (eva_v (ev_nm 4) eva_nil)))))) (evb_one (evs_ret (ev_nm 4))) evb_nil)))
    (evb_one (evs_ret ev_non)))⟩)
  rw [hlv] at h
  exact h
/-! steady_from -/
def N_steady_from : List Str := ["book", "state", "kind"]
theorem sc_steady_from : FnScope N_steady_from ["book", "state", "kind"] (defScope s_steady_from) := ⟨rfl, rfl, rfl, by decide +kernel, rfl, by decide +kernel, by decide +kernel⟩
theorem has_steady_from (G : Gx) (hlv : G.lv = 6) (B : Bi G.mg) (C : Cs G.mg) (h_paid_pieces : HasM G 6 "paid_pieces" ["book", "state", "kind"] m_paid_pieces) (F : ∃ f fd, _root_.G.At G.K G.mg "steady_from" s_steady_from f fd) : HasM G 7 "steady_from" ["book", "state", "kind"] m_steady_from := by
  have S := sc_steady_from
  have h := has_def (G := G) (nl := 0) F S rfl (fun _ _ _ _ _ _ us hl => match us, hl with | [_, _, _], _ => rfl) (fun f cdv A outer s H E => ⟨_,
    (evb_one (evs_ret (ev_at (Ev.pk (ev_at (Ev.pk (ev_call h_paid_pieces fnM_len (eva_v (ev_nm 0) (eva_v (ev_nm 1) (eva_v (ev_nm 2) eva_nil))))) (Ev.pk (ev_neg (Ev.pk ev_int))))) (Ev.pk (ev_gintE C.LOW)))))⟩)
  rw [hlv] at h
  exact h
/-! all_borne -/
def N_all_borne : List Str := ["book", "state", "kind", "party", "at", "member"]
theorem sc_all_borne : FnScope N_all_borne ["book", "state", "kind", "party"] (defScope s_all_borne) := ⟨rfl, rfl, rfl, by decide +kernel, rfl, by decide +kernel, by decide +kernel⟩
theorem has_all_borne (G : Gx) (hlv : G.lv = 6) (B : Bi G.mg) (C : Cs G.mg) (h_row_of : HasM G 3 "row_of" ["pieces"] m_row_of) (h_paid_pieces : HasM G 6 "paid_pieces" ["book", "state", "kind"] m_paid_pieces) (hF_bearers : HasR G tfR 1 "bearers" ["book"] m_bearers) (F : ∃ f fd, _root_.G.At G.K G.mg "all_borne" s_all_borne f fd) : HasM G 7 "all_borne" ["book", "state", "kind", "party"] m_all_borne := by
  have S := sc_all_borne
  have h := has_def (G := G) (nl := 2) F S rfl (fun _ _ _ _ _ _ us hl => match us, hl with | [_, _, _, _], _ => rfl) (fun f cdv A outer s H E => ⟨_,
    (evb_cons (evs_set 4 S.nd (Ev.x (ev_indexT (ev_callR hF_bearers fnM_len (eva_v (ev_nm 0) eva_nil)) (ev_pk 3))))
    (evb_one (evs_ret (EvN.ev (evn_lc S.nd (evi_seq (ev_call h_row_of fnM_len (eva_v (ev_call h_paid_pieces fnM_len (eva_v (ev_nm 0) (eva_v (ev_nm 1) (eva_v (ev_nm 2) eva_nil)))) eva_nil))) (blkOk_by (own := [("member", 5)]) (by kernel_rfl)) (fun _ _ _ _ _ => (evg_nm 5 S.nd)) (fun _ _ _ _ _ => evf_nil) (fun _ _ _ _ _ => (ev_at (ev_pk 5) (ev_pk 4))))))))⟩)
  rw [hlv] at h
  exact h
/-! pays_so -/
def N_pays_so : List Str := ["book", "state", "other", "its", "kind"]
theorem sc_pays_so : FnScope N_pays_so ["book", "state", "other", "its"] (defScope s_pays_so) := ⟨rfl, rfl, rfl, by decide +kernel, rfl, by decide +kernel, by decide +kernel⟩
theorem has_pays_so (G : Gx) (hlv : G.lv = 6) (B : Bi G.mg) (C : Cs G.mg) (h_paid_pieces : HasM G 6 "paid_pieces" ["book", "state", "kind"] m_paid_pieces) (F : ∃ f fd, _root_.G.At G.K G.mg "pays_so" s_pays_so f fd) : HasM G 7 "pays_so" ["book", "state", "other", "its"] m_pays_so := by
  have S := sc_pays_so
  have h := has_def (G := G) (nl := 1) F S rfl (fun _ _ _ _ _ _ us hl => match us, hl with | [_, _, _, _], _ => rfl) (fun f cdv A outer s H E => ⟨_,
    (evb_one (evs_ret (ev_b1 c1_all cr_allL B.all_ (by decide +kernel) (Ev.pk (EvN.ev (evn_lc S.nd (evi_seq (ev_at (ev_pk 0) (Ev.pk (ev_gintE C.KINDS)))) (blkOk_by (own := [("kind", 4)]) (by kernel_rfl)) (fun _ _ _ _ _ => (evg_nm 4 S.nd)) (fun _ _ _ _ _ => evf_nil) (fun _ _ _ _ _ => (ev_cmp ops_eq opr_eq (Ev.pk (ev_call h_paid_pieces fnM_len (eva_v (ev_nm 0) (eva_v (ev_nm 1) (eva_v (ev_nm 4) eva_nil))))) (Ev.pk (ev_call h_paid_pieces fnM_len (eva_v (ev_nm 2) (eva_v (ev_nm 3) (eva_v (ev_nm 4) eva_nil)))))))))))))⟩)
  rw [hlv] at h
  exact h
/-! law_bent -/
def N_law_bent : List Str := ["bag", "thing", "depth", "at", "longer"]
theorem sc_law_bent : FnScope N_law_bent ["bag", "thing", "depth"] (defScope s_law_bent) := ⟨rfl, rfl, rfl, by decide +kernel, rfl, by decide +kernel, by decide +kernel⟩
theorem has_law_bent (G : Gx) (j : Nat) (hlv : G.lv = 3 + j) (B : Bi G.mg) (C : Cs G.mg) (h_law_take : HasM G 1 "_law_take" ["bag", "many"] m_law_take) (h_law_some : HasM G 2 "_law_some" ["bag", "things"] m_law_some) (h_law_odd : HasM G 3 "_law_odd" ["bag"] m_law_odd) (F : ∃ f fd, _root_.G.At G.K G.mg "_law_bent" s_law_bent f fd) (h_law_bent : HasM G (3 + j) "_law_bent" ["bag", "thing", "depth"] (m_law_bent j)) : HasM G (3 + j + 1) "_law_bent" ["bag", "thing", "depth"] (m_law_bent (j + 1)) := by
  have S := sc_law_bent
  have h := has_def (G := G) (nl := 2) F S rfl (fun _ _ _ _ _ _ us hl => match us, hl with | [_, _, _], _ => rfl) (fun f cdv A outer s H E => ⟨_,
    (evb_cons (evs_if (EvW.t (evw_and (evt_tru (Ev.pk (ev_is (f := isT) (Tn := "tuple") rfl B.isinstance_ B.tuple_ (by decide +kernel) (ev_pk 1)))) (evw_and (evt_cmp ops_ne opr_ne (ev_pk 1) (Ev.pk (ev_tup evl_nil))) (evw_and (evt_cmp ops_gt opr_gt (ev_pk 2) (Ev.pk ev_int)) (evw_and1 (evt_cmp ops_gt opr_gt (Ev.pk (ev_call h_law_take fnM_len (eva_bag 0 (eva_v ev_int eva_nil)))) (Ev.pk ev_int))))))) (evb_cons (evs_set 3 S.nd (Ev.x (ev_call h_law_take fnM_len (eva_bag 0 (eva_v (ev_b1 c1_len cr_len B.len_ (by decide +kernel) (ev_pk 1)) eva_nil)))))
    (evb_one (evs_ret (ev_add (Ev.pk (ev_add (Ev.pk (ev_slice (ev_pk 1) evo_none (evo_some (ev_nm 3)))) (Ev.pk (ev_tup (evl_cons (ev_call h_law_bent (len_law_bent j) (eva_bag 0 (eva_v (ev_at (ev_pk 1) (ev_pk 3)) (eva_v (ev_sub (ev_pk 2) (Ev.pk ev_int)) eva_nil)))) evl_nil))))) (Ev.pk (ev_slice (ev_pk 1) (evo_some (ev_add (ev_pk 3) (Ev.pk ev_int))) evo_none)))))) evb_nil)
    (evb_cons (evs_if (evt_tru (Ev.pk (ev_is (f := isB) (Tn := "bool") rfl B.isinstance_ B.bool_ (by decide +kernel) (ev_pk 1)))) (evb_one (evs_ret (ev_call h_law_some fnM_len (eva_bag 0 (eva_v (ev_lst (evl_cons (ev_not (ev_nm 1)) (evl_cons (ev_ty1 c1_int cr_int B.int_ (by decide +kernel) (ev_pk 1)) (evl_cons ev_non evl_nil)))) eva_nil))))) evb_nil)
    (evb_cons (evs_if (evt_tru (Ev.pk (ev_is (f := isI) (Tn := "int") rfl B.isinstance_ B.int_ (by decide +kernel) (ev_pk 1)))) (evb_one (evs_ret (ev_call h_law_some fnM_len (eva_bag 0 (eva_v (ev_lst (evl_cons (ev_add (ev_pk 1) (Ev.pk ev_int)) (evl_cons (ev_sub (ev_pk 1) (Ev.pk ev_int)) (evl_cons (ev_neg (ev_pk 1)) (evl_cons (ev_cmp ops_eq opr_eq (ev_pk 1) (Ev.pk ev_int)) (evl_cons (ev_tup (evl_cons (ev_nm 1) evl_nil)) (evl_cons (ev_pow (Ev.pk ev_int) (Ev.pk ev_int)) evl_nil))))))) eva_nil))))) evb_nil)
    (evb_cons (evs_if (EvW.t (evw_and (evt_tru (Ev.pk (ev_is (f := isT) (Tn := "tuple") rfl B.isinstance_ B.tuple_ (by decide +kernel) (ev_pk 1)))) (evw_and1 (evt_cmp ops_ne opr_ne (ev_pk 1) (Ev.pk (ev_tup evl_nil)))))) (evb_cons (evs_set 3 S.nd (Ev.x (ev_call h_law_take fnM_len (eva_bag 0 (eva_v (ev_b1 c1_len cr_len B.len_ (by decide +kernel) (ev_pk 1)) eva_nil)))))
    (evb_cons (evs_set 4 S.nd (Ev.x (ev_add (Ev.pk (ev_add (Ev.pk (ev_slice (ev_pk 1) evo_none (evo_some (ev_nm 3)))) (Ev.pk (ev_tup (evl_cons (ev_at (ev_pk 1) (ev_pk 3)) evl_nil))))) (Ev.pk (ev_slice (ev_pk 1) (evo_some (ev_nm 3)) evo_none)))))
    (evb_one (evs_ret (ev_call h_law_some fnM_len (eva_bag 0 (eva_v (ev_lst (evl_cons (ev_ty1 c1_lst cr_lst B.list_ (by decide +kernel) (ev_pk 1)) (evl_cons (ev_add (Ev.pk (ev_slice (ev_pk 1) evo_none (evo_some (ev_nm 3)))) (Ev.pk (ev_slice (ev_pk 1) (evo_some (ev_add (ev_pk 3) (Ev.pk ev_int))) evo_none))) (evl_cons (ev_nm 4) (evl_cons (ev_rev (ev_pk 1)) (evl_cons (ev_call h_law_odd fnM_len (eva_bag 0 eva_nil)) evl_nil)))))) eva_nil))))))) evb_nil)
    (evb_one (evs_ret (ev_call h_law_odd fnM_len (eva_bag 0 eva_nil))))))))⟩)
  rw [hlv] at h
  exact h
/-! least_size -/
def N_least_size : List Str := ["book", "state", "kind", "party", "found", "size", "number"]
theorem sc_least_size : FnScope N_least_size ["book", "state", "kind", "party"] (defScope s_least_size) := ⟨rfl, rfl, rfl, by decide +kernel, rfl, by decide +kernel, by decide +kernel⟩
theorem has_least_size (G : Gx) (hlv : G.lv = 7) (B : Bi G.mg) (C : Cs G.mg) (h_all_borne : HasM G 7 "all_borne" ["book", "state", "kind", "party"] m_all_borne) (F : ∃ f fd, _root_.G.At G.K G.mg "least_size" s_least_size f fd) : HasM G 8 "least_size" ["book", "state", "kind", "party"] m_least_size := by
  have S := sc_least_size
  have h := has_def (G := G) (nl := 3) F S rfl (fun _ _ _ _ _ _ us hl => match us, hl with | [_, _, _, _], _ => rfl) (fun f cdv A outer s H E => ⟨_,
    (evb_cons (evs_setLc 4 S.nd (evi_enum (ev_call h_all_borne fnM_len (eva_v (ev_nm 0) (eva_v (ev_nm 1) (eva_v (ev_nm 2) (eva_v (ev_nm 3) eva_nil))))) B.enumerate_) (blkOk_by (own := [("size", 5), ("number", 6)]) (by kernel_rfl)) (fun _ _ _ _ _ => (evg_tup (n := 2) (evgs_cons (evg_nm 5 S.nd) (evgs_cons (evg_nm 6 S.nd) evgs_nil)))) (fun _ _ _ _ _ => (evf_one (evt_cmp ops_gt opr_gt (ev_pk 6) (Ev.pk ev_int)))) (fun _ _ _ _ _ => (ev_nm 5)))
    (evb_one (evs_ret (ev_if (evt_tru (ev_pk 4)) (ev_at (ev_pk 4) (Ev.pk ev_int)) ev_non))))⟩)
  rw [hlv] at h
  exact h
/-! most_borne -/
def N_most_borne : List Str := ["book", "state", "kind", "party"]
theorem sc_most_borne : FnScope N_most_borne ["book", "state", "kind", "party"] (defScope s_most_borne) := ⟨rfl, rfl, rfl, by decide +kernel, rfl, by decide +kernel, by decide +kernel⟩
theorem has_most_borne (G : Gx) (hlv : G.lv = 7) (B : Bi G.mg) (C : Cs G.mg) (h_all_borne : HasM G 7 "all_borne" ["book", "state", "kind", "party"] m_all_borne) (F : ∃ f fd, _root_.G.At G.K G.mg "most_borne" s_most_borne f fd) : HasM G 8 "most_borne" ["book", "state", "kind", "party"] m_most_borne := by
  have S := sc_most_borne
  have h := has_def (G := G) (nl := 0) F S rfl (fun _ _ _ _ _ _ us hl => match us, hl with | [_, _, _, _], _ => rfl) (fun f cdv A outer s H E => ⟨_,
    (evb_one (evs_ret (ev_b1 c1_maxL cr_maxL B.max_ (by decide +kernel) (Ev.pk (ev_call h_all_borne fnM_len (eva_v (ev_nm 0) (eva_v (ev_nm 1) (eva_v (ev_nm 2) (eva_v (ev_nm 3) eva_nil)))))))))⟩)
  rw [hlv] at h
  exact h
/-! sizes_borne -/
def N_sizes_borne : List Str := ["book", "state", "kind", "party", "number", "size", "its"]
theorem sc_sizes_borne : FnScope N_sizes_borne ["book", "state", "kind", "party", "number"] (defScope s_sizes_borne) := ⟨rfl, rfl, rfl, by decide +kernel, rfl, by decide +kernel, by decide +kernel⟩
theorem has_sizes_borne (G : Gx) (hlv : G.lv = 7) (B : Bi G.mg) (C : Cs G.mg) (h_all_borne : HasM G 7 "all_borne" ["book", "state", "kind", "party"] m_all_borne) (F : ∃ f fd, _root_.G.At G.K G.mg "sizes_borne" s_sizes_borne f fd) : HasM G 8 "sizes_borne" ["book", "state", "kind", "party", "number"] m_sizes_borne := by
  have S := sc_sizes_borne
  have h := has_def (G := G) (nl := 2) F S rfl (fun _ _ _ _ _ _ us hl => match us, hl with | [_, _, _, _, _], _ => rfl) (fun f cdv A outer s H E => ⟨_,
    (evb_one (evs_ret (ev_ty1 c1_tup cr_tup B.tuple_ (by decide +kernel) (Ev.pk (EvN.ev (evn_lc S.nd (evi_enum (ev_call h_all_borne fnM_len (eva_v (ev_nm 0) (eva_v (ev_nm 1) (eva_v (ev_nm 2) (eva_v (ev_nm 3) eva_nil))))) B.enumerate_) (blkOk_by (own := [("size", 5), ("its", 6)]) (by kernel_rfl)) (fun _ _ _ _ _ => (evg_tup (n := 2) (evgs_cons (evg_nm 5 S.nd) (evgs_cons (evg_nm 6 S.nd) evgs_nil)))) (fun _ _ _ _ _ => (evf_one (evt_cmp ops_eq opr_eq (ev_pk 6) (ev_pk 4)))) (fun _ _ _ _ _ => (ev_nm 5))))))))⟩)
  rw [hlv] at h
  exact h
/-! law_runs_right -/
def N_law_runs_right : List Str := ["bag", "many", "row", "other", "some", "its", "low", "high", "at", "bent", "told", "due", "short", "both", "one", "its_one", "mine", "two"]
theorem sc_law_runs_right : FnScope N_law_runs_right ["bag"] (defScope s_law_runs_right) := ⟨rfl, rfl, rfl, by decide +kernel, rfl, by decide +kernel, by decide +kernel⟩
theorem has_law_runs_right (G : Gx) (hlv : G.lv = 7) (B : Bi G.mg) (C : Cs G.mg) (h_law_take : HasM G 1 "_law_take" ["bag", "many"] m_law_take) (h_law_row : HasM G 3 "_law_row" ["bag", "many"] m_law_row) (h_law_pieces : HasM G 2 "_law_pieces" ["row"] m_law_pieces) (h_law_some : HasM G 2 "_law_some" ["bag", "things"] m_law_some) (h_law_bent : HasM G 7 "_law_bent" ["bag", "thing", "depth"] (m_law_bent 4)) (h_joined : HasM G 4 "joined" ["one", "other"] m_joined) (h_cut : HasM G 4 "cut" ["pieces", "low", "high"] m_cut) (h_turns_of : HasM G 1 "turns_of" ["pieces"] m_turns_of) (h_member_at : HasM G 2 "member_at" ["pieces", "index"] m_member_at) (h_row_of : HasM G 3 "row_of" ["pieces"] m_row_of) (h_pieces_of : HasM G 3 "pieces_of" ["row"] m_pieces_of) (h_are_pieces : HasM G 5 "are_pieces" ["thing"] m_are_pieces) (h_added : HasM G 4 "added" ["one", "other"] m_added) (h_column : HasM G 4 "column" ["pieces", "at"] m_column) (h_law_alike : HasM G 1 "_law_alike" ["found", "due"] m_law_alike) (h_law_is_pieces : HasM G 3 "_law_is_pieces" ["thing"] m_law_is_pieces) (F : ∃ f fd, _root_.G.At G.K G.mg "_law_runs_right" s_law_runs_right f fd) : HasM G 8 "_law_runs_right" ["bag"] m_law_runs_right := by
  have S := sc_law_runs_right
  have h := has_def (G := G) (nl := 17) F S rfl (fun _ _ _ _ _ _ us hl => match us, hl with | [_], _ => rfl) (fun f cdv A outer s H E => ⟨_,
    (evb_cons (evs_set 1 S.nd (Ev.x (ev_add (Ev.pk ev_int) (Ev.pk (ev_call h_law_take fnM_len (eva_bag 0 (eva_v ev_int eva_nil)))))))
    (evb_cons (evs_par2 2 3 S.nd (Ev.x (ev_call h_law_row fnM_len (eva_bag 0 (eva_v (ev_nm 1) eva_nil)))) (Ev.x (ev_call h_law_row fnM_len (eva_bag 0 (eva_v (ev_nm 1) eva_nil)))))
    (evb_cons (evs_par2 4 5 S.nd (Ev.x (ev_call h_law_pieces fnM_len (eva_v (ev_nm 2) eva_nil))) (Ev.x (ev_call h_law_pieces fnM_len (eva_v (ev_nm 3) eva_nil))))
    (evb_cons (evs_set 6 S.nd (Ev.x (ev_call h_law_take fnM_len (eva_bag 0 (eva_v (ev_b1 c1_len cr_len B.len_ (by decide +kernel) (ev_pk 2)) eva_nil)))))
    (evb_cons (evs_asg (ev_tup (evl_cons (ev_add (ev_pk 6) (Ev.pk (ev_call h_law_take fnM_len (eva_bag 0 (eva_v (ev_sub (Ev.pk (ev_b1 c1_len cr_len B.len_ (by decide +kernel) (ev_pk 2))) (ev_pk 6)) eva_nil))))) (evl_cons (ev_call h_law_take fnM_len (eva_bag 0 (eva_v (ev_nm 1) eva_nil))) evl_nil))) (evg_tup (n := 2) (evgs_cons (evg_nm 7 S.nd) (evgs_cons (evg_nm 8 S.nd) evgs_nil))))
    (evb_cons (evs_set 9 S.nd (Ev.x (ev_call h_law_some fnM_len (eva_bag 0 (eva_v (ev_lst (evl_cons (ev_call h_law_bent (len_law_bent 4) (eva_bag 0 (eva_v (ev_nm 4) (eva_v ev_int eva_nil)))) (evl_cons (ev_slice (ev_pk 4) (evo_some ev_int) evo_none) (evl_cons (ev_tup evl_nil) (evl_cons ev_non (evl_cons (ev_ty1 c1_lst cr_lst B.list_ (by decide +kernel) (ev_pk 4)) (evl_cons (ev_nm 4) evl_nil))))))) eva_nil)))))
    (evb_cons (evs_set 10 S.nd (Ev.x (ev_lst (evl_cons (ev_call h_pieces_of fnM_len (eva_v (ev_nm 2) eva_nil)) (evl_cons (ev_call h_row_of fnM_len (eva_v (ev_nm 4) eva_nil)) (evl_cons (ev_call h_member_at fnM_len (eva_v (ev_nm 4) (eva_v (ev_nm 7) eva_nil))) (evl_cons (ev_call h_turns_of fnM_len (eva_v (ev_nm 4) eva_nil)) (evl_cons (ev_call h_cut fnM_len (eva_v (ev_nm 4) (eva_v (ev_nm 6) (eva_v (ev_nm 7) eva_nil)))) (evl_cons (ev_call h_joined fnM_len (eva_v (ev_nm 4) (eva_v (ev_nm 5) eva_nil))) evl_nil)))))))))
    (evb_cons (evs_set 11 S.nd (Ev.x (ev_lst (evl_cons (ev_nm 4) (evl_cons (ev_nm 2) (evl_cons (ev_at (ev_pk 2) (ev_pk 7)) (evl_cons (ev_ty1 c1_tup cr_tup B.tuple_ (by decide +kernel) (Ev.pk (EvN.ev (evn_lc S.nd (evi_seq (ev_slice (ev_pk 4) (evo_some ev_int) evo_none)) (blkOk_by (own := [("one", 14)]) (by kernel_rfl)) (fun _ _ _ _ _ => (evg_nm 14 S.nd)) (fun _ _ _ _ _ => evf_nil) (fun _ _ _ _ _ => (ev_at (ev_pk 14) (Ev.pk ev_int))))))) (evl_cons (ev_call h_law_pieces fnM_len (eva_v (ev_slice (ev_pk 2) (evo_some (ev_nm 6)) (evo_some (ev_add (ev_pk 7) (Ev.pk ev_int)))) eva_nil)) (evl_cons (ev_call h_law_pieces fnM_len (eva_v (ev_add (ev_pk 2) (ev_pk 3)) eva_nil)) evl_nil)))))))))
    (evb_cons (evs_set 12 S.nd (Ev.x (ev_b2 c2_min cr_min2 B.min_ (by decide +kernel) (Ev.pk (ev_b1 c1_len cr_len B.len_ (by decide +kernel) (ev_pk 2))) (Ev.pk (ev_b1 c1_len cr_len B.len_ (by decide +kernel) (ev_pk 3))))))
    (evb_cons (evs_set 13 S.nd (Ev.x (ev_ty1 c1_tup cr_tup B.tuple_ (by decide +kernel) (Ev.pk (EvN.ev (evn_lc S.nd (evi_zip (ev_nm 2) (ev_nm 3) B.zip_) (blkOk_by (own := [("one", 14), ("its_one", 15)]) (by kernel_rfl)) (fun _ _ _ _ _ => (evg_tup (n := 2) (evgs_cons (evg_nm 14 S.nd) (evgs_cons (evg_nm 15 S.nd) evgs_nil)))) (fun _ _ _ _ _ => evf_nil) (fun _ _ _ _ _ => (ev_ty1 c1_tup cr_tup B.tuple_ (by decide +kernel) (Ev.pk (EvN.ev (evn_lc S.nd (evi_zip (ev_nm 14) (ev_nm 15) B.zip_) (blkOk_by (own := [("mine", 16), ("two", 17)]) (by kernel_rfl)) (fun _ _ _ _ _ => (evg_tup (n := 2) (evgs_cons (evg_nm 16 S.nd) (evgs_cons (evg_nm 17 S.nd) evgs_nil)))) (fun _ _ _ _ _ => evf_nil) (fun _ _ _ _ _ => (ev_add (ev_pk 16) (ev_pk 17))))))))))))))
    (evb_cons (evs_set 10 S.nd (Ev.x (ev_add (ev_pk 10) (Ev.pk (ev_lst (evl_cons (ev_call h_column fnM_len (eva_v (ev_nm 4) (eva_v (ev_nm 8) eva_nil))) (evl_cons (ev_call h_added fnM_len (eva_v (ev_call h_law_pieces fnM_len (eva_v (ev_slice (ev_pk 2) evo_none (evo_some (ev_nm 12))) eva_nil)) (eva_v (ev_call h_law_pieces fnM_len (eva_v (ev_slice (ev_pk 3) evo_none (evo_some (ev_nm 12))) eva_nil)) eva_nil))) (evl_cons (ev_call h_are_pieces fnM_len (eva_v (ev_nm 4) eva_nil)) (evl_cons (ev_call h_are_pieces fnM_len (eva_v (ev_nm 9) eva_nil)) evl_nil)))))))))
    (evb_one (evs_ret (ev_call h_law_alike fnM_len (eva_v (ev_nm 10) (eva_v (ev_add (ev_pk 11) (Ev.pk (ev_lst (evl_cons (ev_call h_law_pieces fnM_len (eva_v (ev_ty1 c1_tup cr_tup B.tuple_ (by decide +kernel) (Ev.pk (EvN.ev (evn_lc S.nd (evi_seq (ev_nm 2)) (blkOk_by (own := [("one", 14)]) (by kernel_rfl)) (fun _ _ _ _ _ => (evg_nm 14 S.nd)) (fun _ _ _ _ _ => evf_nil) (fun _ _ _ _ _ => (ev_tup (evl_cons (ev_at (ev_pk 14) (ev_pk 8)) evl_nil))))))) eva_nil)) (evl_cons (ev_call h_law_pieces fnM_len (eva_v (ev_nm 13) eva_nil)) (evl_cons ev_bl (evl_cons (ev_call h_law_is_pieces fnM_len (eva_v (ev_nm 9) eva_nil)) evl_nil))))))) eva_nil))))))))))))))))⟩)
  rw [hlv] at h
  exact h
/-! law_paid_right -/
def N_law_paid_right : List Str := ["bag", "book", "state", "kind", "party", "some", "row", "used", "at", "alone", "size", "number", "last", "bears", "told", "due", "one", "amount"]
theorem sc_law_paid_right : FnScope N_law_paid_right ["bag", "book"] (defScope s_law_paid_right) := ⟨rfl, rfl, rfl, by decide +kernel, rfl, by decide +kernel, by decide +kernel⟩
theorem has_law_paid_right (G : Gx) (hlv : G.lv = 8) (B : Bi G.mg) (C : Cs G.mg) (h_law_some : HasM G 2 "_law_some" ["bag", "things"] m_law_some) (h_law_bearers : HasM G 1 "_law_bearers" ["book"] m_law_bearers) (h_law_state : HasM G 2 "_law_state" ["bag", "book"] m_law_state) (h_law_bear : HasM G 2 "_law_bear" ["book", "state", "loss"] m_law_bear) (h_law_take : HasM G 1 "_law_take" ["bag", "many"] m_law_take) (h_law_pieces : HasM G 2 "_law_pieces" ["row"] m_law_pieces) (h_borne_by : HasM G 5 "borne_by" ["book", "pieces", "party"] m_borne_by) (h_paid_by : HasM G 3 "paid_by" ["book", "pieces", "size"] m_paid_by) (h_used_pieces : HasM G 6 "used_pieces" ["book", "state", "kind"] m_used_pieces) (h_paid_pieces : HasM G 6 "paid_pieces" ["book", "state", "kind"] m_paid_pieces) (h_sizes_borne : HasM G 8 "sizes_borne" ["book", "state", "kind", "party", "number"] m_sizes_borne) (h_most_borne : HasM G 8 "most_borne" ["book", "state", "kind", "party"] m_most_borne) (h_least_size : HasM G 8 "least_size" ["book", "state", "kind", "party"] m_least_size) (h_steady_from : HasM G 7 "steady_from" ["book", "state", "kind"] m_steady_from) (h_law_alike : HasM G 1 "_law_alike" ["found", "due"] m_law_alike) (F : ∃ f fd, _root_.G.At G.K G.mg "_law_paid_right" s_law_paid_right f fd) : HasM G 9 "_law_paid_right" ["bag", "book"] m_law_paid_right := by
  have S := sc_law_paid_right
  have h := has_def (G := G) (nl := 16) F S rfl (fun _ _ _ _ _ _ us hl => match us, hl with | [_, _], _ => rfl) (fun f cdv A outer s H E => ⟨_,
    (evb_cons (evs_asg (ev_tup (evl_cons (ev_call h_law_state fnM_len (eva_bag 0 (eva_v (ev_nm 1) eva_nil))) (evl_cons (ev_call h_law_some fnM_len (eva_bag 0 (eva_v (ev_ty1 c1_lst cr_lst B.list_ (by decide +kernel) (Ev.pk (ev_at (ev_pk 1) (Ev.pk ev_int)))) eva_nil))) (evl_cons (ev_call h_law_some fnM_len (eva_bag 0 (eva_v (ev_call h_law_bearers fnM_len (eva_v (ev_nm 1) eva_nil)) eva_nil))) evl_nil)))) (evg_tup (n := 3) (evgs_cons (evg_nm 2 S.nd) (evgs_cons (evg_nm 3 S.nd) (evgs_cons (evg_nm 4 S.nd) evgs_nil)))))
    (evb_cons (evs_setLc 5 S.nd (evi_range1 (ev_add (Ev.pk (ev_at (ev_pk 1) (Ev.pk ev_int))) (Ev.pk ev_int)) B.range_) (blkOk_by (own := [("size", 10)]) (by kernel_rfl)) (fun _ _ _ _ _ => (evg_nm 10 S.nd)) (fun _ _ _ _ _ => evf_nil) (fun _ _ _ _ _ => (ev_call h_law_bear fnM_len (eva_v (ev_nm 1) (eva_v (ev_nm 2) (eva_v (ev_tup (evl_cons (ev_nm 3) (evl_cons (ev_nm 10) evl_nil))) eva_nil))))))
    (evb_cons (evs_asg (ev_tup (evl_cons (ev_ty1 c1_tup cr_tup B.tuple_ (by decide +kernel) (Ev.pk (EvN.ev (evn_lc S.nd (evi_seq (ev_nm 5)) (blkOk_by (own := [("one", 16)]) (by kernel_rfl)) (fun _ _ _ _ _ => (evg_nm 16 S.nd)) (fun _ _ _ _ _ => evf_nil) (fun _ _ _ _ _ => (ev_at (ev_pk 16) (Ev.pk ev_int))))))) (evl_cons (ev_ty1 c1_tup cr_tup B.tuple_ (by decide +kernel) (Ev.pk (EvN.ev (evn_lc S.nd (evi_seq (ev_nm 5)) (blkOk_by (own := [("one", 16)]) (by kernel_rfl)) (fun _ _ _ _ _ => (evg_nm 16 S.nd)) (fun _ _ _ _ _ => evf_nil) (fun _ _ _ _ _ => (ev_at (ev_pk 16) (Ev.pk ev_int))))))) (evl_cons (ev_indexL (Ev.pk (ev_call h_law_bearers fnM_len (eva_v (ev_nm 1) eva_nil))) (ev_pk 4)) evl_nil)))) (evg_tup (n := 3) (evgs_cons (evg_nm 6 S.nd) (evgs_cons (evg_nm 7 S.nd) (evgs_cons (evg_nm 8 S.nd) evgs_nil)))))
    (evb_cons (evs_par2 9 10 S.nd (Ev.x (EvN.ev (evn_lc S.nd (evi_seq (ev_nm 6)) (blkOk_by (own := [("one", 16)]) (by kernel_rfl)) (fun _ _ _ _ _ => (evg_nm 16 S.nd)) (fun _ _ _ _ _ => evf_nil) (fun _ _ _ _ _ => (ev_at (ev_pk 16) (ev_pk 8)))))) (Ev.x (ev_call h_law_take fnM_len (eva_bag 0 (eva_v (ev_add (Ev.pk (ev_at (ev_pk 1) (Ev.pk ev_int))) (Ev.pk ev_int)) eva_nil)))))
    (evb_cons (evs_asg (ev_tup (evl_cons (ev_call h_law_some fnM_len (eva_bag 0 (eva_v (ev_add (ev_pk 9) (Ev.pk (ev_lst (evl_cons (ev_neg (Ev.pk ev_int)) (evl_cons ev_int evl_nil))))) eva_nil))) (evl_cons (ev_at (Ev.pk (ev_call h_law_pieces fnM_len (eva_v (ev_nm 6) eva_nil))) (Ev.pk (ev_neg (Ev.pk ev_int)))) evl_nil))) (evg_tup (n := 2) (evgs_cons (evg_nm 11 S.nd) (evgs_cons (evg_nm 12 S.nd) evgs_nil))))
    (evb_cons (evs_setLc 13 S.nd (evi_enum (ev_nm 9) B.enumerate_) (blkOk_by (own := [("one", 16), ("amount", 17)]) (by kernel_rfl)) (fun _ _ _ _ _ => (evg_tup (n := 2) (evgs_cons (evg_nm 16 S.nd) (evgs_cons (evg_nm 17 S.nd) evgs_nil)))) (fun _ _ _ _ _ => (evf_one (evt_cmp ops_gt opr_gt (ev_pk 17) (Ev.pk ev_int)))) (fun _ _ _ _ _ => (ev_nm 16)))
    (evb_cons (evs_set 14 S.nd (Ev.x (ev_lst (evl_cons (ev_call h_paid_pieces fnM_len (eva_v (ev_nm 1) (eva_v (ev_nm 2) (eva_v (ev_nm 3) eva_nil)))) (evl_cons (ev_call h_used_pieces fnM_len (eva_v (ev_nm 1) (eva_v (ev_nm 2) (eva_v (ev_nm 3) eva_nil)))) (evl_cons (ev_call h_paid_by fnM_len (eva_v (ev_nm 1) (eva_v (ev_call h_law_pieces fnM_len (eva_v (ev_nm 6) eva_nil)) (eva_v (ev_nm 10) eva_nil)))) (evl_cons (ev_call h_borne_by fnM_len (eva_v (ev_nm 1) (eva_v (ev_call h_law_pieces fnM_len (eva_v (ev_nm 6) eva_nil)) (eva_v (ev_nm 4) eva_nil)))) evl_nil)))))))
    (evb_cons (evs_set 15 S.nd (Ev.x (ev_lst (evl_cons (ev_call h_law_pieces fnM_len (eva_v (ev_nm 6) eva_nil)) (evl_cons (ev_call h_law_pieces fnM_len (eva_v (ev_nm 7) eva_nil)) (evl_cons (ev_at (ev_pk 6) (ev_pk 10)) (evl_cons (ev_call h_law_pieces fnM_len (eva_v (ev_ty1 c1_tup cr_tup B.tuple_ (by decide +kernel) (Ev.pk (EvN.ev (evn_lc S.nd (evi_seq (ev_nm 9)) (blkOk_by (own := [("one", 16)]) (by kernel_rfl)) (fun _ _ _ _ _ => (evg_nm 16 S.nd)) (fun _ _ _ _ _ => evf_nil) (fun _ _ _ _ _ => (ev_tup (evl_cons (ev_nm 16) evl_nil))))))) eva_nil)) evl_nil)))))))
    (evb_cons (evs_set 14 S.nd (Ev.x (ev_add (ev_pk 14) (Ev.pk (ev_lst (evl_cons (ev_call h_steady_from fnM_len (eva_v (ev_nm 1) (eva_v (ev_nm 2) (eva_v (ev_nm 3) eva_nil)))) (evl_cons (ev_call h_least_size fnM_len (eva_v (ev_nm 1) (eva_v (ev_nm 2) (eva_v (ev_nm 3) (eva_v (ev_nm 4) eva_nil))))) (evl_cons (ev_call h_most_borne fnM_len (eva_v (ev_nm 1) (eva_v (ev_nm 2) (eva_v (ev_nm 3) (eva_v (ev_nm 4) eva_nil))))) (evl_cons (ev_call h_sizes_borne fnM_len (eva_v (ev_nm 1) (eva_v (ev_nm 2) (eva_v (ev_nm 3) (eva_v (ev_nm 4) (eva_v (ev_nm 11) eva_nil)))))) evl_nil)))))))))
    (evb_one (evs_ret (ev_call h_law_alike fnM_len (eva_v (ev_nm 14) (eva_v (ev_add (ev_pk 15) (Ev.pk (ev_lst (evl_cons (ev_at (ev_pk 12) (Ev.pk ev_int)) (evl_cons (ev_if (evt_cmp ops_ne opr_ne (ev_pk 13) (Ev.pk (ev_lst evl_nil))) (ev_at (ev_pk 13) (Ev.pk ev_int)) ev_non) (evl_cons (ev_b1 c1_maxL cr_maxL B.max_ (by decide +kernel) (ev_pk 9)) (evl_cons (ev_ty1 c1_tup cr_tup B.tuple_ (by decide +kernel) (Ev.pk (EvN.ev (evn_lc S.nd (evi_enum (ev_nm 9) B.enumerate_) (blkOk_by (own := [("one", 16), ("amount", 17)]) (by kernel_rfl)) (fun _ _ _ _ _ => (evg_tup (n := 2) (evgs_cons (evg_nm 16 S.nd) (evgs_cons (evg_nm 17 S.nd) evgs_nil)))) (fun _ _ _ _ _ => (evf_one (evt_cmp ops_eq opr_eq (ev_pk 17) (ev_pk 11)))) (fun _ _ _ _ _ => (ev_nm 16)))))) evl_nil))))))) eva_nil))))))))))))))⟩)
  rw [hlv] at h
  exact h
end K31
/-! _law_bag, by hand -/
namespace K31
open PySem PySem.Spec PyProof.Rows L2 M
def spBag (K : PySem.W.Frag) : Sp := fun vs H Q _ => ∃ (a : Addr) (ns : List Int), vs = [.ref a] ∧ ns.length ≤ 63 ∧ SqL K H a (ns.map V.int) ∧
  ∀ (b c : Addr) (H' : Hp) (ms : List Int), ms.length ≤ 63 → b ≠ c → H' b = some (.lst [.int 0, .int 1234567891, .int 0, .ref c]) → H' c = some (.lst (ms.map V.int)) → Q (.ref b) H'
def N_law_bag : List Str := ["script", "cell"]
theorem sc_law_bag : FnScope N_law_bag ["script"] (defScope s_law_bag) := ⟨rfl, rfl, rfl, by decide +kernel, rfl, by decide +kernel, by decide +kernel⟩
abbrev rAbs : List V → Hp → VK → Prop := fun xs H Q => ∃ i, xs = [.int i] ∧ Q (.int (if i < 0 then -i else i)) H
def t_bag (K : PySem.W.Frag) : TS := tRet (tLst (tCons (tC (.int 0)) (tCons (tC (.int 1234567891)) (tCons (tC (.int 0)) (tCons (tLc (iList K (tSl (rSlL K) (tVar 0) tNoPart (tPart (tC (.int 63))))) (gName 1) tYes (tCB rAbs (tCons (tVar 1) tNil)) [1]) tNil)))))
theorem cut63 (ns : List Int) : ∃ ms : List Int, cutV (ns.map V.int) none (some 63) = ms.map V.int ∧ ms.length ≤ ns.length := by
  refine ⟨(ns.drop (HT.sIx (ns.map V.int).length 0 none)).take (HT.sIx (ns.map V.int).length (ns.map V.int).length (some 63) - HT.sIx (ns.map V.int).length 0 none), ?_, ?_⟩
  · unfold cutV
    rw [List.map_take, List.map_drop]
  · rw [List.length_take, List.length_drop]
    omega
theorem rd_bag {K : PySem.W.Frag} {vs : List V} {H : Hp} {Q : VK} {E : XK} (h : spBag K vs H Q E) : t_bag K { nx := fun _ H' => Q .non H', rt := Q } (start N_law_bag vs) H := by
  obtain ⟨a, ns, rfl, hl, hS, q⟩ := h
  obtain ⟨ms, hms, hml⟩ := cut63 ns
  let ab : Int → Int := fun i => if i < 0 then -i else i
  refine ⟨_, rfl, _, rfl, a, _, rfl, hS, fun p hp => ?_⟩
  rw [hms]
  refine ⟨p, rfl, ⟨_, SqL.of upd_same⟩, fun D hD => ?_⟩
  have hDp : p ≠ D := ne_of_none upd_same hD
  have tk : ∀ (i : Nat) (x : V), (ms.map V.int)[i]? = some x → ∃ n, ms[i]? = some n ∧ x = V.int n := fun i x h => by
    rw [List.getElem?_map] at h
    obtain ⟨n, h1, h2⟩ := Option.map_eq_some_iff.mp h
    exact ⟨n, h1, h2.symm⟩
  refine lc_list (K := K) (a := p) (xs := ms.map V.int) (fun i H => H p = some (.lst (ms.map V.int)) ∧ H D = some (.lst (((ms.take i).map ab).map V.int))) ⟨?_, ?_⟩ (fun i H _ h => SqL.of h.1) (fun i x H hx h => ?_) (fun H h => ?_)
  · rw [upd_ne hDp]; exact upd_same
  · exact upd_same
  · obtain ⟨n, hn, rfl⟩ := tk i x hx
    have hil := (List.getElem?_eq_some_iff.mp hn).1
    refine ⟨rfl, ?_⟩
    refine iteT (B := H p = some (.lst (ms.map V.int)) ∧ H D = some (.lst (((ms.take (i + 1)).map ab).map V.int))) ?_
    refine ⟨_, rfl, n, rfl, _, h.2, ?_, ?_, ?_⟩
    · rw [List.length_map, List.length_map, List.length_take]
      exact Nat.lt_of_lt_of_le (show min i ms.length < 1000 by omega) (by rw [sizeLine_eq]; omega)
    · rw [upd_ne hDp]; exact h.1
    · rw [upd_same, List.take_add_one, hn, List.map_append, List.map_append]
      rfl
  · rw [List.length_map, List.take_length] at h
    refine ⟨by show 4 ≤ sizeLine; rw [sizeLine_eq]; exact (by decide : 4 ≤ 16777216), fun b hb => ?_⟩
    have hbD : D ≠ b := ne_of_none h.2 hb
    exact q b D _ (ms.map ab) (by rw [List.length_map]; omega) hbD.symm upd_same (by rw [upd_ne hbD]; exact h.2)
theorem has_law_bag (G : Gx) (hm : G.mg "abs" = none) (F : ∃ f fd, _root_.G.At G.K G.mg "_law_bag" s_law_bag f fd) : _root_.G.Has G.P G.w G.K G.mg G.base (G.lv + 1) "_law_bag" ["script"] (spBag G.K) := by
  have S := sc_law_bag
  refine _root_.G.mkHas F S (fun _ _ _ _ _ _ us hl => match us, hl with | [_], _ => rfl) (fun vs H Q E h => ?_) (fun f cdv A outer s H vs Q E hr h => ⟨t_bag G.K, ?_, rd_bag h⟩)
  · obtain ⟨_, _, rfl, _⟩ := h
    rfl
  · have hs : ∀ (X : Cx), X.K = G.K → SlR X (rSlL G.K) := fun X e => by have := sl_list (X := X); rw [e] at this; exact this
    exact pss_one (ps_ret (pe_lst (pa_cons pe_int (pa_cons pe_int (pa_cons pe_int (pa_cons (pe_lc (own := [("cell", 1)]) (g := gName 1) (tt := tYes) rfl S.nd (pi_list (pe_slice sl_list (pv 0) po_none (po_some pe_int))) (blkOk_by (own := [("cell", 1)]) (by kernel_rfl)) (fun _ _ _ _ _ => pg_name (i := 1) S.nd rfl (Or.inl rfl)) (fun _ _ _ _ _ => pts_nil) (fun _ _ _ _ _ => pe_callB call_abs (by rfl) hm (by decide +kernel) (pa_cons (pv 1) pa_nil))) pa_nil))))))
end K31
/-! law -/
namespace K31
open PySem PySem.Spec PyProof.Rows L2 M
def N_law : List Str := ["script", "bag", "turn", "book", "other", "state", "its", "apart", "loss"]
theorem sc_law : FnScope N_law ["script"] (defScope s_law) := ⟨rfl, rfl, rfl, by decide +kernel, rfl, by decide +kernel, by decide +kernel⟩
theorem evb_law (G : Gx) (hlv : G.lv = 9) (B : Bi G.mg) (C : Cs G.mg) (h_law_runs_right : HasM G 8 "_law_runs_right" ["bag"] m_law_runs_right) (h_law_book : HasM G 5 "_law_book" ["bag"] m_law_book) (h_law_paid_right : HasM G 9 "_law_paid_right" ["bag", "book"] m_law_paid_right) (h_law_turned : HasM G 4 "_law_turned" ["bag", "book"] m_law_turned) (h_law_bearers : HasM G 1 "_law_bearers" ["book"] m_law_bearers) (h_law_state : HasM G 2 "_law_state" ["bag", "book"] m_law_state) (h_law_losses : HasM G 1 "_law_losses" ["book"] m_law_losses) (h_law_bear : HasM G 2 "_law_bear" ["book", "state", "loss"] m_law_bear) (h_law_alike : HasM G 1 "_law_alike" ["found", "due"] m_law_alike) (h_first_unlike : HasM G 6 "first_unlike" ["book", "state", "other", "its"] m_first_unlike) (h_pays_so : HasM G 7 "pays_so" ["book", "state", "other", "its"] m_pays_so) (f : Addr) (cdv : Value) (A : Around) (outer : List Env) (s : Shared) (H : Hp) (E : XK) : ∃ ts, EvB G (cxM G N_law "law" s_law f cdv A outer s H E) (defBody s_law).tail ts b_law := by
  have S := sc_law
  exact ⟨_,
    (evb_cons (evs_for (evi_range1 ev_int B.range_) (evg_nm 2 S.nd) (evb_one (evs_if (evt_not (evt_tru (Ev.pk (ev_call h_law_runs_right fnM_len (eva_bag 1 eva_nil))))) (evb_one (evs_ret ev_bl)) evb_nil)))
    (evb_cons (evs_set 3 S.nd (Ev.x (ev_call h_law_book fnM_len (eva_bag 1 eva_nil))))
    (evb_cons (evs_for (evi_range1 ev_int B.range_) (evg_nm 2 S.nd) (evb_one (evs_if (evt_not (evt_tru (Ev.pk (ev_call h_law_paid_right fnM_len (eva_bag 1 (eva_v (ev_nm 3) eva_nil)))))) (evb_one (evs_ret ev_bl)) evb_nil)))
    (evb_cons (evs_set 4 S.nd (Ev.x (ev_call h_law_turned fnM_len (eva_bag 1 (eva_v (ev_nm 3) eva_nil)))))
    (evb_cons (evs_if (evt_cmp ops_ne opr_ne (Ev.pk (ev_call h_law_bearers fnM_len (eva_v (ev_nm 4) eva_nil))) (Ev.pk (ev_call h_law_bearers fnM_len (eva_v (ev_nm 3) eva_nil)))) (evb_one (evs_set 4 S.nd (Ev.x (ev_nm 3)))) evb_nil)
    (evb_cons (evs_asg (ev_tup (evl_cons (ev_call h_law_state fnM_len (eva_bag 1 (eva_v (ev_nm 3) eva_nil))) (evl_cons (ev_call h_law_state fnM_len (eva_bag 1 (eva_v (ev_nm 4) eva_nil))) evl_nil))) (evg_tup (n := 2) (evgs_cons (evg_nm 5 S.nd) (evgs_cons (evg_nm 6 S.nd) evgs_nil))))
    (evb_cons (evs_setLc 7 S.nd (evi_seq (ev_call h_law_losses fnM_len (eva_v (ev_nm 3) eva_nil))) (blkOk_by (own := [("loss", 8)]) (by kernel_rfl)) (fun _ _ _ _ _ => (evg_nm 8 S.nd)) (fun _ _ _ _ _ => (evf_one (evt_cmp ops_ne opr_ne (Ev.pk (ev_at (Ev.pk (ev_call h_law_bear fnM_len (eva_v (ev_nm 3) (eva_v (ev_nm 5) (eva_v (ev_nm 8) eva_nil))))) (Ev.pk ev_int))) (Ev.pk (ev_at (Ev.pk (ev_call h_law_bear fnM_len (eva_v (ev_nm 4) (eva_v (ev_nm 6) (eva_v (ev_nm 8) eva_nil))))) (Ev.pk ev_int)))))) (fun _ _ _ _ _ => (ev_nm 8)))
    (evb_one (evs_ret (ev_call h_law_alike fnM_len (eva_v (ev_lst (evl_cons (ev_call h_pays_so fnM_len (eva_v (ev_nm 3) (eva_v (ev_nm 5) (eva_v (ev_nm 4) (eva_v (ev_nm 6) eva_nil))))) (evl_cons (ev_call h_first_unlike fnM_len (eva_v (ev_nm 3) (eva_v (ev_nm 5) (eva_v (ev_nm 4) (eva_v (ev_nm 6) eva_nil))))) evl_nil))) (eva_v (ev_lst (evl_cons (ev_cmp ops_eq opr_eq (ev_pk 7) (Ev.pk (ev_lst evl_nil))) (evl_cons (ev_if (evt_cmp ops_ne opr_ne (ev_pk 7) (Ev.pk (ev_lst evl_nil))) (ev_at (ev_pk 7) (Ev.pk ev_int)) ev_non) evl_nil))) eva_nil))))))))))))⟩
def spLaw (K : PySem.W.Frag) : Sp := fun vs H Q _ => ∃ (a : Addr) (ns : List Int), vs = [.ref a] ∧ ns.length ≤ 63 ∧ SqL K H a (ns.map V.int) ∧ ∀ H', Q (.bl true) H'
theorem lw_at {i : Nat} {s : M.Slot} (e : (lwR .no .no .no .no .no .no)[i]? = some s) : s = .no ∨ (i = 1 ∧ s = .bag) := by
  match i, e with
  | 0, e => exact .inl (by simpa using e.symm)
  | 1, e => exact .inr ⟨rfl, by simpa using e.symm⟩
  | 2, e => exact .inl (by simpa using e.symm)
  | 3, e => exact .inl (by simpa using e.symm)
  | 4, e => exact .inl (by simpa using e.symm)
  | 5, e => exact .inl (by simpa using e.symm)
  | 6, e => exact .inl (by simpa using e.symm)
  | 7, e => exact .inl (by simpa using e.symm)
  | 8, e => exact .inl (by simpa using e.symm)
  | i + 9, e => simp at e
theorem rep_law {mg : Str → Option Value} {b : Addr} {H0 F H : Hp} (v : Option V) : Rep mg b H0 F H (lwR .no .no .no .no .no .no) [v, some (.ref b), none, none, none, none, none, none, none] := by
  refine ⟨rfl, fun i s e => ?_, fun i j s t a e1 e2 o1 o2 => ?_⟩
  · rcases lw_at e with h | ⟨rfl, rfl⟩
    · exact .inl h
    · exact .inr ⟨.ref b, rfl, rfl⟩
  · rcases lw_at e1 with rfl | ⟨_, rfl⟩
    · cases o1
    · cases o1
/-- the law's reading from its first statement on -/
theorem rd_law {mg : Str → Option Value} {K : PySem.W.Frag} {ts : TS} (sn : SndS mg ts b_law) {vs : List V} {H : Hp} {Q : VK} {E : XK} (h : spLaw K vs H Q E) :
    tSeq (tAsg (_root_.G.tFn (spBag K) (tCons (tVar 0) tNil)) (gName 1)) ts { nx := fun _ H' => Q .non H', rt := Q } (start N_law vs) H := by
  obtain ⟨a, ns, rfl, hl, hS, q⟩ := h
  refine ⟨_, rfl, a, ns, rfl, hl, hS, fun b c H' ms hml hbc hb hc => ?_⟩
  let F : Hp := fun x => if x = c then some (.lst (ms.map V.int)) else none
  have hF : Same F H' := fun x o e => by
    by_cases z : x = c
    · have e : (if x = c then some (HO.lst (ms.map V.int)) else none) = some o := e
      rw [if_pos z] at e
      cases e
      rw [z]; exact hc
    · have e : (if x = c then some (HO.lst (ms.map V.int)) else none) = some o := e
      rw [if_neg z] at e
      cases e
  let β : Bag := ⟨0, 1234567891, 0, ms, hml⟩
  have w : Wd b β F H' := ⟨hF, c, hb, if_neg hbc, if_pos rfl⟩
  obtain ⟨ρ', β', e⟩ := ev_law β
  refine sn b F H' F H' (lwR .no .no .no .no .no .no) β _ (.rt (.bool true)) ρ' β' _ w hF Stp.refl (rep_law (some (.ref a))) e fun F' H2 σ' w' s' f' r' => ?_
  intro u i
  cases i
  exact q H2
end K31
/-! the head -/
namespace K31
open PySem PySem.Spec PyProof.Rows L2 M
def d_is_integer : He.DefD := ⟨("is_integer", none), "is_integer", "is_integer", defArgs s_is_integer, defBody s_is_integer, defScope s_is_integer, [], []⟩
def d_is_within : He.DefD := ⟨("is_within", none), "is_within", "is_within", defArgs s_is_within, defBody s_is_within, defScope s_is_within, [], []⟩
def d_are_all : He.DefD := ⟨("are_all", none), "are_all", "are_all", defArgs s_are_all, defBody s_are_all, defScope s_are_all, [], []⟩
def d_are_integers : He.DefD := ⟨("are_integers", none), "are_integers", "are_integers", defArgs s_are_integers, defBody s_are_integers, defScope s_are_integers, [], []⟩
def d_is_tuple_of : He.DefD := ⟨("is_tuple_of", none), "is_tuple_of", "is_tuple_of", defArgs s_is_tuple_of, defBody s_is_tuple_of, defScope s_is_tuple_of, [], []⟩
def d_sort_of : He.DefD := ⟨("sort_of", none), "sort_of", "sort_of", defArgs s_sort_of, defBody s_sort_of, defScope s_sort_of, [], []⟩
def d_part_pairs : He.DefD := ⟨("part_pairs", none), "part_pairs", "part_pairs", defArgs s_part_pairs, defBody s_part_pairs, defScope s_part_pairs, [], []⟩
def d_are_same : He.DefD := ⟨("are_same", none), "are_same", "are_same", defArgs s_are_same, defBody s_are_same, defScope s_are_same, [], []⟩
def d_bearers : He.DefD := ⟨("bearers", none), "bearers", "bearers", defArgs s_bearers, defBody s_bearers, defScope s_bearers, [], []⟩
def d_losses_of : He.DefD := ⟨("losses_of", none), "losses_of", "losses_of", defArgs s_losses_of, defBody s_losses_of, defScope s_losses_of, [], []⟩
def d_most_used : He.DefD := ⟨("most_used", none), "most_used", "most_used", defArgs s_most_used, defBody s_most_used, defScope s_most_used, [], []⟩
def d_above : He.DefD := ⟨("above", none), "above", "above", defArgs s_above, defBody s_above, defScope s_above, [], []⟩
def d_taken : He.DefD := ⟨("taken", none), "taken", "taken", defArgs s_taken, defBody s_taken, defScope s_taken, [], []⟩
def d_all_of : He.DefD := ⟨("all_of", none), "all_of", "all_of", defArgs s_all_of, defBody s_all_of, defScope s_all_of, [], []⟩
def d_borne_one : He.DefD := ⟨("borne_one", none), "borne_one", "borne_one", defArgs s_borne_one, defBody s_borne_one, defScope s_borne_one, [], []⟩
def d_paid : He.DefD := ⟨("paid", none), "paid", "paid", defArgs s_paid, defBody s_paid, defScope s_paid, [], []⟩
def d_behind : He.DefD := ⟨("behind", none), "behind", "behind", defArgs s_behind, defBody s_behind, defScope s_behind, [], []⟩
def d_step_between : He.DefD := ⟨("step_between", none), "step_between", "step_between", defArgs s_step_between, defBody s_step_between, defScope s_step_between, [], []⟩
def d_with_steps : He.DefD := ⟨("with_steps", none), "with_steps", "with_steps", defArgs s_with_steps, defBody s_with_steps, defScope s_with_steps, [], []⟩
def d_piece_from : He.DefD := ⟨("piece_from", none), "piece_from", "piece_from", defArgs s_piece_from, defBody s_piece_from, defScope s_piece_from, [], []⟩
def d_pieces_of : He.DefD := ⟨("pieces_of", none), "pieces_of", "pieces_of", defArgs s_pieces_of, defBody s_pieces_of, defScope s_pieces_of, [], []⟩
def d_members_of : He.DefD := ⟨("members_of", none), "members_of", "members_of", defArgs s_members_of, defBody s_members_of, defScope s_members_of, [], []⟩
def d_row_of : He.DefD := ⟨("row_of", none), "row_of", "row_of", defArgs s_row_of, defBody s_row_of, defScope s_row_of, [], []⟩
def d_member_at : He.DefD := ⟨("member_at", none), "member_at", "member_at", defArgs s_member_at, defBody s_member_at, defScope s_member_at, [], []⟩
def d_is_piece : He.DefD := ⟨("is_piece", none), "is_piece", "is_piece", defArgs s_is_piece, defBody s_is_piece, defScope s_is_piece, [], []⟩
def d_are_pieces : He.DefD := ⟨("are_pieces", none), "are_pieces", "are_pieces", defArgs s_are_pieces, defBody s_are_pieces, defScope s_are_pieces, [], []⟩
def d_turns_of : He.DefD := ⟨("turns_of", none), "turns_of", "turns_of", defArgs s_turns_of, defBody s_turns_of, defScope s_turns_of, [], []⟩
def d_cut : He.DefD := ⟨("cut", none), "cut", "cut", defArgs s_cut, defBody s_cut, defScope s_cut, [], []⟩
def d_joined : He.DefD := ⟨("joined", none), "joined", "joined", defArgs s_joined, defBody s_joined, defScope s_joined, [], []⟩
def d_added : He.DefD := ⟨("added", none), "added", "added", defArgs s_added, defBody s_added, defScope s_added, [], []⟩
def d_column : He.DefD := ⟨("column", none), "column", "column", defArgs s_column, defBody s_column, defScope s_column, [], []⟩
def d_paid_pieces : He.DefD := ⟨("paid_pieces", none), "paid_pieces", "paid_pieces", defArgs s_paid_pieces, defBody s_paid_pieces, defScope s_paid_pieces, [], []⟩
def d_used_pieces : He.DefD := ⟨("used_pieces", none), "used_pieces", "used_pieces", defArgs s_used_pieces, defBody s_used_pieces, defScope s_used_pieces, [], []⟩
def d_paid_by : He.DefD := ⟨("paid_by", none), "paid_by", "paid_by", defArgs s_paid_by, defBody s_paid_by, defScope s_paid_by, [], []⟩
def d_borne_by : He.DefD := ⟨("borne_by", none), "borne_by", "borne_by", defArgs s_borne_by, defBody s_borne_by, defScope s_borne_by, [], []⟩
def d_steady_from : He.DefD := ⟨("steady_from", none), "steady_from", "steady_from", defArgs s_steady_from, defBody s_steady_from, defScope s_steady_from, [], []⟩
def d_all_borne : He.DefD := ⟨("all_borne", none), "all_borne", "all_borne", defArgs s_all_borne, defBody s_all_borne, defScope s_all_borne, [], []⟩
def d_least_size : He.DefD := ⟨("least_size", none), "least_size", "least_size", defArgs s_least_size, defBody s_least_size, defScope s_least_size, [], []⟩
def d_most_borne : He.DefD := ⟨("most_borne", none), "most_borne", "most_borne", defArgs s_most_borne, defBody s_most_borne, defScope s_most_borne, [], []⟩
def d_sizes_borne : He.DefD := ⟨("sizes_borne", none), "sizes_borne", "sizes_borne", defArgs s_sizes_borne, defBody s_sizes_borne, defScope s_sizes_borne, [], []⟩
def d_pays_so : He.DefD := ⟨("pays_so", none), "pays_so", "pays_so", defArgs s_pays_so, defBody s_pays_so, defScope s_pays_so, [], []⟩
def d_first_unlike : He.DefD := ⟨("first_unlike", none), "first_unlike", "first_unlike", defArgs s_first_unlike, defBody s_first_unlike, defScope s_first_unlike, [], []⟩
def d_law_bag : He.DefD := ⟨("_law_bag", none), "_law_bag", "_law_bag", defArgs s_law_bag, defBody s_law_bag, defScope s_law_bag, [], []⟩
def d_law_take : He.DefD := ⟨("_law_take", none), "_law_take", "_law_take", defArgs s_law_take, defBody s_law_take, defScope s_law_take, [], []⟩
def d_law_some : He.DefD := ⟨("_law_some", none), "_law_some", "_law_some", defArgs s_law_some, defBody s_law_some, defScope s_law_some, [], []⟩
def d_law_is_int : He.DefD := ⟨("_law_is_int", none), "_law_is_int", "_law_is_int", defArgs s_law_is_int, defBody s_law_is_int, defScope s_law_is_int, [], []⟩
def d_law_alike : He.DefD := ⟨("_law_alike", none), "_law_alike", "_law_alike", defArgs s_law_alike, defBody s_law_alike, defScope s_law_alike, [], []⟩
def d_law_odd : He.DefD := ⟨("_law_odd", none), "_law_odd", "_law_odd", defArgs s_law_odd, defBody s_law_odd, defScope s_law_odd, [], []⟩
def d_law_bent : He.DefD := ⟨("_law_bent", none), "_law_bent", "_law_bent", defArgs s_law_bent, defBody s_law_bent, defScope s_law_bent, [], []⟩
def d_law_bearers : He.DefD := ⟨("_law_bearers", none), "_law_bearers", "_law_bearers", defArgs s_law_bearers, defBody s_law_bearers, defScope s_law_bearers, [], []⟩
def d_law_most_used : He.DefD := ⟨("_law_most_used", none), "_law_most_used", "_law_most_used", defArgs s_law_most_used, defBody s_law_most_used, defScope s_law_most_used, [], []⟩
def d_law_bear : He.DefD := ⟨("_law_bear", none), "_law_bear", "_law_bear", defArgs s_law_bear, defBody s_law_bear, defScope s_law_bear, [], []⟩
def d_law_first : He.DefD := ⟨("_law_first", none), "_law_first", "_law_first", defArgs s_law_first, defBody s_law_first, defScope s_law_first, [], []⟩
def d_law_losses : He.DefD := ⟨("_law_losses", none), "_law_losses", "_law_losses", defArgs s_law_losses, defBody s_law_losses, defScope s_law_losses, [], []⟩
def d_law_met : He.DefD := ⟨("_law_met", none), "_law_met", "_law_met", defArgs s_law_met, defBody s_law_met, defScope s_law_met, [], []⟩
def d_law_treaty : He.DefD := ⟨("_law_treaty", none), "_law_treaty", "_law_treaty", defArgs s_law_treaty, defBody s_law_treaty, defScope s_law_treaty, [], []⟩
def d_law_treaties : He.DefD := ⟨("_law_treaties", none), "_law_treaties", "_law_treaties", defArgs s_law_treaties, defBody s_law_treaties, defScope s_law_treaties, [], []⟩
def d_law_book : He.DefD := ⟨("_law_book", none), "_law_book", "_law_book", defArgs s_law_book, defBody s_law_book, defScope s_law_book, [], []⟩
def d_law_turned : He.DefD := ⟨("_law_turned", none), "_law_turned", "_law_turned", defArgs s_law_turned, defBody s_law_turned, defScope s_law_turned, [], []⟩
def d_law_step : He.DefD := ⟨("_law_step", none), "_law_step", "_law_step", defArgs s_law_step, defBody s_law_step, defScope s_law_step, [], []⟩
def d_law_pieces : He.DefD := ⟨("_law_pieces", none), "_law_pieces", "_law_pieces", defArgs s_law_pieces, defBody s_law_pieces, defScope s_law_pieces, [], []⟩
def d_law_row : He.DefD := ⟨("_law_row", none), "_law_row", "_law_row", defArgs s_law_row, defBody s_law_row, defScope s_law_row, [], []⟩
def d_law_is_pieces : He.DefD := ⟨("_law_is_pieces", none), "_law_is_pieces", "_law_is_pieces", defArgs s_law_is_pieces, defBody s_law_is_pieces, defScope s_law_is_pieces, [], []⟩
def d_law_runs_right : He.DefD := ⟨("_law_runs_right", none), "_law_runs_right", "_law_runs_right", defArgs s_law_runs_right, defBody s_law_runs_right, defScope s_law_runs_right, [], []⟩
def d_law_state : He.DefD := ⟨("_law_state", none), "_law_state", "_law_state", defArgs s_law_state, defBody s_law_state, defScope s_law_state, [], []⟩
def d_law_paid_right : He.DefD := ⟨("_law_paid_right", none), "_law_paid_right", "_law_paid_right", defArgs s_law_paid_right, defBody s_law_paid_right, defScope s_law_paid_right, [], []⟩
def d_law : He.DefD := ⟨("law", none), "law", "law", defArgs s_law, defBody s_law, defScope s_law, [], []⟩
def fnL : List He.DefD := [d_is_integer, d_is_within, d_are_all, d_are_integers, d_is_tuple_of, d_sort_of, d_part_pairs, d_are_same, d_bearers, d_losses_of, d_most_used, d_above, d_taken, d_all_of, d_borne_one, d_paid, d_behind, d_step_between, d_with_steps, d_piece_from, d_pieces_of, d_members_of, d_row_of, d_member_at, d_is_piece, d_are_pieces, d_turns_of, d_cut, d_joined, d_added, d_column, d_paid_pieces, d_used_pieces, d_paid_by, d_borne_by, d_steady_from, d_all_borne, d_least_size, d_most_borne, d_sizes_borne, d_pays_so, d_first_unlike, d_law_bag, d_law_take, d_law_some, d_law_is_int, d_law_alike, d_law_odd, d_law_bent, d_law_bearers, d_law_most_used, d_law_bear, d_law_first, d_law_losses, d_law_met, d_law_treaty, d_law_treaties, d_law_book, d_law_turned, d_law_step, d_law_pieces, d_law_row, d_law_is_pieces, d_law_runs_right, d_law_state, d_law_paid_right, d_law]
def faL : List He.Fa := [.glo "is_integer", .glo "is_within", .glo "are_all", .glo "are_integers", .glo "is_tuple_of", .glo "sort_of", .glo "part_pairs", .glo "are_same", .glo "bearers", .glo "losses_of", .glo "most_used", .glo "above", .glo "taken", .glo "all_of", .glo "borne_one", .glo "paid", .glo "behind", .glo "step_between", .glo "with_steps", .glo "piece_from", .glo "pieces_of", .glo "members_of", .glo "row_of", .glo "member_at", .glo "is_piece", .glo "are_pieces", .glo "turns_of", .glo "cut", .glo "joined", .glo "added", .glo "column", .glo "paid_pieces", .glo "used_pieces", .glo "paid_by", .glo "borne_by", .glo "steady_from", .glo "all_borne", .glo "least_size", .glo "most_borne", .glo "sizes_borne", .glo "pays_so", .glo "first_unlike", .glo "_law_bag", .glo "_law_take", .glo "_law_some", .glo "_law_is_int", .glo "_law_alike", .glo "_law_odd", .glo "_law_bent", .glo "_law_bearers", .glo "_law_most_used", .glo "_law_bear", .glo "_law_first", .glo "_law_losses", .glo "_law_met", .glo "_law_treaty", .glo "_law_treaties", .glo "_law_book", .glo "_law_turned", .glo "_law_step", .glo "_law_pieces", .glo "_law_row", .glo "_law_is_pieces", .glo "_law_runs_right", .glo "_law_state", .glo "_law_paid_right", .glo "law", .free "abs", .free "all", .free "bool", .free "dict", .free "enumerate", .free "int", .free "isinstance", .free "len", .free "list", .free "max", .free "min", .free "range", .free "str", .free "tuple", .free "zip", .str "OWN" "own", .str "LAYER" "layer", .str "STOP" "stop", .int "FOUR" (4), .int "LOW" (0), .int "HIGH" (1), .int "FIRST" (2), .int "STEP" (3), .int "MOST_INDEX" (65535), .int "KINDS" (1), .int "MOST" (2)]
def names0 : List PySem.Str := ["is_integer", "is_within", "are_all", "are_integers", "is_tuple_of", "sort_of", "part_pairs", "are_same", "OWN", "LAYER", "STOP", "bearers", "losses_of", "most_used", "above", "taken", "all_of", "borne_one", "paid", "behind", "FOUR", "LOW", "HIGH", "FIRST", "STEP", "MOST_INDEX", "step_between", "with_steps", "piece_from", "pieces_of"]
def names1 : List PySem.Str := ["members_of", "row_of", "member_at", "is_piece", "are_pieces", "turns_of", "cut", "joined", "added", "column", "KINDS", "MOST", "paid_pieces", "used_pieces", "paid_by", "borne_by", "steady_from", "all_borne", "least_size", "most_borne", "sizes_borne", "pays_so", "first_unlike", "_law_bag", "_law_take", "_law_some", "_law_is_int", "_law_alike", "_law_odd", "_law_bent"]
def names2 : List PySem.Str := ["_law_bearers", "_law_most_used", "_law_bear", "_law_first", "_law_losses", "_law_met", "_law_treaty", "_law_treaties", "_law_book", "_law_turned", "_law_step", "_law_pieces", "_law_row", "_law_is_pieces", "_law_runs_right", "_law_state", "_law_paid_right"]
def namesL : List PySem.Str := names0 ++ names1 ++ names2
abbrev RL : PySem.W.OpenRow := PySem.W.OpenLaw.row PySem.Challenge.rw_coverhall_k31_pieces_of_what_is_paid
abbrev hkL : PySem.W.Hook := He.hookD 4 faL fnL
def obL (s : PySem.W.SharedT) : He.AlD := He.obsDG 4 faL fnL (HandSHeadRun.getT s)
theorem obL_eq (s : PySem.W.SharedT) : obL s = hkL.obs s.abs := He.obsDG_eq (HandSHeadRun.getT_eq s)
theorem runL (w : World) : HandSHeadRun.RunEq RL (PySem.W.view RL.prog [83]) hkL obL 6000 namesL w := by
  intro os
  kernel_rfl
end K31
namespace K31
open PySem PySem.Spec PyProof.Rows L2 M
def gx (P : Program) (w : World) (K : PySem.W.Frag) (mg : Str → Option Value) (base : Heap) (lv : Nat) : Gx := ⟨P, w, K, mg, base, lv⟩
theorem at_of {K : PySem.W.Frag} {h : Heap} {mg : Str → Option Value} (X : K.In h) (G : h.Ns mainGlobals mg) (c : He.SaysD faL fnL K) (i : Nat) {x : Str} {st : Stmt} (hd : fnL[i]? = some ⟨(x, none), x, x, defArgs st, defBody st, defScope st, [], []⟩) (hf : faL[i]? = some (.glo x)) : ∃ f fd, _root_.G.At K mg x st f fd := by
  obtain ⟨fd, F⟩ := c.def_ i hd
  exact ⟨_, fd, F, He.glo_ok X G (c.fact i hf)⟩
theorem bi_of {K : PySem.W.Frag} {h : Heap} {mg : Str → Option Value} (X : K.In h) (G : h.Ns mainGlobals mg) (c : He.SaysD faL fnL K) : Bi mg := ⟨He.free_ok X G (c.fact 67 (f := .free "abs") rfl), He.free_ok X G (c.fact 68 (f := .free "all") rfl), He.free_ok X G (c.fact 69 (f := .free "bool") rfl), He.free_ok X G (c.fact 70 (f := .free "dict") rfl), He.free_ok X G (c.fact 71 (f := .free "enumerate") rfl), He.free_ok X G (c.fact 72 (f := .free "int") rfl), He.free_ok X G (c.fact 73 (f := .free "isinstance") rfl), He.free_ok X G (c.fact 74 (f := .free "len") rfl), He.free_ok X G (c.fact 75 (f := .free "list") rfl), He.free_ok X G (c.fact 76 (f := .free "max") rfl), He.free_ok X G (c.fact 77 (f := .free "min") rfl), He.free_ok X G (c.fact 78 (f := .free "range") rfl), He.free_ok X G (c.fact 79 (f := .free "str") rfl), He.free_ok X G (c.fact 80 (f := .free "tuple") rfl), He.free_ok X G (c.fact 81 (f := .free "zip") rfl)⟩
theorem cs_of {K : PySem.W.Frag} {h : Heap} {mg : Str → Option Value} (X : K.In h) (G : h.Ns mainGlobals mg) (c : He.SaysD faL fnL K) : Cs mg := ⟨He.str_ok X G (c.fact 82 (f := .str "OWN" "own") rfl), He.str_ok X G (c.fact 83 (f := .str "LAYER" "layer") rfl), He.str_ok X G (c.fact 84 (f := .str "STOP" "stop") rfl), He.int_ok X G (c.fact 85 (f := .int "FOUR" (4)) rfl), He.int_ok X G (c.fact 86 (f := .int "LOW" (0)) rfl), He.int_ok X G (c.fact 87 (f := .int "HIGH" (1)) rfl), He.int_ok X G (c.fact 88 (f := .int "FIRST" (2)) rfl), He.int_ok X G (c.fact 89 (f := .int "STEP" (3)) rfl), He.int_ok X G (c.fact 90 (f := .int "MOST_INDEX" (65535)) rfl), He.int_ok X G (c.fact 91 (f := .int "KINDS" (1)) rfl), He.int_ok X G (c.fact 92 (f := .int "MOST" (2)) rfl)⟩
theorem hasF_bearers (G : Gx) (hlv : G.lv = 0) (B : Bi G.mg) (C : Cs G.mg) (F : ∃ f fd, _root_.G.At G.K G.mg "bearers" s_bearers f fd) : HasR G tfR 1 "bearers" ["book"] m_bearers := by
  have S := sc_bearers
  have h := has_retR (G := G) (R := tfR) (nl := 2) F S rfl rfl (fun _ _ _ _ _ _ us hl => match us, hl with | [_], _ => rfl) (fun f cdv A outer s H E => ⟨_,
    (ev_tupKF B.tuple_ (evk_dc S.nd (evi_seq (ev_lst (evl_cons (ev_gstrE C.OWN) (evl_star (Ev.pk (EvN.ev (evn_lc S.nd (evi_seq (ev_at (ev_pk 0) (Ev.pk ev_int))) (blkOk_by (own := [("treaty", 2)]) (by kernel_rfl)) (fun _ _ _ _ _ => (evg_nm 2 S.nd)) (fun _ _ _ _ _ => evf_nil) (fun _ _ _ _ _ => (ev_at (ev_pk 2) (Ev.pk ev_int)))))) evl_nil)))) (blkOk_by (own := [("name", 1)]) (by kernel_rfl)) (fun _ _ _ _ _ => (evg_nm 1 S.nd)) (fun _ _ _ _ _ => evf_nil) (fun _ _ _ _ _ => (ev_nm 1)) (fun _ _ _ _ _ => ev_bl)))⟩)
  rw [hlv] at h
  exact h
set_option maxHeartbeats 8000000 in
theorem factsL {P : Program} {w : World} {K : PySem.W.Frag} {h : Heap} {mg : Str → Option Value} {f : Addr} (X : K.In h) (G : h.Ns mainGlobals mg) (hfa : mg ("law" : Str) = some (.ref f)) (c : He.SaysD faL fnL K) :
    ∃ fd : FuncData, (∀ (s : Shared) (v : Value), BindsTo s fd ⟨[v], []⟩ [("script", v)]) ∧ ∀ base : Heap, K.In base → base.Ns mainGlobals mg → FnOk P w K mg base CX0 10 f fd ["script"] (spLaw K) := by
  obtain ⟨fd, F⟩ := c.def_ 66 (d := d_law) rfl
  have e := hfa.symm.trans (He.glo_ok X G (c.fact 66 (f := .glo "law") rfl))
  cases e
  have b := FunD.bindsA (ps := ["script"]) F fun _ _ _ _ _ _ us hl => match us, hl with | [_], _ => rfl
  refine ⟨fd, fun s v => b s [v] rfl, fun base _ _ => ?_⟩
  have B : Bi mg := bi_of X G c
  have C : Cs mg := cs_of X G c
  have h_is_integer : HasM (gx P w K mg base 0) 1 "is_integer" ["thing"] m_is_integer := has_is_integer (gx P w K mg base 0) rfl B C  (at_of X G c 0 rfl rfl)
  have h_is_tuple_of : HasM (gx P w K mg base 0) 1 "is_tuple_of" ["thing", "many"] m_is_tuple_of := has_is_tuple_of (gx P w K mg base 0) rfl B C  (at_of X G c 4 rfl rfl)
  have h_sort_of : HasM (gx P w K mg base 0) 1 "sort_of" ["thing"] m_sort_of := has_sort_of (gx P w K mg base 0) rfl B C  (at_of X G c 5 rfl rfl)
  have h_part_pairs : HasM (gx P w K mg base 0) 1 "part_pairs" ["one", "other"] m_part_pairs := has_part_pairs (gx P w K mg base 0) rfl B C  (at_of X G c 6 rfl rfl)
  have h_bearers : HasM (gx P w K mg base 0) 1 "bearers" ["book"] m_bearers := has_bearers (gx P w K mg base 0) rfl B C  (at_of X G c 8 rfl rfl)
  have hF_bearers : HasR (gx P w K mg base 0) tfR 1 "bearers" ["book"] m_bearers := hasF_bearers (gx P w K mg base 0) rfl B C (at_of X G c 8 rfl rfl)
  have h_losses_of : HasM (gx P w K mg base 0) 1 "losses_of" ["book"] m_losses_of := has_losses_of (gx P w K mg base 0) rfl B C  (at_of X G c 9 rfl rfl)
  have h_most_used : HasM (gx P w K mg base 0) 1 "most_used" ["treaty"] m_most_used := has_most_used (gx P w K mg base 0) rfl B C  (at_of X G c 10 rfl rfl)
  have h_above : HasM (gx P w K mg base 0) 1 "above" ["treaty", "sum_borne"] m_above := has_above (gx P w K mg base 0) rfl B C  (at_of X G c 11 rfl rfl)
  have h_step_between : HasM (gx P w K mg base 0) 1 "step_between" ["one", "other"] m_step_between := has_step_between (gx P w K mg base 0) rfl B C  (at_of X G c 17 rfl rfl)
  have h_with_steps : HasM (gx P w K mg base 0) 1 "with_steps" ["first", "step", "many"] m_with_steps := has_with_steps (gx P w K mg base 0) rfl B C  (at_of X G c 18 rfl rfl)
  have h_turns_of : HasM (gx P w K mg base 0) 1 "turns_of" ["pieces"] m_turns_of := has_turns_of (gx P w K mg base 0) rfl B C  (at_of X G c 26 rfl rfl)
  have h_law_take : HasM (gx P w K mg base 0) 1 "_law_take" ["bag", "many"] m_law_take := has_law_take (gx P w K mg base 0) rfl B C  (at_of X G c 43 rfl rfl)
  have h_law_is_int : HasM (gx P w K mg base 0) 1 "_law_is_int" ["thing"] m_law_is_int := has_law_is_int (gx P w K mg base 0) rfl B C  (at_of X G c 45 rfl rfl)
  have h_law_alike : HasM (gx P w K mg base 0) 1 "_law_alike" ["found", "due"] m_law_alike := has_law_alike (gx P w K mg base 0) rfl B C  (at_of X G c 46 rfl rfl)
  have h_law_bearers : HasM (gx P w K mg base 0) 1 "_law_bearers" ["book"] m_law_bearers := has_law_bearers (gx P w K mg base 0) rfl B C  (at_of X G c 49 rfl rfl)
  have h_law_most_used : HasM (gx P w K mg base 0) 1 "_law_most_used" ["treaty"] m_law_most_used := has_law_most_used (gx P w K mg base 0) rfl B C  (at_of X G c 50 rfl rfl)
  have h_law_first : HasM (gx P w K mg base 0) 1 "_law_first" ["book"] m_law_first := has_law_first (gx P w K mg base 0) rfl B C  (at_of X G c 52 rfl rfl)
  have h_law_losses : HasM (gx P w K mg base 0) 1 "_law_losses" ["book"] m_law_losses := has_law_losses (gx P w K mg base 0) rfl B C  (at_of X G c 53 rfl rfl)
  have h_law_step : HasM (gx P w K mg base 0) 1 "_law_step" ["one", "other"] m_law_step := has_law_step (gx P w K mg base 0) rfl B C  (at_of X G c 59 rfl rfl)
  have h_is_within : HasM (gx P w K mg base 1) 2 "is_within" ["thing", "least", "most"] m_is_within := has_is_within (gx P w K mg base 1) rfl B C h_is_integer (at_of X G c 1 rfl rfl)
  have h_are_all : HasM (gx P w K mg base 1) 2 "are_all" ["thing", "fits"] m_are_all := has_are_all (gx P w K mg base 1) rfl B C h_is_integer (at_of X G c 2 rfl rfl)
  have h_are_same : HasM (gx P w K mg base 1) 2 "are_same" ["one", "other"] m_are_same := has_are_same (gx P w K mg base 1) rfl B C h_sort_of h_part_pairs (at_of X G c 7 rfl rfl)
  have h_taken : HasM (gx P w K mg base 1) 2 "taken" ["treaty", "used", "bears"] m_taken := has_taken (gx P w K mg base 1) rfl B C h_most_used h_above (at_of X G c 12 rfl rfl)
  have h_piece_from : HasM (gx P w K mg base 1) 2 "piece_from" ["row", "low"] m_piece_from := has_piece_from (gx P w K mg base 1) rfl B C h_step_between (at_of X G c 19 rfl rfl)
  have h_members_of : HasM (gx P w K mg base 1) 2 "members_of" ["piece"] m_members_of := has_members_of (gx P w K mg base 1) rfl B C h_with_steps (at_of X G c 21 rfl rfl)
  have h_member_at : HasM (gx P w K mg base 1) 2 "member_at" ["pieces", "index"] m_member_at := has_member_at (gx P w K mg base 1) rfl B C h_with_steps (at_of X G c 23 rfl rfl)
  have h_law_some : HasM (gx P w K mg base 1) 2 "_law_some" ["bag", "things"] m_law_some := has_law_some (gx P w K mg base 1) rfl B C h_law_take (at_of X G c 44 rfl rfl)
  have h_law_bear : HasM (gx P w K mg base 1) 2 "_law_bear" ["book", "state", "loss"] m_law_bear := has_law_bear (gx P w K mg base 1) rfl B C h_law_bearers (at_of X G c 51 rfl rfl)
  have h_law_pieces : HasM (gx P w K mg base 1) 2 "_law_pieces" ["row"] m_law_pieces := has_law_pieces (gx P w K mg base 1) rfl B C h_law_step (at_of X G c 60 rfl rfl)
  have h_law_state : HasM (gx P w K mg base 1) 2 "_law_state" ["bag", "book"] m_law_state := has_law_state (gx P w K mg base 1) rfl B C h_law_take h_law_most_used (at_of X G c 64 rfl rfl)
  have h_are_integers : HasM (gx P w K mg base 2) 3 "are_integers" ["thing"] m_are_integers := has_are_integers (gx P w K mg base 2) rfl B C h_are_all h_is_integer (at_of X G c 3 rfl rfl)
  have h_all_of : HasM (gx P w K mg base 2) 3 "all_of" ["book", "state", "loss"] m_all_of := has_all_of (gx P w K mg base 2) rfl B C h_bearers h_taken (at_of X G c 13 rfl rfl)
  have h_pieces_of : HasM (gx P w K mg base 2) 3 "pieces_of" ["row"] m_pieces_of := has_pieces_of (gx P w K mg base 2) rfl B C h_piece_from (at_of X G c 20 rfl rfl)
  have h_row_of : HasM (gx P w K mg base 2) 3 "row_of" ["pieces"] m_row_of := has_row_of (gx P w K mg base 2) rfl B C h_members_of (at_of X G c 22 rfl rfl)
  have h_paid_by : HasM (gx P w K mg base 2) 3 "paid_by" ["book", "pieces", "size"] m_paid_by := has_paid_by (gx P w K mg base 2) rfl B C h_member_at (at_of X G c 33 rfl rfl)
  have h_law_odd : HasM (gx P w K mg base 2) 3 "_law_odd" ["bag"] m_law_odd := has_law_odd (gx P w K mg base 2) rfl B C h_law_some (at_of X G c 47 rfl rfl)
  have h_law_met : HasM (gx P w K mg base 2) 3 "_law_met" ["book", "most"] m_law_met := has_law_met (gx P w K mg base 2) rfl B C h_law_first h_law_losses h_law_bear (at_of X G c 54 rfl rfl)
  have h_law_treaty : HasM (gx P w K mg base 2) 3 "_law_treaty" ["bag", "name", "party", "sources", "kinds"] m_law_treaty := has_law_treaty (gx P w K mg base 2) rfl B C h_law_some h_law_take (at_of X G c 55 rfl rfl)
  have h_law_row : HasM (gx P w K mg base 2) 3 "_law_row" ["bag", "many"] m_law_row := has_law_row (gx P w K mg base 2) rfl B C h_law_take h_law_some (at_of X G c 61 rfl rfl)
  have h_law_is_pieces : HasM (gx P w K mg base 2) 3 "_law_is_pieces" ["thing"] m_law_is_pieces := has_law_is_pieces (gx P w K mg base 2) rfl B C h_law_is_int h_law_alike h_law_pieces (at_of X G c 62 rfl rfl)
  have h_borne_one : HasM (gx P w K mg base 3) 4 "borne_one" ["book", "state", "loss"] m_borne_one := has_borne_one (gx P w K mg base 3) rfl B C h_all_of (at_of X G c 14 rfl rfl)
  have h_is_piece : HasM (gx P w K mg base 3) 4 "is_piece" ["thing", "many"] m_is_piece := has_is_piece (gx P w K mg base 3) rfl B C h_is_within h_is_tuple_of h_are_integers (at_of X G c 24 rfl rfl)
  have h_cut : HasM (gx P w K mg base 3) 4 "cut" ["pieces", "low", "high"] m_cut := has_cut (gx P w K mg base 3) rfl B C h_pieces_of h_row_of (at_of X G c 27 rfl rfl)
  have h_joined : HasM (gx P w K mg base 3) 4 "joined" ["one", "other"] m_joined := has_joined (gx P w K mg base 3) rfl B C h_pieces_of h_row_of (at_of X G c 28 rfl rfl)
  have h_added : HasM (gx P w K mg base 3) 4 "added" ["one", "other"] m_added := has_added (gx P w K mg base 3) rfl B C h_row_of h_with_steps h_pieces_of (at_of X G c 29 rfl rfl)
  have h_column : HasM (gx P w K mg base 3) 4 "column" ["pieces", "at"] m_column := has_column (gx P w K mg base 3) rfl B C h_pieces_of h_row_of (at_of X G c 30 rfl rfl)
  have h_law_treaties : HasM (gx P w K mg base 3) 4 "_law_treaties" ["bag", "kinds", "many"] m_law_treaties := has_law_treaties (gx P w K mg base 3) rfl B C h_law_some h_law_treaty (at_of X G c 56 rfl rfl)
  have h_law_turned : HasM (gx P w K mg base 3) 4 "_law_turned" ["bag", "book"] m_law_turned := has_law_turned (gx P w K mg base 3) rfl B C h_law_take h_law_treaty h_law_some h_law_met (at_of X G c 58 rfl rfl)
  have h_paid : HasM (gx P w K mg base 4) 5 "paid" ["book", "state", "loss"] m_paid := has_paid (gx P w K mg base 4) rfl B C h_borne_one (at_of X G c 15 rfl rfl)
  have h_behind : HasM (gx P w K mg base 4) 5 "behind" ["book", "state", "loss"] m_behind := has_behind (gx P w K mg base 4) rfl B C h_borne_one (at_of X G c 16 rfl rfl)
  have h_are_pieces : HasM (gx P w K mg base 4) 5 "are_pieces" ["thing"] m_are_pieces := has_are_pieces (gx P w K mg base 4) rfl B C h_is_tuple_of h_is_piece h_are_same h_pieces_of h_row_of (at_of X G c 25 rfl rfl)
  have h_borne_by : HasM (gx P w K mg base 4) 5 "borne_by" ["book", "pieces", "party"] m_borne_by := has_borne_by (gx P w K mg base 4) rfl B C h_column hF_bearers (at_of X G c 34 rfl rfl)
  have h_law_book : HasM (gx P w K mg base 4) 5 "_law_book" ["bag"] m_law_book := has_law_book (gx P w K mg base 4) rfl B C h_law_take h_law_treaties h_law_met (at_of X G c 57 rfl rfl)
  have h_paid_pieces : HasM (gx P w K mg base 5) 6 "paid_pieces" ["book", "state", "kind"] m_paid_pieces := has_paid_pieces (gx P w K mg base 5) rfl B C h_pieces_of h_paid (at_of X G c 31 rfl rfl)
  have h_used_pieces : HasM (gx P w K mg base 5) 6 "used_pieces" ["book", "state", "kind"] m_used_pieces := has_used_pieces (gx P w K mg base 5) rfl B C h_pieces_of h_behind (at_of X G c 32 rfl rfl)
  have h_first_unlike : HasM (gx P w K mg base 5) 6 "first_unlike" ["book", "state", "other", "its"] m_first_unlike := has_first_unlike (gx P w K mg base 5) rfl B C h_losses_of h_paid (at_of X G c 41 rfl rfl)
  have h_steady_from : HasM (gx P w K mg base 6) 7 "steady_from" ["book", "state", "kind"] m_steady_from := has_steady_from (gx P w K mg base 6) rfl B C h_paid_pieces (at_of X G c 35 rfl rfl)
  have h_all_borne : HasM (gx P w K mg base 6) 7 "all_borne" ["book", "state", "kind", "party"] m_all_borne := has_all_borne (gx P w K mg base 6) rfl B C h_row_of h_paid_pieces hF_bearers (at_of X G c 36 rfl rfl)
  have h_pays_so : HasM (gx P w K mg base 6) 7 "pays_so" ["book", "state", "other", "its"] m_pays_so := has_pays_so (gx P w K mg base 6) rfl B C h_paid_pieces (at_of X G c 40 rfl rfl)
  have h_law_bent0 : HasM (gx P w K mg base 2) 3 "_law_bent" ["bag", "thing", "depth"] (m_law_bent 0) := has_none 2 (at_of X G c 48 rfl rfl) sc_law_bent (fun _ _ _ _ _ _ us hl => match us, hl with | [_, _, _], _ => rfl)
  have h_law_bent1 : HasM (gx P w K mg base 3) 4 "_law_bent" ["bag", "thing", "depth"] (m_law_bent 1) := has_law_bent (gx P w K mg base 3) 0 rfl B C h_law_take h_law_some h_law_odd (at_of X G c 48 rfl rfl) h_law_bent0
  have h_law_bent2 : HasM (gx P w K mg base 4) 5 "_law_bent" ["bag", "thing", "depth"] (m_law_bent 2) := has_law_bent (gx P w K mg base 4) 1 rfl B C h_law_take h_law_some h_law_odd (at_of X G c 48 rfl rfl) h_law_bent1
  have h_law_bent3 : HasM (gx P w K mg base 5) 6 "_law_bent" ["bag", "thing", "depth"] (m_law_bent 3) := has_law_bent (gx P w K mg base 5) 2 rfl B C h_law_take h_law_some h_law_odd (at_of X G c 48 rfl rfl) h_law_bent2
  have h_law_bent4 : HasM (gx P w K mg base 6) 7 "_law_bent" ["bag", "thing", "depth"] (m_law_bent 4) := has_law_bent (gx P w K mg base 6) 3 rfl B C h_law_take h_law_some h_law_odd (at_of X G c 48 rfl rfl) h_law_bent3
  have h_law_bent := h_law_bent4
  have h_least_size : HasM (gx P w K mg base 7) 8 "least_size" ["book", "state", "kind", "party"] m_least_size := has_least_size (gx P w K mg base 7) rfl B C h_all_borne (at_of X G c 37 rfl rfl)
  have h_most_borne : HasM (gx P w K mg base 7) 8 "most_borne" ["book", "state", "kind", "party"] m_most_borne := has_most_borne (gx P w K mg base 7) rfl B C h_all_borne (at_of X G c 38 rfl rfl)
  have h_sizes_borne : HasM (gx P w K mg base 7) 8 "sizes_borne" ["book", "state", "kind", "party", "number"] m_sizes_borne := has_sizes_borne (gx P w K mg base 7) rfl B C h_all_borne (at_of X G c 39 rfl rfl)
  have h_law_runs_right : HasM (gx P w K mg base 7) 8 "_law_runs_right" ["bag"] m_law_runs_right := has_law_runs_right (gx P w K mg base 7) rfl B C h_law_take h_law_row h_law_pieces h_law_some h_law_bent h_joined h_cut h_turns_of h_member_at h_row_of h_pieces_of h_are_pieces h_added h_column h_law_alike h_law_is_pieces (at_of X G c 63 rfl rfl)
  have h_law_paid_right : HasM (gx P w K mg base 8) 9 "_law_paid_right" ["bag", "book"] m_law_paid_right := has_law_paid_right (gx P w K mg base 8) rfl B C h_law_some h_law_bearers h_law_state h_law_bear h_law_take h_law_pieces h_borne_by h_paid_by h_used_pieces h_paid_pieces h_sizes_borne h_most_borne h_least_size h_steady_from h_law_alike (at_of X G c 65 rfl rfl)
  have hbag : _root_.G.Has P w K mg base 1 "_law_bag" ["script"] (spBag K) := has_law_bag (gx P w K mg base 0) B.abs_ (at_of X G c 42 rfl rfl)
  have S := sc_law
  refine F.ok S (fun vs H Q E h => ?_) (fun cdv A outer s H vs Q E hr h => ?_)
  · obtain ⟨_, _, rfl, _⟩ := h
    rfl
  obtain ⟨ts, T⟩ := evb_law (gx P w K mg base 9) rfl B C h_law_runs_right h_law_book h_law_paid_right h_law_turned h_law_bearers h_law_state h_law_losses h_law_bear h_law_alike h_first_unlike h_pays_so _ cdv A outer s H E
  refine ⟨_, PSs.nox (pss_cons (ps_set (i := 1) S.nd rfl (Or.inl rfl) (_root_.G.pe_fn hbag hr (by rfl) (pa_cons (pv 0) pa_nil))) (T.pe ⟨rfl, rfl, rfl, rfl, rfl, rfl, hr⟩)), rd_law T.snd h⟩
end K31
open PySem PySem.W PySem.Calls PyProof.Rows
set_option maxRecDepth 100000 in
set_option maxHeartbeats 0 in
theorem PySem.Challenge.cw_coverhall_k31_pieces_of_what_is_paid_holds : PySem.Challenge.rw_coverhall_k31_pieces_of_what_is_paid.Holds := by
  w_on; o_law
  refine HandSHeadRun.head_any (r := OpenLaw.row PySem.Challenge.rw_coverhall_k31_pieces_of_what_is_paid) (q := view (OpenLaw.row PySem.Challenge.rw_coverhall_k31_pieces_of_what_is_paid).prog [83]) (H := K31.hkL) (ob := K31.obL) (M := 6000) (loose := K31.namesL) (d := HandSHeadRun.topDef (OpenLaw.row PySem.Challenge.rw_coverhall_k31_pieces_of_what_is_paid).prog 83) (kwd := []) K31.obL_eq
    (by kernel_rfl) (fun s => by kernel_rfl) K31.runL (by kernel_rfl) (by kernel_rfl) (by kernel_rfl) (by rfl) (by first | assumption | decide +kernel) (by decide +kernel) ⟨rfl, rfl, rfl, rfl, rfl, by decide +kernel⟩ ?hw ?hc
  case hw => w_witness2
  case hc =>
    refine L2.walk_ofE (l := PySem.Challenge.rw_coverhall_k31_pieces_of_what_is_paid) (n := 63) (k := 10) (x := "script") (CX := L2.CX0) rfl (by decide) (by kernel_rfl) ⟨rfl, by decide, by decide⟩ ?F (fun _ _ _ _ z => z)
    intro w mg fa h Y G hmg0
    obtain ⟨K, KX, c⟩ := Y
    have hmg : mg ("law" : PySem.Str) = some (.ref fa) := by
      have e : (HandSHeadRun.topDef (OpenLaw.row PySem.Challenge.rw_coverhall_k31_pieces_of_what_is_paid).prog 83).name = ("law" : PySem.Str) := by kernel_rfl
      rw [← e]
      exact hmg0
    obtain ⟨fd, hb, hF⟩ := K31.factsL (P := (PySem.Challenge.rw_coverhall_k31_pieces_of_what_is_paid).prog) (w := w) KX G hmg c
    exact ⟨K, fd, K31.spLaw K, KX, hb, fun H a ns hl _ hS => ⟨a, ns, rfl, hl, hS, fun _ => rfl⟩, hF⟩
